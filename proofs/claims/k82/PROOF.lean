import PyProof.Rows.All
import PyProof.ReprReads
import PyProof.P3Statements
import KE.DataMinMax
import KE.IntText
import PyProof.StrBlock2
import PyProof.StrBlockL
import Wide.All
import OpenK.AllK
import Wide.FinOn
import HandS.ForMost
import HandS.Exc
import HandS.TryOnly
import HandS.ExcOwn
import HandS.WordsExc
import HandS.TupAny
import HandS.TupMul
import HandS.IsInst
import HandS.Style
import HandS.Lambda
import HandS.Zip
import PyProof.ReprRoads
import HandS.SetFor
import KE.GoesEnum
import HandS.SortRule
import HandS.Deep
import HandS.Conv
import HandS.Strs
import HandS.Flow
import HandS.SortInts
import PyProof.Claim2Refuses
import HandS.HotCalls
import HandS.ExcIs
import HandS.ExcField
import KE.KExcIs
import PyProof.EqAt
import HandS.TupSets
import HandS.Small
import HandS.TupLe
import KE.KDictSum
import HandS.ExcInit
import HandS.ClsMeth
import HandS.Text
import HandS.Replace
import HandS.Iter
import PyProof.EqKinds
import PySem.Challenge.RW_evenhues_k82_texts_read
set_option Elab.async false
set_option linter.all false
set_option autoImplicit false
set_option maxRecDepth 100000
/-! Python data, and programs over it as predicate transformers. -/
namespace Ev
open PySem (Str PyData)

inductive D where
  | non | bl (b : Bool) | int (i : Int) | str (x : Str)
  | tup (xs : List D) | lst (xs : List D)
  | dct (kvs : List (Sum Int Str × D))
  | pen (k : Bool) | scr (ns : List Int) | opq (a : Nat)

def keyPy : Sum Int Str → PyData
  | .inl i => .int i
  | .inr z => .str z
mutual
def D.py : D → PyData
  | .non => .none | .bl b => .bool b | .int i => .int i | .str x => .str x
  | .tup xs => .tuple (D.pys xs) | .lst xs => .list (D.pys xs)
  | .dct kvs => .dict (D.pyKv kvs)
  | .pen _ => .none | .scr _ => .none | .opq _ => .none
def D.pys : List D → List PyData
  | [] => []
  | x :: r => x.py :: D.pys r
def D.pyKv : List (Sum Int Str × D) → List (PyData × PyData)
  | [] => []
  | (k, v) :: r => (keyPy k, v.py) :: D.pyKv r
end
mutual
/-- plain data: nothing that only we know of; dk: dicts allowed -/
def D.plain (dk : Bool) : D → Bool
  | .non | .bl _ | .int _ | .str _ => true
  | .tup xs => D.plains dk xs
  | .lst xs => D.plains dk xs
  | .dct kvs => dk && D.plainKv dk kvs
  | .pen _ | .scr _ | .opq _ => false
def D.plains (dk : Bool) : List D → Bool
  | [] => true
  | x :: r => x.plain dk && D.plains dk r
def D.plainKv (dk : Bool) : List (Sum Int Str × D) → Bool
  | [] => true
  | (_, v) :: r => v.plain dk && D.plainKv dk r
end
theorem D.pys_map : ∀ xs : List D, D.pys xs = xs.map D.py
  | [] => by simp [D.pys]
  | x :: r => by simp [D.pys, D.pys_map r]
theorem D.plains_all (dk : Bool) : ∀ xs : List D, D.plains dk xs = xs.all (D.plain dk)
  | [] => by simp [D.plains]
  | x :: r => by simp [D.plains, D.plains_all dk r]

/-- an exception: its class's name, and what it keeps -/
structure Exn where
  cls : Str
  args : Option (Int × Int) := none

/-- what a piece of code may do, by what is wanted behind it -/
structure M (α : Type) where
  run : (α → Prop) → (Exn → Prop) → Prop
  mono : ∀ {Q Q' : α → Prop} {E E' : Exn → Prop}, (∀ a, Q a → Q' a) → (∀ e, E e → E' e) → run Q E → run Q' E'

theorem M.ext' {α : Type} {m n : M α} (h : ∀ Q E, m.run Q E ↔ n.run Q E) : m = n := by
  cases m with
  | mk r1 m1 =>
    cases n with
    | mk r2 m2 =>
      have e : r1 = r2 := by funext Q E; exact propext (h Q E)
      subst e
      rfl

protected def M.pure {α : Type} (a : α) : M α := ⟨fun Q _ => Q a, fun h _ x => h _ x⟩
protected def M.bind {α β : Type} (m : M α) (f : α → M β) : M β :=
  ⟨fun Q E => m.run (fun a => (f a).run Q E) E, fun h1 h2 x => m.mono (fun a y => (f a).mono h1 h2 y) h2 x⟩
instance : Monad M where
  pure := M.pure
  bind := M.bind
instance : LawfulMonad M := LawfulMonad.mk' M (id_map := fun _ => rfl) (pure_bind := fun _ _ => rfl) (bind_assoc := fun _ _ _ => rfl)

def fail {α : Type} : M α := ⟨fun _ _ => False, fun _ _ x => x⟩
def guard (p : Prop) : M Unit := ⟨fun Q _ => p ∧ Q (), fun h _ x => ⟨x.1, h _ x.2⟩⟩
def raise {α : Type} (e : Exn) : M α := ⟨fun _ E => E e, fun _ h x => h _ x⟩
/-- some number from 0 on below many -/
def draw (many : Int) : M D := ⟨fun Q _ => (0 < many ∧ many < 1073741824) ∧ ∀ k : Int, 0 ≤ k → k < many → Q (.int k), fun h _ x => ⟨x.1, fun k a b => h _ (x.2 k a b)⟩⟩

section
variable {α β : Type} {Q : α → Prop} {E : Exn → Prop}
theorem run_pure (a : α) : (pure a : M α).run Q E = Q a := rfl
theorem run_bind (m : M β) (f : β → M α) : (m >>= f).run Q E = m.run (fun a => (f a).run Q E) E := rfl
theorem run_map (m : M β) (f : β → α) : (f <$> m).run Q E = m.run (fun a => Q (f a)) E := rfl
theorem run_guard (p : Prop) (Q : Unit → Prop) : (guard p).run Q E = (p ∧ Q ()) := rfl
theorem run_raise (e : Exn) : (raise e : M α).run Q E = E e := rfl
theorem run_fail : (fail : M α).run Q E = False := rfl
theorem run_draw (many : Int) (Q : D → Prop) : (draw many).run Q E = ((0 < many ∧ many < 1073741824) ∧ ∀ k : Int, 0 ≤ k → k < many → Q (.int k)) := rfl
theorem run_ite (c : Prop) [Decidable c] (a b : M α) : (if c then a else b).run Q E = if c then a.run Q E else b.run Q E := by
  by_cases h : c
  · rw [if_pos h, if_pos h]
  · rw [if_neg h, if_neg h]
theorem guard_true {p : Prop} (h : p) : guard p = pure () := M.ext' fun Q E => ⟨fun x => x.2, fun x => ⟨h, x⟩⟩
theorem guard_bind {p : Prop} (h : p) (f : Unit → M α) : (guard p >>= f) = f () := by rw [guard_true h]; rfl
theorem fail_bind (f : β → M α) : ((fail : M β) >>= f) = fail := rfl
theorem raise_bind (e : Exn) (f : β → M α) : ((raise e : M β) >>= f) = raise e := rfl
end

/-! ### what Python's operators do -/
def line : Nat := PySem.sizeLine

/-- a test and, or, not -/
def andM (a b : M Bool) : M Bool := a >>= fun x => if x then b else pure false
def orM (a b : M Bool) : M Bool := a >>= fun x => if x then pure true else b
def notM (a : M Bool) : M Bool := a >>= fun x => pure (!x)
/-- the same as values -/
def isB : D → M Bool
  | .bl b => pure b
  | _ => fail
def ofB (a : M Bool) : M D := a >>= fun b => pure (.bl b)

inductive Ty | int | bool | str | tuple | list | dict
  deriving DecidableEq
def D.isa : Ty → D → Option Bool
  | t, .non => some false
  | t, .bl _ => some (t == .bool || t == .int)
  | t, .int _ => some (t == .int)
  | t, .str _ => some (t == .str)
  | t, .tup _ => some (t == .tuple)
  | t, .lst _ => some (t == .list)
  | t, .dct _ => some (t == .dict)
  | _, _ => none
def isaM (t : Ty) (d : D) : M D := match d.isa t with | some b => pure (.bl b) | none => fail

def D.len : D → M D
  | .tup xs => pure (.int xs.length)
  | .lst xs => pure (.int xs.length)
  | .scr ns => pure (.int ns.length)
  | .str z => guard (z.length ≤ line) >>= fun _ => pure (.int z.length)
  | .dct kvs => pure (.int kvs.length)
  | _ => fail

def atI' {α : Type} (xs : List α) (i : Int) : Option α :=
  if 0 ≤ i then (if i < xs.length then xs[i.toNat]? else none) else (if -(xs.length : Int) ≤ i then xs[(i + xs.length).toNat]? else none)
def ofO {α : Type} : Option α → M α
  | some a => pure a
  | none => fail
def D.ix : D → D → M D
  | .tup xs, .int i => ofO (atI' xs i)
  | .lst xs, .int i => ofO (atI' xs i)
  | .scr ns, .int i => ofO (atI' ns i) >>= fun n => pure (.int n)
  | _, _ => fail

def D.add : D → D → M D
  | .int i, .int j => pure (.int (i + j))
  | .tup xs, .tup ys => guard (xs.length + ys.length ≤ line) >>= fun _ => pure (.tup (xs ++ ys))
  | .lst xs, .lst ys => guard (xs.length + ys.length ≤ line) >>= fun _ => pure (.lst (xs ++ ys))
  | .str x, .str y => guard (x.length + y.length ≤ line) >>= fun _ => pure (.str (x ++ y))
  | _, _ => fail
def D.sub : D → D → M D
  | .int i, .int j => pure (.int (i - j))
  | _, _ => fail
def smallI (i : Int) : Prop := -(2 ^ 64) < i ∧ i < 2 ^ 64
def rep {α : Type} (k : Int) (xs : List α) : List α := (List.replicate k.toNat xs).flatten
def D.mul : D → D → M D
  | .int i, .int j => guard (smallI i ∨ smallI j) >>= fun _ => pure (.int (i * j))
  | .tup xs, .int k => guard (xs ≠ [] ∧ 2 ≤ k ∧ k ≤ 1000 ∧ xs.length ≤ 1000) >>= fun _ => pure (.tup (rep k xs))
  | .lst xs, .int k => guard (k ≤ 1000 ∧ xs.length ≤ 1000 ∧ -(2 ^ 63) ≤ k) >>= fun _ => pure (.lst (rep k xs))
  | _, _ => fail
def D.fdiv : D → D → M D
  | .int i, .int j => guard (0 < j ∧ j < 1073741824) >>= fun _ => pure (.int (i / j))
  | _, _ => fail
def D.mod : D → D → M D
  | .int i, .int j => guard (0 < j) >>= fun _ => pure (.int (i % j))
  | _, _ => fail
def D.pow : D → D → M D
  | .int i, .int j => guard (0 ≤ j ∧ j ≤ 1000000 ∧ i.natAbs < 2 ^ 64) >>= fun _ => pure (.int (i ^ j.toNat))
  | _, _ => fail
def D.neg : D → M D
  | .int i => pure (.int (-i))
  | _ => fail

/-! comparisons -/
def D.lt : D → D → M D
  | .int i, .int j => pure (.bl (decide (i < j)))
  | _, _ => fail
def D.le : D → D → M D
  | .int i, .int j => pure (.bl (decide (i ≤ j)))
  | _, _ => fail
def D.gt : D → D → M D
  | .int i, .int j => pure (.bl (decide (j < i)))
  | _, _ => fail
def D.ge : D → D → M D
  | .int i, .int j => pure (.bl (decide (j ≤ i)))
  | _, _ => fail
/-- may be compared by == -/
def D.cmp (d : D) : Bool := d.plain false && d.py.canLay0 && decide (d.py.depth ≤ 64)
def D.eqv (a b : D) : Bool := PyData.eqv a.py b.py
def D.eq (a b : D) : M D := guard (a.cmp = true ∧ b.cmp = true) >>= fun _ => pure (.bl (a.eqv b))
def D.ne (a b : D) : M D := guard (a.cmp = true ∧ b.cmp = true) >>= fun _ => pure (.bl (!a.eqv b))
/-- texts -/
def D.eqS : D → D → M D
  | .str x, .str y => pure (.bl (decide (x = y)))
  | _, _ => fail
def D.neS : D → D → M D
  | .str x, .str y => pure (.bl (!decide (x = y)))
  | _, _ => fail
def D.isN : D → Bool
  | .non => true
  | _ => false
def D.isNM (d : D) : M D := pure (.bl d.isN)
def D.notNM (d : D) : M D := pure (.bl (!d.isN))
def D.items : D → M (List D)
  | .tup xs => pure xs
  | .lst xs => pure xs
  | _ => fail
def D.inn (x : D) (s : D) : M D := s.items >>= fun xs => guard (x.cmp = true ∧ (D.lst xs).cmp = true) >>= fun _ => pure (.bl (xs.any fun z => z.eqv x))
def D.notin (x : D) (s : D) : M D := s.items >>= fun xs => guard (x.cmp = true ∧ (D.lst xs).cmp = true) >>= fun _ => pure (.bl (!xs.any fun z => z.eqv x))

/-! texts of things -/
mutual
def nolst : PyData → Bool
  | .none | .bool _ | .int _ | .str _ => true
  | .list _ => false
  | .tuple xs => nolsts xs
  | .dict kvs => nolstKv kvs
def nolsts : List PyData → Bool
  | [] => true
  | x :: r => nolst x && nolsts r
def nolstKv : List (PyData × PyData) → Bool
  | [] => true
  | (k, v) :: r => nolst k && nolst v && nolstKv r
end
def D.shown (d : D) : Str := d.py.shown
def D.canShow (d : D) : Prop := d.plain true = true ∧ d.py.showable = true ∧ d.py.depth ≤ 60 ∧ d.py.shown.length ≤ line ∧ (d.py.hasDict = true → nolst d.py = true)
def D.repr (d : D) : M D := guard d.canShow >>= fun _ => pure (.str d.shown)

/-! built-in functions -/
def D.max2 : D → D → M D
  | .int i, .int j => pure (.int (if j > i then j else i))
  | _, _ => fail
def D.min2 : D → D → M D
  | .int i, .int j => pure (.int (if j < i then j else i))
  | _, _ => fail
def boolsL : List D → Option (List Bool)
  | [] => some []
  | .bl b :: r => (boolsL r).map (b :: ·)
  | _ :: _ => none
def intsL : List D → Option (List Int)
  | [] => some []
  | .int b :: r => (intsL r).map (b :: ·)
  | _ :: _ => none
def D.all : D → M D
  | .lst xs => ofO (boolsL xs) >>= fun bs => pure (.bl (bs.all id))
  | _ => fail
def D.any : D → M D
  | .lst xs => ofO (boolsL xs) >>= fun bs => pure (.bl (bs.any id))
  | _ => fail
def D.toTup : D → M D
  | .lst xs => pure (.tup xs)
  | .tup xs => pure (.tup xs)
  | _ => fail
def D.toLst : D → M D
  | .lst xs => pure (.lst xs)
  | .tup xs => pure (.lst xs)
  | _ => fail
def D.toInt : D → M D
  | .int i => pure (.int i)
  | .bl b => pure (.int (if b then 1 else 0))
  | _ => fail
def rangeL (lo hi : Int) : List D := (List.range (hi - lo).toNat).map fun i : Nat => D.int (lo + (i : Int))
def inR (i : Int) : Prop := -(2 ^ 62) ≤ i ∧ i < 2 ^ 62
def range1 : D → M (List D)
  | .int j => guard (inR j) >>= fun _ => pure (rangeL 0 j)
  | _ => fail
def range2 : D → D → M (List D)
  | .int i, .int j => guard (inR i ∧ inR j) >>= fun _ => pure (rangeL i j)
  | _, _ => fail

/-! slices: step 1 -/
def sIx' (n d : Nat) : Option Int → Nat
  | none => d
  | some v => if v < 0 then (v + n).toNat else min v.toNat n
def cutL {α : Type} (xs : List α) (lo hi : Option Int) : List α := (xs.drop (sIx' xs.length 0 lo)).take (sIx' xs.length xs.length hi - sIx' xs.length 0 lo)
def D.optI : Option D → M (Option Int)
  | none => pure none
  | some (.int i) => pure (some i)
  | some _ => fail
def D.cut (d : D) (lo hi : Option D) : M D := D.optI lo >>= fun l => D.optI hi >>= fun h => match d with
  | .tup xs => pure (.tup (cutL xs l h))
  | .lst xs => pure (.lst (cutL xs l h))
  | _ => fail

/-! ### statements -/
inductive Fl (S L : Type) where
  | nx (s : S) | rt (d : D) | bk (l : L) | ct (l : L)
def forM {S L : Type} (body : D → S → M (Fl S S)) : List D → S → M (Fl S L)
  | [], s => pure (.nx s)
  | x :: r, s => body x s >>= fun f => match f with
    | .nx s' => forM body r s'
    | .ct s' => forM body r s'
    | .bk s' => pure (.nx s')
    | .rt d => pure (.rt d)
def whileN {S L : Type} (c : S → M Bool) (body : S → M (Fl S S)) : Nat → S → M (Fl S L)
  | 0, _ => fail
  | n + 1, s => c s >>= fun b => if b then body s >>= fun f => match f with
      | .nx s' => whileN c body n s'
      | .ct s' => whileN c body n s'
      | .bk s' => pure (.nx s')
      | .rt d => pure (.rt d)
    else pure (.nx s)
def whileM {S L : Type} (c : S → M Bool) (body : S → M (Fl S S)) (s : S) : M (Fl S L) :=
  ⟨fun Q E => ∃ n, (whileN c body n s).run Q E, fun h1 h2 ⟨n, x⟩ => ⟨n, (whileN c body n s).mono h1 h2 x⟩⟩
/-- one block behind another -/
def seqM {S T L : Type} (a : M (Fl S L)) (b : S → M (Fl T L)) : M (Fl T L) := a >>= fun f => match f with
  | .nx s => b s
  | .rt d => pure (.rt d)
  | .bk l => pure (.bk l)
  | .ct l => pure (.ct l)
/-- a def's end -/
def endM {L : Type} (a : M (Fl Unit L)) : M D := a >>= fun f => match f with
  | .nx _ => pure .non
  | .rt d => pure d
  | .bk _ => fail
  | .ct _ => fail
/-- a list comprehension -/
def lcM (f : D → M (Option D)) : List D → List D → M (List D)
  | [], acc => pure acc
  | x :: r, acc => f x >>= fun o => match o with
    | none => lcM f r acc
    | some y => guard (acc.length < line) >>= fun _ => lcM f r (acc ++ [y])
/-- nothing may be raised -/
def nox {α : Type} (m : M α) : M α := ⟨fun Q _ => m.run Q fun _ => False, fun h _ x => m.mono h (fun _ z => z) x⟩
def lcIf (t : M Bool) (e : M D) : M (Option D) := t >>= fun b => if b then (e >>= fun y => pure (some y)) else pure none
def lcAll (e : M D) : M (Option D) := e >>= fun y => pure (some y)
/-- a pair's parts -/
def un2 : D → M (D × D)
  | .tup [a, b] => pure (a, b)
  | _ => fail
def un3 : D → M (D × D × D)
  | .tup [a, b, c] => pure (a, b, c)
  | _ => fail
def itemsL : D → M (List D)
  | .tup xs => pure xs
  | .lst xs => pure xs
  | .scr ns => pure (ns.map D.int)
  | _ => fail
/-! ### what stands in the mirrors -/
def seqL : List (M D) → M (List D)
  | [] => pure []
  | m :: r => m >>= fun x => seqL r >>= fun xs => pure (x :: xs)
def bin (f : D → D → M D) (a b : M D) : M D := a >>= fun x => b >>= fun y => f x y
def asB (r : M D) : M Bool := r >>= isB
def andV (a b : M D) : M D := a >>= isB >>= fun k => if k then b else pure (.bl false)
def orV (a b : M D) : M D := a >>= isB >>= fun k => if k then pure (.bl true) else b
def notV (a : M D) : M D := a >>= isB >>= fun k => pure (.bl (!k))
def chainM (a b c : M D) (f f' : D → D → M D) : M D := a >>= fun x => b >>= fun y => f x y >>= isB >>= fun k => if k then (c >>= fun z => f' y z) else pure (.bl false)
def tupM (rs : List (M D)) : M D := seqL rs >>= fun ds => pure (.tup ds)
def lstM (rs : List (M D)) : M D := seqL rs >>= fun ds => pure (.lst ds)
def f1 (g : D → M D) : List D → M D
  | [x] => g x
  | _ => fail
def f2 (g : D → D → M D) : List D → M D
  | [x, y] => g x y
  | _ => fail
def callM (f : List D → M D) (rs : List (M D)) : M D := seqL rs >>= f
def D.cutI (d : D) (l h : Option Int) : M D := match d with
  | .tup xs => pure (.tup (cutL xs l h))
  | .lst xs => pure (.lst (cutL xs l h))
  | _ => fail
def partM (r : M D) : M (Option Int) := r >>= fun d => match d with
  | .int i => pure (some i)
  | _ => fail
def cutM (r : M D) (lo hi : M (Option Int)) (f : D → Option Int → Option Int → M D) : M D := r >>= fun d => lo >>= fun l => hi >>= fun h => f d l h
def D.toLst' : D → M (List D)
  | .lst xs => pure xs
  | .tup xs => pure xs
  | _ => fail
def fo1 (g : D → M (List D)) : List D → M (List D)
  | [x] => g x
  | _ => fail
def leave {T L : Type} (m : M (Fl Empty L)) : M (Fl T L) := m >>= fun f => match f with
  | .nx e => e.elim
  | .rt d => pure (.rt d)
  | .bk l => pure (.bk l)
  | .ct l => pure (.ct l)
def endO {L : Type} (a : M (Fl Unit L)) : M D := a >>= fun f => match f with
  | .nx _ => fail
  | .rt d => pure d
  | .bk _ => fail
  | .ct _ => fail
def endB {L : Type} (own : Bool) (a : M (Fl Unit L)) : M D := match own with
  | false => endM a
  | true => endO a
def asL : D → M (List D)
  | .lst xs => pure xs
  | _ => fail
def penOk (k : Bool) (ds : List D) : Prop := match k with
  | false => ∃ x y : Int, ds = [.int x, .int y] ∧ 0 ≤ x ∧ 0 ≤ y ∧ y < 2147483629
  | true => ∃ x b n y : Int, ds = [.int x, .int b, .int n, .int y] ∧ 0 ≤ n ∧ 0 ≤ y ∧ y < 1000000007
def drawF (k : Bool) : List D → M D
  | [.pen k', .int many] => if k = k' then draw many else fail
  | _ => fail
def D.eqA (a b : D) : M D := match a, b with
  | .str x, .str y => pure (.bl (decide (x = y)))
  | a, b => D.eq a b
def D.neA (a b : D) : M D := match a, b with
  | .str x, .str y => pure (.bl (!decide (x = y)))
  | a, b => D.ne a b
def D.scal : D → Prop
  | .non | .bl _ | .int _ | .str _ => True
  | _ => False
def tg1 (d : D) : M D := pure d
def lcF {T : Type} (rit : M (List D)) (tg : D → M T) (rt : T → M Bool) (re : T → M D) : M (List D) := rit >>= fun xs => nox (lcM (fun x => tg x >>= fun t => lcIf (rt t) (re t)) xs [])
def rng1 (rs : List (M D)) : M (List D) := seqL rs >>= fun ds => match ds with | [x] => range1 x | _ => fail
def rng2 (rs : List (M D)) : M (List D) := seqL rs >>= fun ds => match ds with | [x, y] => range2 x y | _ => fail
def forF {T L V : Type} (rit : M (List D)) (tg : D → M V) (s0 : T) (body : V → T → M (Fl T T)) : M (Fl T L) := rit >>= fun xs => forM (fun x s => tg x >>= fun v => body v s) xs s0
def parM {A : Type} (rs : List (M D)) (k : D → D → M A) : M A := seqL rs >>= fun ds => match ds with | [d, e] => k d e | _ => fail
def par3M {A : Type} (rs : List (M D)) (k : D → D → D → M A) : M A := seqL rs >>= fun ds => match ds with | [d, e, f] => k d e f | _ => fail
def appM {A : Type} (ds : List D) (r : M D) (k : D → M A) : M A := r >>= fun d => guard (ds.length < line) >>= fun _ => k d
def extM {A : Type} (ds : List D) (r : M D) (k : List D → M A) : M A := r >>= fun d => match d with | .lst es => guard (ds.length + es.length ≤ line) >>= fun _ => k es | _ => fail
def isNF (x y : D) : M D := match y with | .non => D.isNM x | _ => fail
def notNF (x y : D) : M D := match y with | .non => D.notNM x | _ => fail
/-! more words -/
def ixP (n : Nat) (i : Int) : Option Nat := if 0 ≤ i then (if i < n then some i.toNat else none) else if -(n : Int) ≤ i then some (i + n).toNat else none
def stoM {A : Type} (ds : List D) (r ri : M D) (k : List D → M A) : M A := r >>= fun d => ri >>= fun x => match x with
  | .int z => ofO (ixP ds.length z) >>= fun j => k (ds.set j d)
  | _ => fail
def maxI : List Int → Option Int
  | [] => none
  | x :: r => some (r.foldl max x)
def minI : List Int → Option Int
  | [] => none
  | x :: r => some (r.foldl min x)
def D.max1 : D → M D
  | .lst xs => ofO (intsL xs) >>= fun ns => ofO (maxI ns) >>= fun m => pure (.int m)
  | _ => fail
def D.min1 : D → M D
  | .lst xs => ofO (intsL xs) >>= fun ns => ofO (minI ns) >>= fun m => pure (.int m)
  | _ => fail
def D.sum1 : D → M D
  | .lst xs => ofO (intsL xs) >>= fun ns => pure (.int ns.sum)
  | _ => fail
/-- a method of a list -/
def lstMet (f : List D → List D → M D) (ro : M D) (rs : List (M D)) : M D := ro >>= fun d => match d with
  | .lst xs => seqL rs >>= fun ds => f xs ds
  | _ => fail
def cntL (xs : List D) : List D → M D
  | [.int k] => ofO (intsL xs) >>= fun ns => pure (.int (ns.count k))
  | _ => fail
theorem foldl_max_mem : ∀ (r : List Int) (x : Int), r.foldl max x ∈ x :: r ∧ ∀ y ∈ x :: r, y ≤ r.foldl max x
  | [], x => ⟨List.mem_cons_self, fun y hy => by rw [List.mem_singleton.mp hy]; exact Int.le_refl _⟩
  | z :: r, x => by
    obtain ⟨h1, h2⟩ := foldl_max_mem r (max x z)
    rw [List.foldl_cons]
    have h3 := h2 _ (List.mem_cons_self)
    refine ⟨?_, fun y hy => ?_⟩
    · rcases List.mem_cons.mp h1 with e | m
      · rw [e]
        by_cases c : x ≤ z
        · rw [show max x z = z by omega]; simp
        · rw [show max x z = x by omega]; simp
      · simp [m]
    · rcases List.mem_cons.mp hy with e | m
      · omega
      · rcases List.mem_cons.mp m with e | m
        · omega
        · exact h2 y (List.mem_cons_of_mem _ m)
theorem foldl_min_mem : ∀ (r : List Int) (x : Int), r.foldl min x ∈ x :: r ∧ ∀ y ∈ x :: r, r.foldl min x ≤ y
  | [], x => ⟨List.mem_cons_self, fun y hy => by rw [List.mem_singleton.mp hy]; exact Int.le_refl _⟩
  | z :: r, x => by
    obtain ⟨h1, h2⟩ := foldl_min_mem r (min x z)
    rw [List.foldl_cons]
    have h3 := h2 _ (List.mem_cons_self)
    refine ⟨?_, fun y hy => ?_⟩
    · rcases List.mem_cons.mp h1 with e | m
      · rw [e]
        by_cases c : x ≤ z
        · rw [show min x z = x by omega]; simp
        · rw [show min x z = z by omega]; simp
      · simp [m]
    · rcases List.mem_cons.mp hy with e | m
      · omega
      · rcases List.mem_cons.mp m with e | m
        · omega
        · exact h2 y (List.mem_cons_of_mem _ m)
/-! enumerate, sorted -/
def enumL (xs : List D) : List D := (List.range xs.length).map fun i => .tup [.int (i : Nat), xs.getD i .non]
def enumM (r : M D) : M (List D) := r >>= fun d => match d with
  | .tup xs => pure (enumL xs)
  | .lst xs => pure (enumL xs)
  | _ => fail
def lexI : List Int → List Int → Bool
  | _, [] => false
  | [], _ :: _ => true
  | x :: xs, y :: ys => if x = y then lexI xs ys else decide (x < y)
def putI (x : List Int) : List (List Int) → List (List Int)
  | [] => [x]
  | y :: r => if lexI y x then y :: putI x r else x :: y :: r
def sortI : List (List Int) → List (List Int)
  | [] => []
  | x :: r => putI x (sortI r)
def D.nums : D → Option (List Int)
  | .tup xs => intsL xs
  | _ => none
def numsL : List D → Option (List (List Int))
  | [] => some []
  | x :: r => x.nums.bind fun a => (numsL r).map (a :: ·)
def D.sortT : D → M (List D)
  | .lst xs => ofO (numsL xs) >>= fun ls => guard (ls.length < 2 ∨ ∀ l ∈ ls, l ≠ []) >>= fun _ => pure ((sortI ls).map fun l => .tup (l.map .int))
  | _ => fail
/-! slices with a step -/
def stepL {α : Type} (xs : List α) (lo hi : Option Int) (st : Int) : List α :=
  (List.range (PySem.Builtin.Slice.slicePlaces (PySem.Builtin.Slice.sliceAdjust lo hi st xs.length).1 (PySem.Builtin.Slice.sliceAdjust lo hi st xs.length).2 st)).filterMap fun k : Nat => xs[((PySem.Builtin.Slice.sliceAdjust lo hi st xs.length).1 + (k : Int) * st).toNat]?
def D.cutS (d : D) (l h s : Option Int) : M D := match d, s with
  | .tup xs, some c => guard (c ≠ 0 ∧ (stepL xs l h c).length ≤ line) >>= fun _ => pure (.tup (stepL xs l h c))
  | _, _ => fail
def cutSM (r : M D) (lo hi st : M (Option Int)) : M D := r >>= fun d => lo >>= fun l => hi >>= fun h => st >>= fun s => d.cutS l h s
/-- a tuple so many times -/
def D.mulA : D → D → M D
  | .tup xs, .int k => if xs ≠ [] ∧ 2 ≤ k then D.mul (.tup xs) (.int k) else guard (-(2 ^ 63) ≤ k ∧ k < 2 ^ 63) >>= fun _ => pure (.tup (rep k xs))
  | a, b => D.mul a b
/-! in -/
def innB (x : D) : D → M Bool
  | .lst xs => guard (x.cmp = true ∧ (D.lst xs).cmp = true) >>= fun _ => pure (xs.any fun z => z.eqv x)
  | .tup xs => (match x with
    | .int i => ofO (intsL xs) >>= fun ns => pure (ns.any fun n => n == i)
    | _ => fail)
  | _ => fail
def D.innA (x s : D) : M D := innB x s >>= fun b => pure (.bl b)
def D.notinA (x s : D) : M D := innB x s >>= fun b => pure (.bl (!b))
theorem enumL_get {xs : List D} {i : Nat} {x : D} (h : (enumL xs)[i]? = some x) : ∃ z, xs[i]? = some z ∧ x = .tup [.int (i : Nat), z] := by
  unfold enumL at h
  rw [List.getElem?_map, Option.map_eq_some_iff] at h
  obtain ⟨j, e1, rfl⟩ := h
  have hl := (List.getElem?_eq_some_iff.mp e1).1
  rw [List.length_range] at hl
  rw [List.getElem?_range hl] at e1
  cases e1
  refine ⟨_, List.getElem?_eq_getElem hl, ?_⟩
  rw [List.getD_eq_getElem?_getD, List.getElem?_eq_getElem hl]
  rfl
theorem enumL_len (xs : List D) : (enumL xs).length = xs.length := by
  unfold enumL
  rw [List.length_map, List.length_range]
theorem lexI_irr : ∀ x : List Int, lexI x x = false
  | [] => rfl
  | x :: r => by
    rw [lexI, if_pos rfl]
    exact lexI_irr r
theorem lexI_asym : ∀ x y : List Int, lexI x y = true → lexI y x = false
  | [], [], h => by cases h
  | _ :: _, [], h => by cases h
  | [], _ :: _, _ => rfl
  | x :: xs, y :: ys, h => by
    rw [lexI] at h ⊢
    by_cases e : x = y
    · rw [if_pos e] at h
      rw [if_pos e.symm]
      exact lexI_asym xs ys h
    · rw [if_neg e] at h
      rw [if_neg (fun z => e z.symm)]
      have := of_decide_eq_true h
      exact decide_eq_false (by omega)
theorem lexI_tr : ∀ x y z : List Int, lexI y x = false → lexI z y = false → lexI z x = false
  | [], _, [], _, _ => rfl
  | [], _, _ :: _, _, _ => rfl
  | _ :: _, [], _, h, _ => by cases h
  | _ :: _, _ :: _, [], _, h => by cases h
  | x :: xs, y :: ys, z :: zs, h, k => by
    rw [lexI] at h k ⊢
    by_cases e1 : y = x
    · subst e1
      rw [if_pos rfl] at h
      by_cases e2 : z = y
      · subst e2
        rw [if_pos rfl] at k ⊢
        exact lexI_tr xs ys zs h k
      · rw [if_neg e2] at k ⊢
        exact k
    · rw [if_neg e1] at h
      have h' := of_decide_eq_false h
      by_cases e2 : z = y
      · subst e2
        rw [if_neg e1]
        exact h
      · rw [if_neg e2] at k
        have k' := of_decide_eq_false k
        rw [if_neg (by omega)]
        exact decide_eq_false (by omega)
theorem lexI_anti : ∀ x y : List Int, lexI x y = false → lexI y x = false → x = y
  | [], [], _, _ => rfl
  | [], _ :: _, h, _ => by cases h
  | _ :: _, [], _, h => by cases h
  | x :: xs, y :: ys, h, k => by
    rw [lexI] at h k
    by_cases e : x = y
    · subst e
      rw [if_pos rfl] at h k
      rw [lexI_anti xs ys h k]
    · rw [if_neg e] at h
      rw [if_neg (fun z => e z.symm)] at k
      have := of_decide_eq_false h
      have := of_decide_eq_false k
      omega
theorem putI_perm (x : List Int) : ∀ r, (putI x r).Perm (x :: r)
  | [] => .refl _
  | y :: r => by
    rw [putI]
    split
    · exact ((putI_perm x r).cons y).trans (.swap x y r)
    · exact .refl _
theorem sortI_perm : ∀ r, (sortI r).Perm r
  | [] => .refl _
  | x :: r => by
    rw [sortI]
    exact (putI_perm x _).trans ((sortI_perm r).cons x)
theorem putI_sorted (x : List Int) : ∀ r, r.Pairwise (fun a b => lexI b a = false) → (putI x r).Pairwise (fun a b => lexI b a = false)
  | [], _ => List.pairwise_singleton _ _
  | y :: r, h => by
    rw [putI]
    have h' := List.pairwise_cons.mp h
    split
    · rename_i c
      refine List.pairwise_cons.mpr ⟨fun z hz => ?_, putI_sorted x r h'.2⟩
      rcases List.mem_cons.mp ((putI_perm x r).mem_iff.mp hz) with rfl | m
      · exact lexI_asym _ _ c
      · exact h'.1 z m
    · rename_i c
      refine List.pairwise_cons.mpr ⟨fun z hz => ?_, h⟩
      have c' : lexI y x = false := by simpa using c
      rcases List.mem_cons.mp hz with rfl | m
      · exact c'
      · exact lexI_tr x y z c' (h'.1 z m)
theorem sortI_sorted : ∀ r, (sortI r).Pairwise (fun a b => lexI b a = false)
  | [] => List.Pairwise.nil
  | x :: r => by
    rw [sortI]
    exact putI_sorted x _ (sortI_sorted r)
/-- one rising arrangement alone -/
theorem sorted_uniq : ∀ {l m : List (List Int)}, l.Pairwise (fun a b => lexI b a = false) → m.Pairwise (fun a b => lexI b a = false) → l.Perm m → l = m
  | [], m, _, _, p => by rw [p.nil_eq]
  | x :: l, m, hl, hm, p => by
    cases m with
    | nil => exact absurd p.length_eq (by simp)
    | cons y m =>
      have hl' := List.pairwise_cons.mp hl
      have hm' := List.pairwise_cons.mp hm
      have e : x = y := by
        rcases List.mem_cons.mp (p.mem_iff.mp (List.mem_cons_self)) with e | a
        · exact e
        · rcases List.mem_cons.mp (p.mem_iff.mpr (List.mem_cons_self)) with e | b
          · exact e.symm
          · exact lexI_anti x y (hm'.1 x a) (hl'.1 y b)
      subst e
      rw [sorted_uniq hl'.2 hm'.2 p.cons_inv]
theorem sortI_eq {l m : List (List Int)} (hl : l.Pairwise (fun a b => lexI b a = false)) (p : l.Perm m) : l = sortI m := sorted_uniq hl (sortI_sorted m) (p.trans (sortI_perm m).symm)
/-- is, of truths -/
def D.isB2 : D → D → M D
  | .bl a, .bl b => pure (.bl (decide (a = b)))
  | _, _ => fail
def D.notB2 : D → D → M D
  | .bl a, .bl b => pure (.bl (!decide (a = b)))
  | _, _ => fail
/-! list(range(..)) -/
def rgOk (a b : Int) : Prop := -(2 ^ 62) ≤ a ∧ a < 2 ^ 62 ∧ -(2 ^ 62) ≤ b ∧ b < 2 ^ 62 ∧ (b - a).toNat ≤ 2 ^ 24
def lrng1 (r : M D) : M (List D) := r >>= fun d => match d with
  | .int n => guard (rgOk 0 n) >>= fun _ => pure (rangeL 0 n)
  | _ => fail
def lrng2 (r s : M D) : M (List D) := r >>= fun d => s >>= fun e => match d, e with
  | .int m, .int n => guard (rgOk m n) >>= fun _ => pure (rangeL m n)
  | _, _ => fail
/-! list(range(a, b, c)) -/
def rg3 (a c : Int) (n : Nat) : List D := (List.range n).map fun i : Nat => D.int (a + (i : Int) * c)
def rg3N (a b c : Int) : Nat := if a < b then ((b - a - 1) / c).toNat + 1 else 0
def rg3Ok (a b c : Int) : Prop := 0 ≤ a ∧ a ≤ 1000000 ∧ 0 ≤ b ∧ b ≤ 1000000 ∧ 1 ≤ c ∧ c ≤ 1000000
def lrng3 (rs : List (M D)) : M (List D) := seqL rs >>= fun ds => match ds with
  | [.int a, .int b, .int c] => guard (rg3Ok a b c) >>= fun _ => pure (rg3 a c (rg3N a b c))
  | _ => fail
/-! sets of numbers -/
def ddI (ns : List Int) : List Int := ns.foldl (fun acc x => if acc.any (· == x) then acc else acc ++ [x]) []
def numsOf : D → Option (List Int)
  | .tup xs => intsL xs
  | .lst xs => intsL xs
  | _ => none
def lenSet (d : D) : M D := ofO (numsOf d) >>= fun ns => guard (ns.length ≤ 4000) >>= fun _ => pure (.int (ddI ns).length)
def putZ (x : Int) : List Int → List Int
  | [] => [x]
  | y :: r => if x < y then x :: y :: r else y :: putZ x r
def sortZ : List Int → List Int
  | [] => []
  | x :: r => putZ x (sortZ r)
def sortSet : D → M (List D)
  | .tup xs => ofO (intsL xs) >>= fun ns => guard (ns.length ≤ 4000 ∧ (ddI ns).length < 64) >>= fun _ => pure ((sortZ (ddI ns)).map .int)
  | _ => fail
/-! zip of two -/
def zipL (xs ys : List D) : List D := List.zipWith (fun a b => D.tup [a, b]) xs ys
def zipM (rs : List (M D)) : M (List D) := seqL rs >>= fun ds => match ds with
  | [.lst xs, .lst ys] => pure (zipL xs ys)
  | [.tup xs, .tup ys] => pure (zipL xs ys)
  | _ => fail
/-! str of a number -/
def D.strI : D → M D
  | .int i => guard (i.natAbs.log2 < 1920) >>= fun _ => pure (.str (toString i))
  | _ => fail
/-- a thing's truth -/
def D.tru : D → Option Bool
  | .non => some false
  | .bl b => some b
  | .int i => some (i != 0)
  | .tup xs => some (!xs.isEmpty)
  | .lst xs => some (!xs.isEmpty)
  | _ => none
def orT (a b : M D) : M D := a >>= fun x => match x.tru with
  | some k => if k then pure x else b
  | none => fail
def revLM : D → M D
  | .lst xs => pure (.lst xs.reverse)
  | _ => fail
/-- one of them (the least one) -/
def D.minT : D → M D
  | .lst xs => ⟨fun Q _ => (∃ ls, numsL xs = some ls ∧ ls ≠ []) ∧ ∀ x ∈ xs, Q x, fun h _ x => ⟨x.1, fun y hy => h y (x.2 y hy)⟩⟩
  | _ => fail
def D.sortA : D → M (List D)
  | .tup xs => ofO (intsL xs) >>= fun ns => pure ((sortZ ns).map .int)
  | .lst xs => D.sortT (.lst xs)
  | _ => fail
/-! count and index of truths -/
def cntB (xs : List D) : List D → M D
  | [.bl b] => ofO (boolsL xs) >>= fun bs => pure (.int (bs.count b))
  | _ => fail
def idxB (xs : List D) : List D → M D
  | [.bl b] => ofO (boolsL xs) >>= fun bs => ofO (bs.findIdx? (· == b)) >>= fun j => pure (.int j)
  | _ => fail
/-- what is told, or what F tells of the class of a refusal -/
def gotM (xs : List Str) (F : Str → List D → M D) (m : M D) : M D :=
  ⟨fun Q E => m.run Q (fun e => e.cls ∈ xs ∧ ∀ a : Nat, (F e.cls [.opq (2 * a + 1)]).run Q (fun _ => False)), fun h k x => m.mono h (fun _ z => ⟨z.1, fun a => (F _ _).mono h (fun _ y => y) (z.2 a)⟩) x⟩
/-- the word of a refusal (with what it keeps), or that it is told -/
def saidM (xs : List Str) (F : Str → List D → M D) (m : M D) : M D :=
  ⟨fun Q E => m.run (fun _ => Q (.str "told")) (fun e => e.cls ∈ xs ∧ ∀ a : Nat, (F e.cls [.opq (2 * a + 1)]).run (fun d => ∃ w : Str, d = .str w ∧ ((w ≠ "great" ∧ Q d) ∨ ∃ i j : Int, w = "great" ∧ e.cls = "TooGreat" ∧ e.args = some (i, j) ∧ Q (.tup [.str "great", .int i, .int j]))) (fun _ => False)),
    fun h k x => m.mono (fun _ z => h _ z) (fun _ z => ⟨z.1, fun a => (F _ _).mono (fun _ ⟨w, y, t⟩ => ⟨w, y, t.imp (fun t => ⟨t.1, h _ t.2⟩) (fun ⟨i, j, t1, t2, t3, t4⟩ => ⟨i, j, t1, t2, t3, h _ t4⟩)⟩) (fun _ y => y) (z.2 a)⟩) x⟩
/-- what TooGreat keeps, or None -/
def greatM (m : M D) : M D :=
  ⟨fun Q E => m.run (fun _ => Q .non) (fun e => e.cls = "TooGreat" ∧ ∃ i j : Int, e.args = some (i, j) ∧ Q (.tup [.int i, .int j])), fun h k x => m.mono (fun _ z => h _ z) (fun _ ⟨a, i, j, b, c⟩ => ⟨a, i, j, b, h _ c⟩) x⟩
/-- raise TooGreat(.., ..) -/
def tooD {A : Type} : List D → M A
  | [.int i, .int j] => raise ⟨"TooGreat", some (i, j)⟩
  | _ => fail
def tooM {A : Type} (rs : List (M D)) : M A := seqL rs >>= tooD
theorem tooD_run {A : Type} {ds : List D} {Q : A → Prop} {E : Exn → Prop} (h : (tooD ds).run Q E) : ∃ i j, ds = [.int i, .int j] ∧ E ⟨"TooGreat", some (i, j)⟩ := by
  unfold tooD at h
  split at h
  · exact ⟨_, _, rfl, h⟩
  · exact (show False from h).elim
/-- the call of a def that is handed about -/
def callV (is : List Nat) (F : Nat → List D → M D) (d : D) (rs : List (M D)) : M D := match d with
  | .opq m => if m / 2 ∈ is ∧ m % 2 = 0 then callM (F (m / 2)) rs else fail
  | _ => fail
/-- t.count(k) -/
def cntT (xs : List D) : List D → M D
  | [.int k] => ofO (intsL xs) >>= fun ns => pure (.int (ns.count k))
  | _ => fail
def tupCnt (ro : M D) (rs : List (M D)) : M D := ro >>= fun d => match d with
  | .tup xs => seqL rs >>= fun ds => cntT xs ds
  | _ => fail
theorem cntT_run {xs ds : List D} {Q : D → Prop} {E : Exn → Prop} (h : (cntT xs ds).run Q E) : ∃ ns k, intsL xs = some ns ∧ ds = [.int k] ∧ Q (.int (ns.count k : Nat)) := by
  unfold cntT at h
  split at h
  · cases e : intsL xs with
    | none =>
      rw [e] at h
      exact (show False from h).elim
    | some ns =>
      rw [e] at h
      exact ⟨ns, _, rfl, rfl, h⟩
  · exact (show False from h).elim
/-- d[1].append(..), d a tuple of three -/
def appR {A : Type} (d : D) (r : M D) (k : M A) : M A := match d with
  | .tup [_, .lst ds, _] => appM ds r (fun _ => k)
  | _ => fail
/-- max and min of a tuple of numbers -/
def D.mxT (g : List Int → Option Int) : D → M D
  | .tup xs => ofO (intsL xs) >>= fun ns => ofO (g ns) >>= fun m => pure (.int m)
  | _ => fail
def D.maxT1 (d : D) : M D := D.mxT maxI d
def D.minT1 (d : D) : M D := D.mxT minI d
end Ev

/-! more words of the mirrors -/
namespace Ev
open PySem (Str PyData)
/-- min of alike data: one of those that stand as the first of the least -/
def D.minG : D → M D
  | .lst xs => ⟨fun Q _ => ∃ x r, D.pys xs = x :: r ∧ PySem.W.AlikeAll (x :: r) ∧ PyData.depthAll (x :: r) ≤ 60 ∧ D.plains true xs = true ∧ ∀ d ∈ xs, d.py = PySem.W.minD x r → Q d,
      fun h _ ⟨x, r, a, b, c, d, k⟩ => ⟨x, r, a, b, c, d, fun z hz e => h z (k z hz e)⟩⟩
  | _ => fail
/-- << by a small number, >>, & of numbers that are not negative -/
def D.shl : D → D → M D
  | .int i, .int j => guard (0 ≤ j ∧ j ≤ 1000000 ∧ i.natAbs < 2 ^ 64) >>= fun _ => pure (.int (i * 2 ^ j.toNat))
  | _, _ => fail
def D.shr : D → D → M D
  | .int i, .int j => guard (0 ≤ j) >>= fun _ => pure (.int (i / 2 ^ j.toNat))
  | _, _ => fail
def D.band : D → D → M D
  | .int i, .int j => guard (0 ≤ i ∧ 0 ≤ j) >>= fun _ => pure (.int ((i.toNat &&& j.toNat : Nat) : Int))
  | _, _ => fail
/-- tuple(range(..)) -/
def trng1 (r : M D) : M D := r >>= fun d => match d with
  | .int n => guard (rgOk 0 n) >>= fun _ => pure (.tup (rangeL 0 n))
  | _ => fail
def trng3 (rs : List (M D)) : M D := seqL rs >>= fun ds => match ds with
  | [.int a, .int b, .int c] => guard (rg3Ok a b c) >>= fun _ => pure (.tup (rg3 a c (rg3N a b c)))
  | _ => fail
/-- a method of a tuple -/
def tupMet (f : List D → List D → M D) (ro : M D) (rs : List (M D)) : M D := ro >>= fun d => match d with
  | .tup xs => seqL rs >>= fun ds => f xs ds
  | _ => fail
def idxT (xs : List D) : List D → M D
  | [.int k] => ofO (intsL xs) >>= fun ns => ofO (ns.findIdx? (· == k)) >>= fun j => pure (.int j)
  | _ => fail
theorem idxT_run {xs ds : List D} {Q : D → Prop} {E : Exn → Prop} (h : (idxT xs ds).run Q E) : ∃ ns k j, intsL xs = some ns ∧ ds = [.int k] ∧ ns.findIdx? (· == k) = some j ∧ Q (.int (j : Nat)) := by
  unfold idxT at h
  split at h
  · rename_i k
    cases e : intsL xs with
    | none =>
      rw [e] at h
      exact (show False from h).elim
    | some ns =>
      rw [e] at h
      have h' : (ofO (ns.findIdx? (· == k)) >>= fun j => pure (D.int j)).run Q E := h
      cases e2 : ns.findIdx? (· == k) with
      | none =>
        rw [e2] at h'
        exact (show False from h').elim
      | some j =>
        rw [e2] at h'
        exact ⟨ns, k, j, rfl, rfl, e2, h'⟩
  · exact (show False from h).elim
/-- in, of a tuple of any data -/
def D.innG (neg : Bool) (x : D) : D → M D
  | .tup xs => guard (x.cmp = true ∧ (D.tup xs).cmp = true) >>= fun _ => pure (.bl (if neg then !(xs.any fun z => z.eqv x) else xs.any fun z => z.eqv x))
  | _ => fail
/-! dicts of one's own with plain keys -/
def dkeyOf : D → M (Sum Int Str)
  | .int i => pure (.inl i)
  | .str x => pure (.inr x)
  | _ => fail
def putD (kvs : List (Sum Int Str × D)) (k : Sum Int Str) (d : D) : List (Sum Int Str × D) :=
  if (kvs.any fun kv => decide (kv.1 = k)) = true then kvs.map (fun kv => if kv.1 = k then (kv.1, d) else kv) else kvs ++ [(k, d)]
def dputM {A : Type} (ds : List (Sum Int Str × D)) (r ri : M D) (k : List (Sum Int Str × D) → M A) : M A :=
  r >>= fun d => ri >>= fun x => dkeyOf x >>= fun y => guard (ds.length < line) >>= fun _ => k (putD ds y d)
theorem dkeyOf_run {d : D} {Q : Sum Int Str → Prop} {E : Exn → Prop} (h : (dkeyOf d).run Q E) : (∃ i, d = .int i ∧ Q (.inl i)) ∨ ∃ x, d = .str x ∧ Q (.inr x) := by
  cases d with
  | int i => exact .inl ⟨i, rfl, h⟩
  | str x => exact .inr ⟨x, rfl, h⟩
  | _ => exact (show False from h).elim
/-- sorted(d.values()), tuples of numbers -/
def sortVals (ds : List (Sum Int Str × D)) : M (List D) := D.sortT (.lst (ds.map (·.2)))
/-- sorted(set(x)), x a list of tuples of numbers -/
def ddT : List (List Int) → List (List Int)
  | [] => []
  | x :: r => if x ∈ ddT r then ddT r else x :: ddT r
def sortSetT : D → M (List D)
  | .lst xs => ofO (numsL xs) >>= fun ls => guard (ls.length < 64 ∧ ((ddT ls).length < 2 ∨ ∀ l ∈ ls, l ≠ [])) >>= fun _ => pure ((sortI (ddT ls)).map fun l => .tup (l.map .int))
  | _ => fail
theorem ddT_mem : ∀ (r : List (List Int)) (x : List Int), x ∈ ddT r ↔ x ∈ r
  | [], x => by simp [ddT]
  | y :: r, x => by
    rw [ddT]
    split
    · rename_i h
      rw [ddT_mem r x, List.mem_cons]
      exact ⟨.inr, fun z => z.elim (fun e => e ▸ (ddT_mem r y).mp h) id⟩
    · rw [List.mem_cons, List.mem_cons, ddT_mem r x]
theorem ddT_nd : ∀ r : List (List Int), (ddT r).Nodup
  | [] => List.nodup_nil
  | y :: r => by
    rw [ddT]
    split
    · exact ddT_nd r
    · rename_i h
      exact List.nodup_cons.mpr ⟨h, ddT_nd r⟩
/-- sep.join(x), x a list or a tuple of texts -/
def strsL : List D → Option (List Str)
  | [] => some []
  | .str x :: r => (strsL r).map (x :: ·)
  | _ => none
def D.joinS : D → D → M D
  | .str a, .lst xs => ofO (strsL xs) >>= fun ys => guard ((ys.map (·.length)).sum + ys.length * a.length ≤ 16777216) >>= fun _ => pure (.str (Str.join a ys))
  | .str a, .tup xs => ofO (strsL xs) >>= fun ys => guard ((ys.map (·.length)).sum + ys.length * a.length ≤ 16777216) >>= fun _ => pure (.str (Str.join a ys))
  | _, _ => fail
def joinM (ro re : M D) : M D := ro >>= fun d => match d with
  | .str a => re >>= D.joinS (.str a)
  | _ => fail
/-- >, of numbers or of tuples of numbers -/
def D.gtA : D → D → M D
  | .int i, .int j => pure (.bl (decide (j < i)))
  | .tup xs, .tup ys => ofO (intsL xs) >>= fun ns => ofO (intsL ys) >>= fun ms => pure (.bl (lexI ms ns))
  | _, _ => fail
/-- xs.pop(i) for each of a loop's things -/
def popAt (l : List D) : D → M (D × List D)
  | .int i => guard (-(2 ^ 63) ≤ i ∧ i < 2 ^ 63) >>= fun _ => ofO (ixP l.length i) >>= fun k => ofO l[k]? >>= fun y => pure (y, l.eraseIdx k)
  | _ => fail
theorem popAt_run {l : List D} {d : D} {Q : D × List D → Prop} {E : Exn → Prop} (h : (popAt l d).run Q E) : ∃ i k y, d = .int i ∧ -(2 ^ 63) ≤ i ∧ i < 2 ^ 63 ∧ ixP l.length i = some k ∧ l[k]? = some y ∧ Q (y, l.eraseIdx k) := by
  cases d with
  | int i =>
    obtain ⟨⟨h1, h2⟩, h⟩ := h
    have h : (ofO (ixP l.length i) >>= fun k => ofO l[k]? >>= fun y => pure (y, l.eraseIdx k)).run Q E := h
    cases e : ixP l.length i with
    | none =>
      rw [e] at h
      exact (show False from h).elim
    | some k =>
      rw [e] at h
      have h : (ofO l[k]? >>= fun y => pure (y, l.eraseIdx k)).run Q E := h
      cases e2 : l[k]? with
      | none =>
        rw [e2] at h
        exact (show False from h).elim
      | some y =>
        rw [e2] at h
        exact ⟨i, k, y, rfl, h1, h2, e, e2, h⟩
  | _ => exact (show False from h).elim
def popsL (rd : D → List D → M D) : List D → List D → List D → M (List D)
  | [], _, acc => pure acc
  | t :: r, l, acc => rd t l >>= fun d => popAt l d >>= fun p => guard (acc.length < line) >>= fun _ => popsL rd r p.2 (acc ++ [p.1])
/-! scalars and tuples of them -/
mutual
def D.tupy : D → Bool
  | .non | .bl _ | .int _ | .str _ => true
  | .tup xs => D.tupys xs
  | _ => false
def D.tupys : List D → Bool
  | [] => true
  | x :: r => x.tupy && D.tupys r
end
/-- if key not in d: d[key] = m; return d[key] -/
def memoM {T L : Type} (R : Sum Int Str → D → Prop) (ks : List (Sum Int Str)) (dk : D) (m : M D) : M (Fl T L) := match dk with
  | .str z => ⟨fun Q E => (.inr z ∈ ks ∧ ks.length < line) ∧ m.run (fun d => R (.inr z) d ∧ d.tupy = true) E ∧ ∀ d, R (.inr z) d → Q (.rt d), fun h1 h2 x => ⟨x.1, m.mono (fun _ y => y) h2 x.2.1, fun d hd => h1 _ (x.2.2 d hd)⟩⟩
  | _ => fail
def memoD {T L : Type} (R : Nat → Sum Int Str → D → Prop) (ks : Nat → List (Sum Int Str)) (dm dk : D) (m : M D) : M (Fl T L) := match dm with
  | .opq n => if n % 2 = 0 ∧ 1000000 ≤ n / 2 ∧ n / 2 < 1000000000000000000000000000000 then memoM (R (n / 2 - 1000000)) (ks (n / 2 - 1000000)) dk m else fail
  | _ => fail
/-- if key not in d: ..; return d[key], and the store at the end of its block -/
def memoTM {T L : Type} (R : Sum Int Str → D → Prop) (dk : D) (m : M (Fl T L)) : M (Fl T L) := match dk with
  | .str z => ⟨fun Q E => m.run Q E ∧ ∀ d, R (.inr z) d → Q (.rt d), fun h1 h2 x => ⟨m.mono h1 h2 x.1, fun d hd => h1 _ (x.2 d hd)⟩⟩
  | _ => fail
def memoT {T L : Type} (R : Nat → Sum Int Str → D → Prop) (dm dk : D) (m : M (Fl T L)) : M (Fl T L) := match dm with
  | .opq n => if n % 2 = 0 ∧ 1000000 ≤ n / 2 ∧ n / 2 < 1000000000000000000000000000000 then memoTM (R (n / 2 - 1000000)) dk m else fail
  | _ => fail
def memoPM {T L : Type} (R : Sum Int Str → D → Prop) (ks : List (Sum Int Str)) (dk : D) (m : M D) : M (Fl T L) := match dk with
  | .str z => ⟨fun Q E => (.inr z ∈ ks ∧ ks.length < line) ∧ m.run (fun d => (R (.inr z) d ∧ d.tupy = true) ∧ Q (.rt d)) E, fun h1 h2 x => ⟨x.1, m.mono (fun _ y => ⟨y.1, h1 _ y.2⟩) h2 x.2⟩⟩
  | _ => fail
def memoP {T L : Type} (R : Nat → Sum Int Str → D → Prop) (ks : Nat → List (Sum Int Str)) (dm dk : D) (m : M D) : M (Fl T L) := match dm with
  | .opq n => if n % 2 = 0 ∧ 1000000 ≤ n / 2 ∧ n / 2 < 1000000000000000000000000000000 then memoPM (R (n / 2 - 1000000)) (ks (n / 2 - 1000000)) dk m else fail
  | _ => fail
/-! dicts that are read -/
def valD : List (Sum Int Str × D) → Sum Int Str → Option D
  | [], _ => none
  | (j, d) :: r, k => if j = k then some d else valD r k
/-- k in d, k not in d -/
def dinM (neg : Bool) (rk rd : M D) : M D := rk >>= fun x => rd >>= fun d => match d with
  | .dct kvs => dkeyOf x >>= fun k => pure (.bl (if neg then !(valD kvs k).isSome else (valD kvs k).isSome))
  | _ => fail
/-- d[k] -/
def dgetM (rd rk : M D) : M D := rd >>= fun d => rk >>= fun x => match d with
  | .dct kvs => dkeyOf x >>= fun k => ofO (valD kvs k)
  | _ => fail
/-- d.get(k) -/
def dget1M (rd rk : M D) : M D := rd >>= fun d => match d with
  | .dct kvs => rk >>= fun x => dkeyOf x >>= fun k => pure ((valD kvs k).getD .non)
  | _ => fail
/-- None, or a dict of one's own, from a call -/
def odM {A : Type} (r : M D) (kn : M A) (kd : List (Sum Int Str × D) → M A) : M A := r >>= fun d => match d with
  | .non => kn
  | .dct es => kd es
  | _ => fail
/-- x = {k: e} -/
def ddispM {A : Type} (rk rv : M D) (k : List (Sum Int Str × D) → M A) : M A := rk >>= fun x => rv >>= fun d => dkeyOf x >>= fun y => k [(y, d)]
/-- what is known of an instance of the class c -/
def objM {A : Type} (OB : Nat → Nat × List (Str × D)) (c : Nat) (d : D) (k : Nat → List (Str × D) → M A) : M A := match d with
  | .opq n => if n % 2 = 0 ∧ 1000000000000000000000000000000 ≤ n / 2 ∧ (OB (n / 2 - 1000000000000000000000000000000)).1 = c then k (n / 2 - 1000000000000000000000000000000) (OB (n / 2 - 1000000000000000000000000000000)).2 else fail
  | _ => fail
/-- o.f -/
def fldM (OB : Nat → Nat × List (Str × D)) (c : Nat) (f : Str) (r : M D) : M D := r >>= fun d => objM OB c d fun _ fs => ofO (fs.lookup f)
/-- o.m(..) -/
def methM (OB : Nat → Nat × List (Str × D)) (c : Nat) (m : Str) (F : List D → M D) (r : M D) (rs : List (M D)) : M D := r >>= fun d => objM OB c d fun _ fs => guard (fs.lookup m = none) >>= fun _ => seqL rs >>= fun ds => F (d :: ds)
/-- a new instance of two fields and a memo, of the kind that is wanted -/
def mkM (OB : Nat → Nat × List (Str × D)) (c : Nat) (n1 n2 n3 : Str) (rs : List (M D)) : M D := seqL rs >>= fun ds => match ds with
  | [d1, d2] => ⟨fun Q _ => ∃ j i : Nat, i < 999999999999999999999999000000 ∧ OB j = (c, [(n1, d1), (n2, d2), (n3, .opq (2 * (1000000 + i)))]) ∧ Q (.opq (2 * (1000000000000000000000000000000 + j))), fun h _ ⟨j, i, a, b, x⟩ => ⟨j, i, a, b, h _ x⟩⟩
  | _ => fail
/-- a new memo, of the kind that is wanted -/
def memNew : M D := ⟨fun Q _ => ∃ i : Nat, i < 999999999999999999999999000000 ∧ Q (.opq (2 * (1000000 + i))), fun h _ ⟨i, g, x⟩ => ⟨i, g, h _ x⟩⟩
/-- the last one popped -/
def popM {A : Type} (ds : List D) (k : D → M A) : M A := match ds.getLast? with | some d => k d | none => fail
def popsM {A : Type} (ds : List D) (rit : M (List D)) (rd : D → List D → M D) (k : D → M A) : M A := rit >>= fun xs => nox (popsL rd xs ds []) >>= fun acc => k (.tup acc)
def trng2 (r s : M D) : M D := r >>= fun d => s >>= fun e => match d, e with
  | .int m, .int n => guard (rgOk m n) >>= fun _ => pure (.tup (rangeL m n))
  | _, _ => fail
/-- sorted, of a list of numbers -/
def D.sortZL : D → M (List D)
  | .lst xs => ofO (intsL xs) >>= fun ns => pure ((sortZ ns).map .int)
  | _ => fail
/-- what is said of each of a list of kept lambdas -/
def saidL (xs : List Str) (F : Str → List D → M D) (ms : List (M D)) : M (List D) := seqL (ms.map (saidM xs F))
end Ev

/-! words of the mirrors about texts -/
namespace Ev
open PySem (Str PyData)
def oneS (c : Nat) : Str := ⟨#[c]⟩
/-- x[i], x a text or a list or a tuple -/
def D.ixX (x y : D) : M D := match x, y with
  | .str z, .int i => guard (z.length ≤ line) >>= fun _ => ofO (atI' z.cps.toList i) >>= fun c => pure (.str (oneS c))
  | x, y => D.ix x y
def cutT (z : Str) (l h : Option Int) : Str := ⟨(cutL z.cps.toList l h).toArray⟩
/-- x[l:h] -/
def D.cutX (d : D) (l h : Option Int) : M D := match d with
  | .str z => guard (z.length ≤ line) >>= fun _ => pure (.str (cutT z l h))
  | d => D.cutI d l h
/-- what x is gone through by -/
def itemsX (d : D) : M (List D) := match d with
  | .str z => pure (z.cps.toList.map fun c => D.str (oneS c))
  | d => itemsL d
/-- x in s, x a sign and s a text; or as elsewhere -/
def D.innX (neg : Bool) (x s : D) : M D := match s with
  | .str z => (match x with
    | .str y => (match y.cps.toList with
      | [c] => pure (.bl (if neg then !decide (c ∈ z.cps.toList) else decide (c ∈ z.cps.toList)))
      | _ => fail)
    | _ => fail)
  | s => if neg then D.notinA x s else D.innA x s
/-- x == s, x a dict and s a text; or as elsewhere -/
def D.eqX (x s : D) : M D := match x, s with
  | .dct _, .str _ => pure (.bl false)
  | x, s => D.eqA x s
/-- a text so often -/
def D.mulX (x y : D) : M D := match x, y with
  | .str z, .int n => guard (0 ≤ n ∧ n ≤ 1000 ∧ z.length ≤ 1000) >>= fun _ => pure (.str (PySem.Txt.mul z n))
  | x, y => D.mulA x y
/-- text.split(sep) -/
def D.split : D → D → M (List D)
  | .str a, .str b => guard ((b.length == 0) = false ∧ a.length + 2 ≤ line) >>= fun _ => pure ((PySem.Txt.split a b).map D.str)
  | _, _ => fail
def splitM (ro re : M D) : M (List D) := ro >>= fun d => match d with
  | .str a => re >>= D.split (.str a)
  | _ => fail
/-- text.index(sign) -/
def D.sidx : D → D → M D
  | .str a, .str b => match PySem.Builtin.Str.occurrences a b 0 a.length 1 with
    | i :: _ => pure (.int (i : Nat))
    | [] => fail
  | _, _ => fail
def sidxM (ro re : M D) : M D := ro >>= fun d => match d with
  | .str a => re >>= D.sidx (.str a)
  | _ => fail
/-- sorted(set(x)), x a list or a tuple of numbers -/
def sortSetX : D → M (List D)
  | .tup xs => ofO (intsL xs) >>= fun ns => guard (ns.length ≤ 4000 ∧ (ddI ns).length < 64) >>= fun _ => pure ((sortZ (ddI ns)).map .int)
  | .lst xs => ofO (intsL xs) >>= fun ns => guard (ns.length ≤ 4000 ∧ (ddI ns).length < 64) >>= fun _ => pure ((sortZ (ddI ns)).map .int)
  | _ => fail
/-- zip of two tuples -/
def zipT (rs : List (M D)) : M (List D) := seqL rs >>= fun ds => match ds with
  | [.tup xs, .tup ys] => pure (zipL xs ys)
  | _ => fail
/-- int(x) -/
def D.toIntX : D → M D
  | .str a => guard (a.length ≤ 640) >>= fun _ => ofO (PySem.intText? a) >>= fun n => pure (.int n)
  | d => D.toInt d
/-- a or b, a a text -/
def orS (a b : M D) : M D := a >>= fun x => match x with
  | .str y => guard (y.length ≤ line) >>= fun _ => if ((y.length : Int) != 0) = true then pure (.str y) else b
  | _ => fail
end Ev

namespace Ev
open PySem PySem.Spec L2

/-- the tables of code objects that turn, with the name of what each tells; the defs that are handed about -/
class Tb where
  T : List (Addr × Str)
  fa : Nat → Addr
  R : Nat → Sum Int Str → D → Prop
  ks : Nat → List (Sum Int Str)
  cl : Nat → Addr
  ob : Nat → Nat × List (Str × D)
def TabAny : HO → Prop := fun o => ∃ ps, o = .tbl ps
variable [Tb]
/-! ### worlds: what is frozen data (P), which things turn, and what always holds of them (N) -/
/-- what turns: a pen, a code object's table, a memo -/
inductive Kind where
  | pen (k : Bool) | tab | memo (K : PySem.W.Frag) (i : Nat)
structure Wd where
  P : Hp
  N : Addr → Option Kind
/-- a pen of either kind -/
def PenIs : Bool → HO → Prop
  | false => fun o => ∃ x y : Int, o = .lst [.int x, .int y] ∧ 0 ≤ x ∧ 0 ≤ y ∧ y < 2147483629
  | true => fun o => ∃ x b n y : Int, o = .lst [.int x, .int b, .int n, .int y] ∧ 0 ≤ n ∧ 0 ≤ y ∧ y < 1000000007
structure Le (W W' : Wd) : Prop where
  p : ∀ a o, W.P a = some o → W'.P a = some o
  n : ∀ a φ, W.N a = some φ → W'.N a = some φ
theorem Le.refl (W : Wd) : Le W W := ⟨fun _ _ h => h, fun _ _ h => h⟩
theorem Le.trans {A B C : Wd} (x : Le A B) (y : Le B C) : Le A C := ⟨fun a o h => y.p a o (x.p a o h), fun a φ h => y.n a φ (x.n a φ h)⟩
theorem Le.rd {W W' : Wd} (l : Le W W') {a : Addr} {u : HO} (h : Rd W.P a u) : Rd W'.P a u := by
  rcases h with h | ⟨o, h⟩
  · exact .inl (l.p _ _ h)
  · exact .inr ⟨o, l.p _ _ h⟩
theorem Le.sqL {K : PySem.W.Frag} {W W' : Wd} (l : Le W W') {a : Addr} {xs : List V} (h : SqL K W.P a xs) : SqL K W'.P a xs := by
  rcases h with h | h
  · exact .inl (l.rd h)
  · exact .inr h
/-- a tuple whose object has no dict of its own -/
def BqT (K : PySem.W.Frag) (P : Hp) (a : Addr) (xs : List V) : Prop := (∃ o, P a = some (.frz o (.tup xs)) ∧ o.dict = none) ∨
  ∃ o its n, K.lookup a = some o ∧ o.cls = .type "tuple" ∧ o.dict = none ∧ o.data = .seq its n ∧ its.size ≤ sizeLine ∧ Vals xs its.toList
theorem BqT.sq {K : PySem.W.Frag} {P : Hp} {a : Addr} {xs : List V} (h : BqT K P a xs) : SqT K P a xs := by
  rcases h with ⟨o, h, _⟩ | ⟨o, its, n, h1, h2, _, h3, h4, h5⟩
  · exact .inl (.inr ⟨o, h⟩)
  · exact .inr ⟨o, its, n, h1, h2, h3, h4, h5⟩
theorem Le.bqT {K : PySem.W.Frag} {W W' : Wd} (l : Le W W') {a : Addr} {xs : List V} (h : BqT K W.P a xs) : BqT K W'.P a xs := by
  rcases h with ⟨o, h, e⟩ | h
  · exact .inl ⟨o, l.p _ _ h, e⟩
  · exact .inr h
/-- a tuple is new -/
def NewT (H : Hp) (vs : List V) (Q : VK) : Prop := ∀ p o, H p = none → o.dict = none → Q (.ref p) (upd H p (.frz o (.tup vs)))


mutual
inductive Rep (K : PySem.W.Frag) (W : Wd) : V → D → Prop
  | non : Rep K W .non .non
  | bl (b : Bool) : Rep K W (.bl b) (.bl b)
  | int (i : Int) : Rep K W (.int i) (.int i)
  | str (x : Str) : Rep K W (.str x) (.str x)
  | tup {a : Addr} {vs : List V} {ds : List D} : BqT K W.P a vs → Reps K W vs ds → Rep K W (.ref a) (.tup ds)
  | lst {a : Addr} {vs : List V} {ds : List D} : W.P a = some (.lst vs) → Reps K W vs ds → Rep K W (.ref a) (.lst ds)
  | dct {a : Addr} {kvs : List (Key × V)} {ds : List (Sum Int Str × D)} : W.P a = some (.dK kvs) → RepKv K W kvs ds → Rep K W (.ref a) (.dct ds)
  | pen {a : Addr} {k : Bool} : W.N a = some (.pen k) → Rep K W (.ref a) (.pen k)
  | mem {a : Addr} {i : Nat} : W.N a = some (.memo K i) → i < 999999999999999999999999000000 → Rep K W (.ref a) (.opq (2 * (1000000 + i)))
  | obj {a dx : Addr} {fs : List (Str × V)} {j : Nat} : W.P a = some (.ins (Tb.cl (Tb.ob j).1) dx fs) → RepF K W fs (Tb.ob j).2 → Rep K W (.ref a) (.opq (2 * (1000000000000000000000000000000 + j)))
  | scr {a : Addr} {ns : List Int} : SqL K W.P a (ns.map V.int) → Rep K W (.ref a) (.scr ns)
  | fn (i : Nat) (h : i < 1000000) : Rep K W (.ref (Tb.fa i)) (.opq (2 * i))
  | raw (a : Addr) : Rep K W (.ref a) (.opq (2 * a + 1))
inductive Reps (K : PySem.W.Frag) (W : Wd) : List V → List D → Prop
  | nil : Reps K W [] []
  | cons {v : V} {d : D} {vs : List V} {ds : List D} : Rep K W v d → Reps K W vs ds → Reps K W (v :: vs) (d :: ds)
inductive RepF (K : PySem.W.Frag) (W : Wd) : List (Str × V) → List (Str × D) → Prop
  | nil : RepF K W [] []
  | cons {n : Str} {v : V} {d : D} {fs : List (Str × V)} {ds : List (Str × D)} : Rep K W v d → RepF K W fs ds → RepF K W ((n, v) :: fs) ((n, d) :: ds)
inductive RepKv (K : PySem.W.Frag) (W : Wd) : List (Key × V) → List (Sum Int Str × D) → Prop
  | nil : RepKv K W [] []
  | cons {k : Key} {v : V} {d : D} {vs : List (Key × V)} {ds : List (Sum Int Str × D)} : Rep K W v d → RepKv K W vs ds → RepKv K W ((k, v) :: vs) ((k, d) :: ds)
end
section
variable {K : PySem.W.Frag} {W W' : Wd}
mutual
theorem Rep.mono (l : Le W W') : ∀ {v : V} {d : D}, Rep K W v d → Rep K W' v d
  | _, _, .non => .non
  | _, _, .bl b => .bl b
  | _, _, .int i => .int i
  | _, _, .str x => .str x
  | _, _, .tup h r => .tup (l.bqT h) (Reps.mono l r)
  | _, _, .lst h r => .lst (l.p _ _ h) (Reps.mono l r)
  | _, _, .dct h r => .dct (l.p _ _ h) (RepKv.mono l r)
  | _, _, .pen h => .pen (l.n _ _ h)
  | _, _, .scr h => .scr (l.sqL h)
  | _, _, .mem h g => .mem (l.n _ _ h) g
  | _, _, .obj h r => .obj (l.p _ _ h) (RepF.mono l r)
  | _, _, .fn i h => .fn i h
  | _, _, .raw a => .raw a
theorem Reps.mono (l : Le W W') : ∀ {vs : List V} {ds : List D}, Reps K W vs ds → Reps K W' vs ds
  | _, _, .nil => .nil
  | _, _, .cons h r => .cons (Rep.mono l h) (Reps.mono l r)
theorem RepF.mono (l : Le W W') : ∀ {vs : List (Str × V)} {ds : List (Str × D)}, RepF K W vs ds → RepF K W' vs ds
  | _, _, .nil => .nil
  | _, _, .cons h r => .cons (Rep.mono l h) (RepF.mono l r)
theorem RepKv.mono (l : Le W W') : ∀ {vs : List (Key × V)} {ds : List (Sum Int Str × D)}, RepKv K W vs ds → RepKv K W' vs ds
  | _, _, .nil => .nil
  | _, _, .cons h r => .cons (Rep.mono l h) (RepKv.mono l r)
end
end
/-- the frozen tuples alone -/
def tupP (P : Hp) : Hp := fun b => match P b with
  | some (.frz o (.tup xs)) => some (.frz o (.tup xs))
  | _ => none
theorem tupP_some {P : Hp} {b : Addr} {u : HO} (h : tupP P b = some u) : P b = some u ∧ ∃ o xs, u = .frz o (.tup xs) := by
  unfold tupP at h
  split at h
  · rename_i o xs e
    cases h
    exact ⟨e, o, xs, rfl⟩
  · cases h
theorem tupP_of {P : Hp} {b : Addr} {o : Obj} {xs : List V} (h : P b = some (.frz o (.tup xs))) : tupP P b = some (.frz o (.tup xs)) := by
  unfold tupP
  rw [h]
/-- P' has P's tuples -/
def TupLe (P P' : Hp) : Prop := ∀ b o xs, P b = some (.frz o (.tup xs)) → P' b = some (.frz o (.tup xs))
def tupW (P : Hp) : Wd := ⟨tupP P, fun _ => none⟩
theorem tupW_le {P P' : Hp} (h : TupLe P P') : Le (tupW P) (tupW P') := ⟨fun a o e => by
  obtain ⟨e1, ob, xs, rfl⟩ := tupP_some e
  exact tupP_of (h _ _ _ e1), fun _ _ z => by cases z⟩
def KIs : Kind → Hp → HO → Prop
  | .pen k, _, o => PenIs k o
  | .tab, _, o => TabAny o
  | .memo K i, P, o => ∃ kvs ds, o = .dK kvs ∧ RepKv K (tupW P) kvs ds ∧ (∀ p ∈ ds, Tb.R i p.1 p.2 ∧ p.1 ∈ Tb.ks i) ∧ (ds.map (·.1)).Nodup
theorem KIs.mono {P P' : Hp} (h : TupLe P P') : ∀ {k : Kind} {o : HO}, KIs k P o → KIs k P' o
  | .pen _, _, x => x
  | .tab, _, x => x
  | .memo _ _, _, ⟨kvs, ds, e, r, g⟩ => ⟨kvs, ds, e, r.mono (tupW_le h), g⟩
theorem TupLe.refl (P : Hp) : TupLe P P := fun _ _ _ e => e
theorem Le.tup {W W' : Wd} (l : Le W W') : TupLe W.P W'.P := fun b o xs e => l.p b _ e
structure WOk (W : Wd) (H : Hp) : Prop where
  sub : ∀ a o, W.P a = some o → H a = some o
  pen : ∀ a φ, W.N a = some φ → W.P a = none ∧ ∃ o, H a = some o ∧ KIs φ W.P o
  tab : LamX.Tabs Tb.T H
  tb : ∀ b ps, H b = some (.tbl ps) → W.N b = some .tab ∧ ∃ q, (b, q) ∈ Tb.T
theorem WOk.rd {W : Wd} {H : Hp} (w : WOk W H) {a : Addr} {u : HO} (h : Rd W.P a u) : Rd H a u := by
  rcases h with h | ⟨o, h⟩
  · exact .inl (w.sub _ _ h)
  · exact .inr ⟨o, w.sub _ _ h⟩
theorem WOk.bqT {K : PySem.W.Frag} {W : Wd} {H : Hp} (w : WOk W H) {a : Addr} {xs : List V} (h : BqT K W.P a xs) : BqT K H a xs := by
  rcases h with ⟨o, h, e⟩ | h
  · exact .inl ⟨o, w.sub _ _ h, e⟩
  · exact .inr h
theorem WOk.sqT {K : PySem.W.Frag} {W : Wd} {H : Hp} (w : WOk W H) {a : Addr} {xs : List V} (h : BqT K W.P a xs) : SqT K H a xs := (w.bqT h).sq
theorem WOk.sqL {K : PySem.W.Frag} {W : Wd} {H : Hp} (w : WOk W H) {a : Addr} {xs : List V} (h : SqL K W.P a xs) : SqL K H a xs := by
  rcases h with h | h
  · exact .inl (w.rd h)
  · exact .inr h

section
variable {K : PySem.W.Frag} {W W' : Wd}
theorem Reps.length : ∀ {vs : List V} {ds : List D}, Reps K W vs ds → vs.length = ds.length
  | _, _, .nil => rfl
  | _, _, .cons _ r => by rw [List.length_cons, List.length_cons, Reps.length r]
theorem RepKv.length : ∀ {vs : List (Key × V)} {ds : List (Sum Int Str × D)}, RepKv K W vs ds → vs.length = ds.length
  | _, _, .nil => rfl
  | _, _, .cons _ r => by rw [List.length_cons, List.length_cons, RepKv.length r]
theorem Reps.append : ∀ {vs ws : List V} {ds es : List D}, Reps K W vs ds → Reps K W ws es → Reps K W (vs ++ ws) (ds ++ es)
  | _, _, _, _, .nil, s => s
  | _, _, _, _, .cons h r, s => .cons h (Reps.append r s)
theorem Reps.get : ∀ {vs : List V} {ds : List D} {i : Nat} {d : D}, Reps K W vs ds → ds[i]? = some d → ∃ v, vs[i]? = some v ∧ Rep K W v d
  | _, _, i, d, .nil, e => by simp at e
  | _, _, 0, d, .cons h r, e => by
    rw [List.getElem?_cons_zero] at e
    cases e
    exact ⟨_, rfl, h⟩
  | _, _, i + 1, d, .cons h r, e => by
    rw [List.getElem?_cons_succ] at e
    obtain ⟨v, h1, h2⟩ := Reps.get r e
    exact ⟨v, by rw [List.getElem?_cons_succ]; exact h1, h2⟩
theorem Reps.get' : ∀ {vs : List V} {ds : List D} {i : Nat} {v : V}, Reps K W vs ds → vs[i]? = some v → ∃ d, ds[i]? = some d ∧ Rep K W v d
  | _, _, i, d, .nil, e => by simp at e
  | _, _, 0, d, .cons h r, e => by
    rw [List.getElem?_cons_zero] at e
    cases e
    exact ⟨_, rfl, h⟩
  | _, _, i + 1, d, .cons h r, e => by
    rw [List.getElem?_cons_succ] at e
    obtain ⟨v, h1, h2⟩ := Reps.get' r e
    exact ⟨v, by rw [List.getElem?_cons_succ]; exact h1, h2⟩
theorem Reps.take : ∀ {vs : List V} {ds : List D} (n : Nat), Reps K W vs ds → Reps K W (vs.take n) (ds.take n)
  | _, _, 0, _ => by rw [List.take_zero, List.take_zero]; exact .nil
  | _, _, n + 1, .nil => by rw [List.take_nil, List.take_nil]; exact .nil
  | _, _, n + 1, .cons h r => by rw [List.take_succ_cons, List.take_succ_cons]; exact .cons h (Reps.take n r)
theorem Reps.drop : ∀ {vs : List V} {ds : List D} (n : Nat), Reps K W vs ds → Reps K W (vs.drop n) (ds.drop n)
  | _, _, 0, h => by rw [List.drop_zero, List.drop_zero]; exact h
  | _, _, n + 1, .nil => by rw [List.drop_nil, List.drop_nil]; exact .nil
  | _, _, n + 1, .cons h r => by rw [List.drop_succ_cons, List.drop_succ_cons]; exact Reps.drop n r
theorem Reps.set {v : V} {d : D} (h : Rep K W v d) : ∀ {vs : List V} {ds : List D} (n : Nat), Reps K W vs ds → Reps K W (vs.set n v) (ds.set n d)
  | _, _, _, .nil => by rw [List.set_nil, List.set_nil]; exact .nil
  | _, _, 0, .cons _ r => by rw [List.set_cons_zero, List.set_cons_zero]; exact .cons h r
  | _, _, n + 1, .cons q r => by rw [List.set_cons_succ, List.set_cons_succ]; exact .cons q (Reps.set h n r)
theorem Reps.reverse {vs : List V} {ds : List D} (h : Reps K W vs ds) : Reps K W vs.reverse ds.reverse := by
  induction ds generalizing vs with
  | nil => cases h; exact .nil
  | cons d ds ih =>
    cases h with
    | cons a b =>
      rw [List.reverse_cons, List.reverse_cons]
      exact (ih b).append (.cons a .nil)
theorem Reps.one {v : V} {ds : List D} (h : Reps K W [v] ds) : ∃ d, ds = [d] ∧ Rep K W v d := by
  cases h with
  | cons a b => cases b; exact ⟨_, rfl, a⟩
theorem Rep.inj_int {v : V} {i : Int} (h : Rep K W v (.int i)) : v = .int i := by cases h; rfl
theorem Rep.inj_bl {v : V} {i : Bool} (h : Rep K W v (.bl i)) : v = .bl i := by cases h; rfl
theorem Rep.inj_str {v : V} {i : Str} (h : Rep K W v (.str i)) : v = .str i := by cases h; rfl
end

/-! ### steps: what is tracked stays, new data are new objects -/
structure Step (W : Wd) (H : Hp) (W' : Wd) (H' : Hp) : Prop where
  le : Le W W'
  ok : WOk W' H'
  old : ∀ b o, H b = some o → W.N b = none → H' b = some o
  newP : ∀ b, H b ≠ none → W'.P b = W.P b
  newN : ∀ b, H b ≠ none → W'.N b = W.N b
section
variable {W W1 W2 : Wd} {H H1 H2 : Hp}
theorem Step.refl (w : WOk W H) : Step W H W H := ⟨Le.refl W, w, fun _ _ h _ => h, fun _ _ => rfl, fun _ _ => rfl⟩
theorem Step.keep (s : Step W H W1 H1) (w : WOk W H) {b : Addr} (h : H b ≠ none) : H1 b ≠ none := by
  cases hn : W.N b with
  | some φ =>
    obtain ⟨o, e, _⟩ := (s.ok.pen b φ (s.le.n b φ hn)).2
    rw [e]
    intro z
    cases z
  | none =>
    cases q : H b with
    | none => exact absurd q h
    | some o =>
      rw [s.old b o q hn]
      intro z
      cases z
theorem Step.trans (w : WOk W H) (a : Step W H W1 H1) (b : Step W1 H1 W2 H2) : Step W H W2 H2 where
  le := a.le.trans b.le
  ok := b.ok
  old := fun c o h hn => b.old c o (a.old c o h hn) ((a.newN c (by rw [h]; intro q; cases q)).trans hn)
  newP := fun c h => (b.newP c (a.keep w h)).trans (a.newP c h)
  newN := fun c h => (b.newN c (a.keep w h)).trans (a.newN c h)
/-! tables stay as they are where something else is written -/
def Soft (H : Hp) (a : Addr) : Prop := ∀ u, H a = some u → (∃ vs, u = .lst vs) ∨ ∃ kvs, u = .dK kvs
theorem soft_none {a : Addr} (h : H a = none) : Soft H a := fun u e => by rw [h] at e; cases e
theorem soft_lst {a : Addr} {vs : List V} (h : H a = some (.lst vs)) : Soft H a := fun u e => by rw [h] at e; cases e; exact .inl ⟨vs, rfl⟩
theorem soft_dct {a : Addr} {kvs : List (Key × V)} (h : H a = some (.dK kvs)) : Soft H a := fun u e => by rw [h] at e; cases e; exact .inr ⟨kvs, rfl⟩
theorem tabs_put {T : List (Addr × Str)} {a : Addr} {o : HO} (h : Soft H a) (t : LamX.Tabs T H) : LamX.Tabs T (upd H a o) := fun p hp => by
  obtain ⟨ps, h1, h2, h3⟩ := t p hp
  have n1 : p.1 ≠ a := fun e => by
    rcases h _ (e ▸ h1) with ⟨vs, z⟩ | ⟨vs, z⟩ <;> cases z
  refine ⟨ps, by rw [upd_ne n1]; exact h1, h2, fun pos cv hc => ?_⟩
  obtain ⟨c, e1, e2⟩ := h3 pos cv hc
  have n2 : c ≠ a := fun e => by
    rcases h _ (e ▸ e2) with ⟨vs, z⟩ | ⟨vs, z⟩
    · unfold LamX.CodeO at z
      cases z
    · unfold LamX.CodeO at z
      cases z
  exact ⟨c, e1, by rw [upd_ne n2]; exact e2⟩
theorem tb_put {N N' : Addr → Option Kind} {a : Addr} {o : HO} (ho : ∀ ps, o ≠ .tbl ps) (hN : ∀ b φ, N b = some φ → N' b = some φ) (t : ∀ b ps, H b = some (.tbl ps) → N b = some .tab ∧ ∃ q, (b, q) ∈ Tb.T) : ∀ b ps, (upd H a o) b = some (.tbl ps) → N' b = some .tab ∧ ∃ q, (b, q) ∈ Tb.T := fun b ps e => by
  by_cases q : b = a
  · subst q
    rw [upd_same] at e
    exact absurd (Option.some.inj e) (ho ps)
  · rw [upd_ne q] at e
    exact ⟨hN b _ (t b ps e).1, (t b ps e).2⟩
/-- a list of one's own, written -/
theorem WOk.putO {a : Addr} {o : HO} (w : WOk W H) (hP : W.P a = none) (hN : W.N a = none) (h : Soft H a) (ho : ∀ ps, o ≠ .tbl ps) : WOk W (upd H a o) where
  sub := fun b o e => by
    rw [upd_ne (fun z => by subst z; rw [hP] at e; cases e)]
    exact w.sub b o e
  pen := fun b φ hb => by
    obtain ⟨p1, x, p2, p3⟩ := w.pen b φ hb
    exact ⟨p1, x, by rw [upd_ne (fun z => by subst z; rw [hN] at hb; cases hb)]; exact p2, p3⟩
  tab := tabs_put h w.tab
  tb := tb_put ho (fun _ _ z => z) w.tb
theorem WOk.put {a : Addr} {vs us : List V} (w : WOk W H) (hP : W.P a = none) (hN : W.N a = none) (h : H a = some (.lst vs)) : WOk W (upd H a (.lst us)) := w.putO hP hN (soft_lst h) (fun _ z => nomatch z)
/-- a new object that is no data of ours -/
theorem Step.raw (w : WOk W H) {p : Addr} {o : HO} (h : H p = none) (ho : ∀ ps, o ≠ .tbl ps := by intro _ z; cases z) : Step W H W (upd H p o) := by
  have np : ∀ a u, H a = some u → (upd H p o) a = some u := fun a u e => by rw [upd_ne (ne_of_none e h)]; exact e
  refine ⟨Le.refl W, ⟨fun a u e => np a u (w.sub a u e), fun a φ ha => ?_, tabs_put (soft_none h) w.tab, tb_put ho (fun _ _ z => z) w.tb⟩, fun b u e _ => np b u e, fun _ _ => rfl, fun _ _ => rfl⟩
  obtain ⟨h1, x, e, q⟩ := w.pen a φ ha
  exact ⟨h1, x, np a _ e, q⟩
/-- a new object that is data -/
theorem Step.dat (w : WOk W H) {p : Addr} {o : HO} (h : H p = none) (ho : ∀ ps, o ≠ .tbl ps := by intro _ z; cases z) : Step W H ⟨upd W.P p o, W.N⟩ (upd H p o) := by
  have hp : W.P p = none := by
    cases q : W.P p with
    | none => rfl
    | some u => rw [w.sub p u q] at h; cases h
  have np : ∀ a u, H a = some u → (upd H p o) a = some u := fun a u e => by rw [upd_ne (ne_of_none e h)]; exact e
  refine ⟨⟨fun a u e => ?_, fun _ _ z => z⟩, ⟨fun a u e => ?_, fun a φ ha => ?_, tabs_put (soft_none h) w.tab, tb_put ho (fun _ _ z => z) w.tb⟩, fun b u e _ => np b u e, fun b hb => ?_, fun _ _ => rfl⟩
  · show (upd W.P p o) a = some u
    rw [upd_ne (ne_of_none e hp)]
    exact e
  · have e' : (upd W.P p o) a = some u := e
    by_cases q : a = p
    · subst q
      rw [upd_same] at e' ⊢
      exact e'
    · rw [upd_ne q] at e' ⊢
      exact w.sub a u e'
  · obtain ⟨h1, x, e, q⟩ := w.pen a φ ha
    have q1 : a ≠ p := fun z => by subst z; rw [e] at h; cases h
    refine ⟨?_, x, np a _ e, KIs.mono (fun b o' xs e2 => ?_) q⟩
    rotate_left
    · show (upd W.P p o) b = some _
      rw [upd_ne (ne_of_none e2 hp)]
      exact e2
    show (upd W.P p o) a = none
    rw [upd_ne q1]
    exact h1
  · show (upd W.P p o) b = W.P b
    have q : b ≠ p := fun z => hb (by rw [z]; exact h)
    rw [upd_ne q]
end

/-! ### slots: data, an object of one's own -/
/-- what a lambda that is kept is: its object's form, and its code's name -/
structure LamD where
  φ : Addr → Addr → HO → Prop
  q : Str
inductive OwnC where
  | lst (ds : List D) | dct (kvs : List (Sum Int Str × D)) | lam (ds : List LamD)
inductive Sl where
  | no | val (d : D) | ob (c : OwnC)
abbrev Sl.own (ds : List D) : Sl := .ob (.lst ds)
abbrev Sl.odc (ds : List (Sum Int Str × D)) : Sl := .ob (.dct ds)
def LamsR (W : Wd) (H : Hp) : List V → List LamD → Prop
  | [], [] => True
  | v :: vs, d :: ds => (∃ f N o, v = .ref f ∧ W.P f = some o ∧ d.φ f N o ∧ H N = some (LamX.CodeO N d.q) ∧ W.N N = none) ∧ LamsR W H vs ds
  | _, _ => False
theorem LamsR.to {W W' : Wd} {H H' : Hp} (hp : ∀ a o, W.P a = some o → W'.P a = some o) (hn : ∀ N q, H N = some (LamX.CodeO N q) → W.N N = none → H' N = some (LamX.CodeO N q) ∧ W'.N N = none) : ∀ {vs : List V} {ds : List LamD}, LamsR W H vs ds → LamsR W' H' vs ds
  | [], [], _ => trivial
  | v :: vs, d :: ds, h => by
    obtain ⟨⟨f, N, o, h1, h2, h3, h4, h5⟩, r⟩ := h
    obtain ⟨g1, g2⟩ := hn N _ h4 h5
    exact ⟨⟨f, N, o, h1, hp _ _ h2, h3, g1, g2⟩, LamsR.to hp hn r⟩
  | [], _ :: _, h => h.elim
  | _ :: _, [], h => h.elim
theorem LamsR.len {W : Wd} {H : Hp} : ∀ {vs : List V} {ds : List LamD}, LamsR W H vs ds → vs.length = ds.length
  | [], [], _ => rfl
  | v :: vs, d :: ds, h => by rw [List.length_cons, List.length_cons, LamsR.len h.2]
  | [], _ :: _, h => h.elim
  | _ :: _, [], h => h.elim
theorem LamsR.snoc {W : Wd} {H : Hp} {v : V} {d : LamD} (x : ∃ f N o, v = .ref f ∧ W.P f = some o ∧ d.φ f N o ∧ H N = some (LamX.CodeO N d.q) ∧ W.N N = none) : ∀ {vs : List V} {ds : List LamD}, LamsR W H vs ds → LamsR W H (vs ++ [v]) (ds ++ [d])
  | [], [], _ => ⟨x, trivial⟩
  | _ :: _, _ :: _, h => ⟨h.1, LamsR.snoc x h.2⟩
  | [], _ :: _, h => h.elim
  | _ :: _, [], h => h.elim
inductive HoR (K : PySem.W.Frag) (W : Wd) (H : Hp) : HO → OwnC → Prop
  | lst {vs : List V} {ds : List D} : Reps K W vs ds → HoR K W H (.lst vs) (.lst ds)
  | dct {kvs : List (Key × V)} {ds : List (Sum Int Str × D)} : RepKv K W kvs ds → HoR K W H (.dK kvs) (.dct ds)
  | lam {vs : List V} {ds : List LamD} : LamsR W H vs ds → HoR K W H (.lst vs) (.lam ds)
theorem HoR.to {K : PySem.W.Frag} {W W' : Wd} {H H' : Hp} (l : Le W W') (hn : ∀ N q, H N = some (LamX.CodeO N q) → W.N N = none → H' N = some (LamX.CodeO N q) ∧ W'.N N = none) {o : HO} {c : OwnC} (h : HoR K W H o c) : HoR K W' H' o c := by
  cases h with
  | lst r => exact .lst (r.mono l)
  | dct r => exact .dct (r.mono l)
  | lam r => exact .lam (r.to l.p hn)
theorem HoR.mono {K : PySem.W.Frag} {P : Hp} {W : Wd} {H : Hp} (l : Le W ⟨P, W.N⟩) {o : HO} {c : OwnC} (h : HoR K W H o c) : HoR K ⟨P, W.N⟩ H o c := h.to l fun _ _ a b => ⟨a, b⟩
theorem HoR.step {K : PySem.W.Frag} {W W' : Wd} {H H' : Hp} (s : Step W H W' H') {o : HO} {c : OwnC} (h : HoR K W H o c) : HoR K W' H' o c := h.to s.le fun N q a b => ⟨s.old N _ a b, (s.newN N (by rw [a]; intro z; cases z)).trans b⟩
theorem HoR.upd {K : PySem.W.Frag} {W : Wd} {H : Hp} {a : Addr} {o' : HO} (hs : Soft H a) {o : HO} {c : OwnC} (h : HoR K W H o c) : HoR K W (L2.upd H a o') o c := by
  refine h.to (Le.refl W) fun N q e n => ⟨?_, n⟩
  have ne : N ≠ a := fun z => by
    subst z
    rcases hs _ e with ⟨vs, z⟩ | ⟨vs, z⟩
    · unfold LamX.CodeO at z
      cases z
    · unfold LamX.CodeO at z
      cases z
  rw [upd_ne ne]
  exact e
structure EnvR (K : PySem.W.Frag) (W : Wd) (H H0 : Hp) (σ : St) (ρ : List Sl) : Prop where
  dat : ∀ (i : Nat) (d : D), ρ[i]? = some (.val d) → ∃ v, σ[i]? = some (some v) ∧ Rep K W v d
  ow : ∀ (i : Nat) (c : OwnC), ρ[i]? = some (.ob c) → ∃ a o, σ[i]? = some (some (.ref a)) ∧ H a = some o ∧ W.P a = none ∧ W.N a = none ∧ H0 a = none ∧ HoR K W H o c
  ap : ∀ (i j : Nat) (c d : OwnC) (a : Addr), i ≠ j → ρ[i]? = some (.ob c) → ρ[j]? = some (.ob d) → σ[i]? = some (some (.ref a)) → σ[j]? ≠ some (some (.ref a))
  ln : ρ.length = σ.length
section
variable {K : PySem.W.Frag} {W W' : Wd} {H H' H0 : Hp} {σ : St} {ρ : List Sl}
theorem EnvR.owL (e : EnvR K W H H0 σ ρ) (i : Nat) (ds : List D) (h : ρ[i]? = some (.own ds)) : ∃ a vs, σ[i]? = some (some (.ref a)) ∧ H a = some (.lst vs) ∧ W.P a = none ∧ W.N a = none ∧ H0 a = none ∧ Reps K W vs ds := by
  obtain ⟨a, o, h1, h2, h3, h4, h5, h6⟩ := e.ow i _ h
  cases h6 with
  | lst r => exact ⟨a, _, h1, h2, h3, h4, h5, r⟩
theorem EnvR.owD (e : EnvR K W H H0 σ ρ) (i : Nat) (ds : List (Sum Int Str × D)) (h : ρ[i]? = some (.odc ds)) : ∃ a kvs, σ[i]? = some (some (.ref a)) ∧ H a = some (.dK kvs) ∧ W.P a = none ∧ W.N a = none ∧ H0 a = none ∧ RepKv K W kvs ds := by
  obtain ⟨a, o, h1, h2, h3, h4, h5, h6⟩ := e.ow i _ h
  cases h6 with
  | dct r => exact ⟨a, _, h1, h2, h3, h4, h5, r⟩
theorem EnvR.step (e : EnvR K W H H0 σ ρ) (s : Step W H W' H') : EnvR K W' H' H0 σ ρ where
  dat := fun i d h => let ⟨v, h1, h2⟩ := e.dat i d h; ⟨v, h1, h2.mono s.le⟩
  ow := fun i ds h => by
    obtain ⟨a, vs, h1, h2, h3, h4, h5, h6⟩ := e.ow i ds h
    have nn : H a ≠ none := by rw [h2]; intro q; cases q
    exact ⟨a, vs, h1, s.old a _ h2 h4, (s.newP a nn).trans h3, (s.newN a nn).trans h4, h5, h6.step s⟩
  ap := e.ap
  ln := e.ln
theorem EnvR.setVal (e : EnvR K W H H0 σ ρ) {v : V} {d : D} (i : Nat) (r : Rep K W v d) : EnvR K W H H0 (σ.set i (some v)) (ρ.set i (.val d)) where
  dat := fun j d' h => by
    by_cases hj : i = j
    · subst hj
      have hl : i < (ρ.set i (.val d)).length := by
        rw [List.getElem?_eq_some_iff] at h
        exact h.1
      rw [List.length_set] at hl
      rw [List.getElem?_set_self hl] at h
      cases h
      exact ⟨v, by rw [List.getElem?_set_self (by rw [← e.ln]; exact hl)], r⟩
    · rw [List.getElem?_set_ne hj] at h ⊢
      exact e.dat j d' h
  ow := fun j ds h => by
    by_cases hj : i = j
    · subst hj
      have hl : i < (ρ.set i (.val d)).length := by
        rw [List.getElem?_eq_some_iff] at h
        exact h.1
      rw [List.length_set] at hl
      rw [List.getElem?_set_self hl] at h
      cases h
    · rw [List.getElem?_set_ne hj] at h ⊢
      exact e.ow j ds h
  ap := fun j k ds es a hjk h1 h2 h3 => by
    have nj : i ≠ j := fun z => by
      subst z
      have hl : i < (ρ.set i (.val d)).length := by
        rw [List.getElem?_eq_some_iff] at h1
        exact h1.1
      rw [List.length_set] at hl
      rw [List.getElem?_set_self hl] at h1
      cases h1
    have nk : i ≠ k := fun z => by
      subst z
      have hl : i < (ρ.set i (.val d)).length := by
        rw [List.getElem?_eq_some_iff] at h2
        exact h2.1
      rw [List.length_set] at hl
      rw [List.getElem?_set_self hl] at h2
      cases h2
    rw [List.getElem?_set_ne nj] at h1 h3
    rw [List.getElem?_set_ne nk] at h2 ⊢
    exact e.ap j k ds es a hjk h1 h2 h3
  ln := by rw [List.length_set, List.length_set, e.ln]
theorem getElem?_set_no {α : Type} {l : List α} {i j : Nat} {x y : α} (h : (l.set i x)[j]? = some y) (hx : x ≠ y) : i ≠ j ∧ l[j]? = some y := by
  by_cases hj : i = j
  · subst hj
    have hl : i < (l.set i x).length := by
      rw [List.getElem?_eq_some_iff] at h
      exact h.1
    rw [List.length_set] at hl
    rw [List.getElem?_set_self hl] at h
    cases h
    exact absurd rfl hx
  · rw [List.getElem?_set_ne hj] at h
    exact ⟨hj, h⟩
/-- a slot forgotten -/
theorem EnvR.drop (e : EnvR K W H H0 σ ρ) (i : Nat) : EnvR K W H H0 σ (ρ.set i .no) where
  dat := fun j d h => e.dat j d (getElem?_set_no h (by intro z; cases z)).2
  ow := fun j d h => e.ow j d (getElem?_set_no h (by intro z; cases z)).2
  ap := fun j k ds es a hjk h1 h2 h3 => e.ap j k ds es a hjk (getElem?_set_no h1 (by intro z; cases z)).2 (getElem?_set_no h2 (by intro z; cases z)).2 h3
  ln := by rw [List.length_set, e.ln]
/-- what an environment forgets -/
inductive Weak : List Sl → List Sl → Prop
  | nil : Weak [] []
  | no {s : Sl} {l r : List Sl} : Weak l r → Weak (s :: l) (.no :: r)
  | same {s : Sl} {l r : List Sl} : Weak l r → Weak (s :: l) (s :: r)
theorem Weak.len : ∀ {l r : List Sl}, Weak l r → l.length = r.length
  | _, _, .nil => rfl
  | _, _, .no w => by rw [List.length_cons, List.length_cons, w.len]
  | _, _, .same w => by rw [List.length_cons, List.length_cons, w.len]
theorem Weak.get : ∀ {l r : List Sl} {i : Nat} {s : Sl}, Weak l r → r[i]? = some s → s ≠ .no → l[i]? = some s
  | _, _, i, s, .nil, h, _ => by simp at h
  | _, _, 0, s, .no w, h, n => by
    rw [List.getElem?_cons_zero] at h
    cases h
    exact absurd rfl n
  | _, _, 0, s, .same w, h, n => by
    rw [List.getElem?_cons_zero] at h ⊢
    exact h
  | _, _, i + 1, s, .no w, h, n => by
    rw [List.getElem?_cons_succ] at h ⊢
    exact w.get h n
  | _, _, i + 1, s, .same w, h, n => by
    rw [List.getElem?_cons_succ] at h ⊢
    exact w.get h n
theorem EnvR.weak {ρ' : List Sl} (e : EnvR K W H H0 σ ρ) (w : Weak ρ ρ') : EnvR K W H H0 σ ρ' where
  dat := fun j d h => e.dat j d (w.get h (by intro z; cases z))
  ow := fun j d h => e.ow j d (w.get h (by intro z; cases z))
  ap := fun j k ds es a hjk h1 h2 h3 => e.ap j k ds es a hjk (w.get h1 (by intro z; cases z)) (w.get h2 (by intro z; cases z)) h3
  ln := by rw [← w.len, e.ln]
theorem EnvR.setOb (e : EnvR K W H H0 σ ρ) {a : Addr} {o : HO} {c : OwnC} (i : Nat) (h1 : H a = some o) (h2 : W.P a = none) (h3 : W.N a = none) (h4 : H0 a = none) (r : HoR K W H o c)
    (new : ∀ (j : Nat) (es : OwnC), j ≠ i → ρ[j]? = some (.ob es) → σ[j]? ≠ some (some (.ref a))) : EnvR K W H H0 (σ.set i (some (.ref a))) (ρ.set i (.ob c)) where
  dat := fun j d h => by
    obtain ⟨hj, h⟩ := getElem?_set_no h (by intro z; cases z)
    rw [List.getElem?_set_ne hj]
    exact e.dat j d h
  ow := fun j es h => by
    by_cases hj : i = j
    · subst hj
      have hl : i < (ρ.set i (.ob c)).length := by
        rw [List.getElem?_eq_some_iff] at h
        exact h.1
      rw [List.length_set] at hl
      rw [List.getElem?_set_self hl] at h
      cases h
      exact ⟨a, o, by rw [List.getElem?_set_self (by rw [← e.ln]; exact hl)], h1, h2, h3, h4, r⟩
    · rw [List.getElem?_set_ne hj] at h ⊢
      exact e.ow j es h
  ap := fun j k es fs b hjk g1 g2 g3 => by
    by_cases hj : i = j
    · subst hj
      have hl : i < σ.length := by
        rw [← List.length_set (as := σ) (i := i) (a := some (V.ref a))]
        rw [List.getElem?_eq_some_iff] at g3
        exact g3.1
      rw [List.getElem?_set_self hl] at g3
      cases g3
      rw [List.getElem?_set_ne hjk] at g2 ⊢
      exact new k fs (fun z => hjk z.symm) g2
    · rw [List.getElem?_set_ne hj] at g1 g3
      by_cases hk : i = k
      · subst hk
        intro g4
        have hl : i < σ.length := by
          rw [← List.length_set (as := σ) (i := i) (a := some (V.ref a))]
          rw [List.getElem?_eq_some_iff] at g4
          exact g4.1
        rw [List.getElem?_set_self hl] at g4
        cases g4
        exact new j es (fun z => hj z.symm) g1 g3
      · rw [List.getElem?_set_ne hk] at g2 ⊢
        exact e.ap j k es fs b hjk g1 g2 g3
  ln := by rw [List.length_set, List.length_set, e.ln]
theorem EnvR.setOwn (e : EnvR K W H H0 σ ρ) {a : Addr} {vs : List V} {ds : List D} (i : Nat) (h1 : H a = some (.lst vs)) (h2 : W.P a = none) (h3 : W.N a = none) (h4 : H0 a = none) (r : Reps K W vs ds)
    (new : ∀ (j : Nat) (es : OwnC), j ≠ i → ρ[j]? = some (.ob es) → σ[j]? ≠ some (some (.ref a))) : EnvR K W H H0 (σ.set i (some (.ref a))) (ρ.set i (.own ds)) := e.setOb i h1 h2 h3 h4 (.lst r) new
end
end Ev

namespace Ev
open PySem PySem.Spec L2
variable [Tb]

/-! ### new tuples -/
section
variable {X : Cx} {pins : List (Addr × Obj)} {σ : L2.St} {H : Hp} {s : Shared} {Q : VK}
theorem ep_tup {xs : List V} {its : List Value} {ob : Obj} {h' : Heap} {p n t' : Nat} (I : L2.Inv X pins σ H s) (k : ∀ b u, s.heap.get? b = some u → h'.get? b = some u) (hp : s.heap.objs.size ≤ p) (ho : h'.get? p = some ob) (hc : ob.cls = .type "tuple") (hn : ob.dict = none) (hd : ob.data = .seq its.toArray n)
    (r : Vals xs its) (hz : xs.length ≤ sizeLine) (q : NewT H xs Q) : EP X pins σ Q (.ref p) { s with heap := h', toks := t' } :=
  ⟨.ref p, upd H p (.frz ob (.tup xs)), I.laid (t' := t') k hp ⟨ho, hz, its, r, ob, ho, hc, n, hd⟩, rfl, q p ob (I.hok.fresh hp) hn⟩
/-- .. pushed -/
theorem ep_tupP {xs : List V} {its : List Value} {n t' : Nat} (I : L2.Inv X pins σ H s) (r : Vals xs its) (hz : xs.length ≤ sizeLine) (q : NewT H xs Q) : EP X pins σ Q (.ref s.heap.objs.size) { s with heap := s.heap.push { cls := .type "tuple", data := .seq its.toArray n }, toks := t' } :=
  ep_tup I (fun _ _ e => Heap.get?_push_of_some _ e) (Nat.le_refl _) (Heap.get?_push_size _ rfl) rfl rfl rfl r hz q
end
section
variable {X : Cx} {es : List Expr} {t : TA} {pos : Pos}
/-- a written tuple -/
def tTupB (t : TA) : TE := fun σ H Q => t σ H fun xs H1 => xs.length ≤ sizeLine ∧ NewT H1 xs Q
theorem pe_tupB {x1} (h : PA X es t) : PE X (.Tuple es x1 pos) (tTupB t) := by
  constructor
  intro pins s σ H Q I hq
  refine wpAny_Tuple_spliced (thn (h.run pos pins s σ H _ I hq) ?_)
  rintro us s1 ⟨xs, H1, J, rv, hz, new⟩
  exact ⟨by rw [← rv.length]; exact hz, ep_tupP (t' := s1.toks) J rv hz new⟩
end
/-! ### wishes -/
def XRep (mg : Str → Option Value) (x : Exn) (cv : Value) (dx : Option Addr) (W : Wd) : Prop :=
  ∃ C : Addr, mg x.cls = some (.ref C) ∧ cv = .ref C ∧ match x.args with
    | none => dx = none
    | some (m, n) => ∃ (d : Addr) (fs : List (Str × V)), dx = some d ∧ W.P d = some (.xd fs) ∧ fs.lookup ("many" : Str) = some (V.int m) ∧ fs.lookup ("most" : Str) = some (V.int n)
def Post (K : PySem.W.Frag) (Q : VK) (W : Wd) (H : Hp) (d : D) : Prop := ∀ v W' H', Step W H W' H' → Rep K W' v d → Q v H'
def PostL (K : PySem.W.Frag) (Q : List V → Hp → Prop) (W : Wd) (H : Hp) (ds : List D) : Prop := ∀ vs W' H', Step W H W' H' → Reps K W' vs ds → Q vs H'
def PostB (Q : Bool → Hp → Prop) (W : Wd) (H : Hp) (b : Bool) : Prop := ∀ W' H', Step W H W' H' → Q b H'
/-- a new list, one's own -/
def PostO (K : PySem.W.Frag) (Q : VK) (W : Wd) (H : Hp) (ds : List D) : Prop := ∀ a vs W' H', Step W H W' H' → H a = none → H' a = some (.lst vs) → W'.P a = none → W'.N a = none → Reps K W' vs ds → Q (.ref a) H'
/-- where code runs, as far as readings ask -/
structure Sx where
  K : PySem.W.Frag
  mg : Str → Option Value
  E : XK
def XPost (S : Sx) (W : Wd) (H : Hp) (x : Exn) : Prop := ∀ cv dx W' H', Step W H W' H' → XRep S.mg x cv dx W' → S.E cv dx H'
section
variable {K : PySem.W.Frag} {W W1 : Wd} {H H1 : Hp} {S : Sx}
theorem Post.after {Q : VK} {d : D} (w : WOk W H) (s : Step W H W1 H1) (p : Post K Q W H d) : Post K Q W1 H1 d := fun v W' H' s' r => p v W' H' (s.trans w s') r
theorem PostL.after {Q : List V → Hp → Prop} {d : List D} (w : WOk W H) (s : Step W H W1 H1) (p : PostL K Q W H d) : PostL K Q W1 H1 d := fun v W' H' s' r => p v W' H' (s.trans w s') r
theorem PostB.after {Q : Bool → Hp → Prop} {d : Bool} (w : WOk W H) (s : Step W H W1 H1) (p : PostB Q W H d) : PostB Q W1 H1 d := fun W' H' s' => p W' H' (s.trans w s')
theorem Step.free0 (w : WOk W H) (s : Step W H W1 H1) {a : Addr} (h : H1 a = none) : H a = none := by
  cases q : H a with
  | none => rfl
  | some o => exact absurd h (s.keep w (by rw [q]; intro z; cases z))
theorem PostO.after {Q : VK} {d : List D} (w : WOk W H) (s : Step W H W1 H1) (p : PostO K Q W H d) : PostO K Q W1 H1 d := fun a v W' H' s' h0 h1 h2 h3 r => p a v W' H' (s.trans w s') (s.free0 w h0) h1 h2 h3 r
theorem XPost.after {x : Exn} (w : WOk W H) (s : Step W H W1 H1) (p : XPost S W H x) : XPost S W1 H1 x := fun cv dx W' H' s' r => p cv dx W' H' (s.trans w s') r
/-- what was one's own becomes data -/
theorem Step.freeze (s : Step W H W1 H1) {a : Addr} {o : HO} (h0 : H a = none) (h1 : H1 a = some o) (h2 : W1.P a = none) (h3 : W1.N a = none) : Step W H ⟨upd W1.P a o, W1.N⟩ H1 where
  le := ⟨fun b u e => by
    show (upd W1.P a o) b = some u
    have e' := s.le.p b u e
    rw [upd_ne (fun z => by subst z; rw [h2] at e'; cases e')]
    exact e', s.le.n⟩
  ok := ⟨fun b u e => by
    have e' : (upd W1.P a o) b = some u := e
    by_cases q : b = a
    · subst q
      rw [upd_same] at e'
      cases e'
      exact h1
    · rw [upd_ne q] at e'
      exact s.ok.sub b u e', fun b φ hb => by
    obtain ⟨e1, o', e2, e3⟩ := s.ok.pen b φ hb
    refine ⟨?_, o', e2, KIs.mono (fun c o'' xs z => by
      show (upd W1.P a o) c = some _
      rw [upd_ne (fun y => by subst y; rw [h2] at z; cases z)]
      exact z) e3⟩
    show (upd W1.P a o) b = none
    rw [upd_ne (fun z => by subst z; rw [h3] at hb; cases hb)]
    exact e1, s.ok.tab, s.ok.tb⟩
  old := s.old
  newP := fun b hb => by
    show (upd W1.P a o) b = W.P b
    rw [upd_ne (fun z => by subst z; exact hb h0)]
    exact s.newP b hb
  newN := s.newN
theorem le_freeze {a : Addr} {o : HO} (h2 : W1.P a = none) : Le W1 ⟨upd W1.P a o, W1.N⟩ := ⟨fun b u e => by
    show (upd W1.P a o) b = some u
    rw [upd_ne (fun z => by subst z; rw [h2] at e; cases e)]
    exact e, fun _ _ z => z⟩
theorem PostO.post {Q : VK} {d : List D} (p : Post K Q W H (.lst d)) : PostO K Q W H d := fun a vs W' H' s h0 h1 h2 h3 r =>
  p (.ref a) ⟨upd W'.P a (.lst vs), W'.N⟩ H' (s.freeze h0 h1 h2 h3) (.lst upd_same (r.mono (le_freeze h2)))
end

/-- what a reading says of an expression (its slots ρ, what it does r) -/
def SE (S : Sx) (t : TE) (ρ : List Sl) (r : M D) : Prop :=
  ∀ σ H W H0 Q, EnvR S.K W H H0 σ ρ → WOk W H → r.run (Post S.K Q W H) (XPost S W H) → t σ H Q
/-- .. whose value is a new list, one's own -/
def SO (S : Sx) (t : TE) (ρ : List Sl) (r : M (List D)) : Prop :=
  ∀ σ H W H0 Q, EnvR S.K W H H0 σ ρ → WOk W H → r.run (PostO S.K Q W H) (XPost S W H) → t σ H Q
def SA (S : Sx) (t : TA) (ρ : List Sl) (r : List (M D)) : Prop :=
  ∀ σ H W H0 Q, EnvR S.K W H H0 σ ρ → WOk W H → (seqL r).run (PostL S.K Q W H) (XPost S W H) → t σ H Q
def SB (S : Sx) (t : TT) (ρ : List Sl) (r : M Bool) : Prop :=
  ∀ σ H W H0 Q, EnvR S.K W H H0 σ ρ → WOk W H → r.run (PostB Q W H) (XPost S W H) → t σ H Q

section
variable {S : Sx} {ρ : List Sl} {t : TE} {r : M D}
theorem SE.go (s : SE S t ρ r) {σ : L2.St} {H : Hp} {W : Wd} {H0 : Hp} {Q : VK} {R : D → Prop} {E' : Exn → Prop} (e : EnvR S.K W H H0 σ ρ) (w : WOk W H) (h : r.run R E')
    (hx : ∀ x, E' x → XPost S W H x) (hr : ∀ d v W' H', R d → Step W H W' H' → Rep S.K W' v d → EnvR S.K W' H' H0 σ ρ → Q v H') : t σ H Q :=
  s σ H W H0 Q e w (r.mono (fun d hd v W' H' st rp => hr d v W' H' hd st rp (e.step st)) hx h)
theorem SO.go {r : M (List D)} (s : SO S t ρ r) {σ : L2.St} {H : Hp} {W : Wd} {H0 : Hp} {Q : VK} {R : List D → Prop} {E' : Exn → Prop} (e : EnvR S.K W H H0 σ ρ) (w : WOk W H) (h : r.run R E')
    (hx : ∀ x, E' x → XPost S W H x) (hr : ∀ d a vs W' H', R d → Step W H W' H' → H a = none → H' a = some (.lst vs) → W'.P a = none → W'.N a = none → Reps S.K W' vs d → EnvR S.K W' H' H0 σ ρ → Q (.ref a) H') : t σ H Q :=
  s σ H W H0 Q e w (r.mono (fun d hd a vs W' H' st h0 h1 h2 h3 rp => hr d a vs W' H' hd st h0 h1 h2 h3 rp (e.step st)) hx h)
theorem SA.go {t : TA} {r : List (M D)} (s : SA S t ρ r) {σ : L2.St} {H : Hp} {W : Wd} {H0 : Hp} {Q : List V → Hp → Prop} {R : List D → Prop} {E' : Exn → Prop} (e : EnvR S.K W H H0 σ ρ) (w : WOk W H) (h : (seqL r).run R E')
    (hx : ∀ x, E' x → XPost S W H x) (hr : ∀ d v W' H', R d → Step W H W' H' → Reps S.K W' v d → EnvR S.K W' H' H0 σ ρ → Q v H') : t σ H Q :=
  s σ H W H0 Q e w ((seqL r).mono (fun d hd v W' H' st rp => hr d v W' H' hd st rp (e.step st)) hx h)
theorem SB.go {t : TT} {r : M Bool} (s : SB S t ρ r) {σ : L2.St} {H : Hp} {W : Wd} {H0 : Hp} {Q : Bool → Hp → Prop} {R : Bool → Prop} {E' : Exn → Prop} (e : EnvR S.K W H H0 σ ρ) (w : WOk W H) (h : r.run R E')
    (hx : ∀ x, E' x → XPost S W H x) (hr : ∀ d W' H', R d → Step W H W' H' → EnvR S.K W' H' H0 σ ρ → Q d H') : t σ H Q :=
  s σ H W H0 Q e w (r.mono (fun d hd W' H' st => hr d W' H' hd st (e.step st)) hx h)
/-- a new list as data -/
theorem SO.se {r : M (List D)} (s : SO S t ρ r) : SE S t ρ (r >>= fun ds => pure (.lst ds)) := fun σ H W H0 Q e w q =>
  s σ H W H0 Q e w (r.mono (fun _ h => PostO.post h) (fun _ z => z) q)
theorem seqL_len : ∀ {rs : List (M D)} {Q : List D → Prop} {E : Exn → Prop}, (seqL rs).run Q E → (seqL rs).run (fun ds => ds.length = rs.length ∧ Q ds) E
  | [], Q, E, h => ⟨rfl, h⟩
  | m :: r, Q, E, h => m.mono (fun x (hx : (seqL r).run (fun xs => Q (x :: xs)) E) => (seqL r).mono (fun xs hxs => ⟨by rw [List.length_cons, List.length_cons, hxs.1], hxs.2⟩) (fun _ z => z) (seqL_len hx)) (fun _ z => z) h
end

/-! ### constants and names -/
section
variable {S : Sx} {ρ : List Sl}
theorem se_c {v : V} {d : D} (h : ∀ W : Wd, Rep S.K W v d) : SE S (tC v) ρ (pure d) := fun σ H W H0 Q e w q => q v W H (Step.refl w) (h W)
theorem se_int {i : Int} : SE S (tC (.int i)) ρ (pure (.int i)) := se_c fun _ => .int i
theorem se_bl {i : Bool} : SE S (tC (.bl i)) ρ (pure (.bl i)) := se_c fun _ => .bl i
theorem se_str {i : Str} : SE S (tC (.str i)) ρ (pure (.str i)) := se_c fun _ => .str i
theorem se_non : SE S (tC .non) ρ (pure .non) := se_c fun _ => .non
theorem se_var {k : Nat} {d : D} (hr : ρ[k]? = some (.val d)) : SE S (tVar k) ρ (pure d) := fun σ H W H0 Q e w q => by
  obtain ⟨v, h1, h2⟩ := e.dat k d hr
  exact ⟨v, h1, q v W H (Step.refl w) h2⟩
end

/-! ### two operands -/
section
variable {S : Sx} {ρ : List Sl} {ra rb : M D} {ta tb : TE}
def OpS (K : PySem.W.Frag) (r : R2) (f : D → D → M D) : Prop :=
  ∀ W H x y dx dy Q (E : Exn → Prop), WOk W H → Rep K W x dx → Rep K W y dy → (f dx dy).run (Post K Q W H) E → r x y H Q
theorem se_op {r : R2} {f : D → D → M D} (hf : OpS S.K r f) (ha : SE S ta ρ ra) (hb : SE S tb ρ rb) : SE S (tOp r ta tb) ρ (bin f ra rb) := by
  intro σ H W H0 Q e w q
  refine ha.go e w q (fun _ z => z) fun dx vx W1 H1 q1 s1 r1 e1 => ?_
  refine hb.go e1 s1.ok q1 (fun _ z => z.after w s1) fun dy vy W2 H2 q2 s2 r2 e2 => ?_
  refine hf W2 H2 vx vy dx dy Q _ s2.ok (r1.mono s2.le) r2 ((f dx dy).mono (fun d hd => hd.after w (s1.trans w s2)) (fun _ z => z) q2)
/-- an expression as a test -/
theorem sb_test {t : TE} {r : M D} (h : SE S t ρ r) : SB S (tTest t) ρ (asB r) := fun σ H W H0 Q en w q => by
  refine h.go en w q (fun _ z => z) fun d v W1 H1 q1 s1 r1 e1 => ?_
  cases d with
  | bl k => cases r1; exact ⟨k, rfl, q1 W1 H1 s1⟩
  | _ => exact (show False from q1).elim
theorem sb_val {t : TE} {r : M D} (h : SE S t ρ r) : SB S (tB t) ρ (asB r) := fun σ H W H0 Q en w q => by
  refine h.go en w q (fun _ z => z) fun d v W1 H1 q1 s1 r1 e1 => ?_
  cases d with
  | bl k => cases r1; exact ⟨k, rfl, q1 W1 H1 s1⟩
  | _ => exact (show False from q1).elim
variable {t1 t2 : TT} {r1 r2 : M Bool}
theorem sb_not (h : SB S t1 ρ r1) : SB S (tNot t1) ρ (notM r1) := fun σ H W H0 Q en w q => h.go en w q (fun _ z => z) fun d W1 H1 q1 s1 e1 => q1 W1 H1 s1
theorem sb_and (h : SB S t1 ρ r1) (h2 : SB S t2 ρ r2) : SB S (tAnd t1 t2) ρ (andM r1 r2) := fun σ H W H0 Q en w q => by
  refine h.go en w q (fun _ z => z) fun d W1 H1 q1 s1 e1 => ?_
  cases d with
  | true => exact iteT (h2.go e1 s1.ok q1 (fun _ z => z.after w s1) fun d W2 H2 q2 s2 _ => q2 W2 H2 (s1.trans w s2))
  | false => exact iteF (q1 W1 H1 s1)
theorem sb_or (h : SB S t1 ρ r1) (h2 : SB S t2 ρ r2) : SB S (tOr t1 t2) ρ (orM r1 r2) := fun σ H W H0 Q en w q => by
  refine h.go en w q (fun _ z => z) fun d W1 H1 q1 s1 e1 => ?_
  cases d with
  | false => exact iteF (h2.go e1 s1.ok q1 (fun _ z => z.after w s1) fun d W2 H2 q2 s2 _ => q2 W2 H2 (s1.trans w s2))
  | true => exact iteT (q1 W1 H1 s1)
/-- and, or, not as values -/
theorem se_and (h : SE S ta ρ ra) (h2 : SE S tb ρ rb) : SE S (tAndV ta tb) ρ (andV ra rb) := fun σ H W H0 Q en w q => by
  refine h.go en w q (fun _ z => z) fun d v W1 H1 q1 s1 r1 e1 => ?_
  cases d with
  | bl k =>
    cases r1
    refine ⟨k, rfl, ?_⟩
    cases k with
    | true => exact iteT (h2.go e1 s1.ok q1 (fun _ z => z.after w s1) fun d v W2 H2 q2 s2 r2 _ => q2 v W2 H2 (s1.trans w s2) r2)
    | false => exact iteF (q1 _ W1 H1 s1 (.bl false))
  | _ => exact (show False from q1).elim
theorem se_or (h : SE S ta ρ ra) (h2 : SE S tb ρ rb) : SE S (tOrV ta tb) ρ (orV ra rb) := fun σ H W H0 Q en w q => by
  refine h.go en w q (fun _ z => z) fun d v W1 H1 q1 s1 r1 e1 => ?_
  cases d with
  | bl k =>
    cases r1
    refine ⟨k, rfl, ?_⟩
    cases k with
    | false => exact iteF (h2.go e1 s1.ok q1 (fun _ z => z.after w s1) fun d v W2 H2 q2 s2 r2 _ => q2 v W2 H2 (s1.trans w s2) r2)
    | true => exact iteT (q1 _ W1 H1 s1 (.bl true))
  | _ => exact (show False from q1).elim
theorem se_not (h : SE S ta ρ ra) : SE S (tNotV ta) ρ (notV ra) := fun σ H W H0 Q en w q => by
  refine h.go en w q (fun _ z => z) fun d v W1 H1 q1 s1 r1 e1 => ?_
  cases d with
  | bl k =>
    cases r1
    exact ⟨k, rfl, q1 _ W1 H1 s1 (.bl _)⟩
  | _ => exact (show False from q1).elim
theorem se_if {tc : TT} {rc : M Bool} (hc : SB S tc ρ rc) (ha : SE S ta ρ ra) (hb : SE S tb ρ rb) : SE S (tIf tc ta tb) ρ (rc >>= fun k => if k then ra else rb) := fun σ H W H0 Q en w q => by
  refine hc.go en w q (fun _ z => z) fun d W1 H1 q1 s1 e1 => ?_
  cases d with
  | true => exact iteT (ha.go e1 s1.ok q1 (fun _ z => z.after w s1) fun d v W2 H2 q2 s2 r2 _ => q2 v W2 H2 (s1.trans w s2) r2)
  | false => exact iteF (hb.go e1 s1.ok q1 (fun _ z => z.after w s1) fun d v W2 H2 q2 s2 r2 _ => q2 v W2 H2 (s1.trans w s2) r2)
/-- one operand -/
def UnS (K : PySem.W.Frag) (r : V → Hp → VK → Prop) (f : D → M D) : Prop :=
  ∀ W H x dx Q (E : Exn → Prop), WOk W H → Rep K W x dx → (f dx).run (Post K Q W H) E → r x H Q
theorem se_un {r : V → Hp → VK → Prop} {f : D → M D} (hf : UnS S.K r f) (ha : SE S ta ρ ra) : SE S (tUn r ta) ρ (ra >>= f) := fun σ H W H0 Q en w q => by
  refine ha.go en w q (fun _ z => z) fun d v W1 H1 q1 s1 r1 e1 => ?_
  exact hf W1 H1 v d Q _ s1.ok r1 ((f d).mono (fun d hd => hd.after w s1) (fun _ z => z) q1)
/-- a < b < c -/
theorem se_chain {tc : TE} {rc : M D} {r r' : R2} {f f' : D → D → M D} (hf : OpS S.K r f) (hf' : OpS S.K r' f') (ha : SE S ta ρ ra) (hb : SE S tb ρ rb) (hc : SE S tc ρ rc) :
    SE S (tChain r r' ta tb tc) ρ (chainM ra rb rc f f') := fun σ H W H0 Q en w q => by
  refine ha.go en w q (fun _ z => z) fun dx vx W1 H1 q1 s1 r1 e1 => ?_
  refine hb.go e1 s1.ok q1 (fun _ z => z.after w s1) fun dy vy W2 H2 q2 s2 r2 e2 => ?_
  have w2 := s1.trans w s2
  refine hf W2 H2 vx vy dx dy _ _ s2.ok (r1.mono s2.le) r2 ((f dx dy).mono (fun d hd v W3 H3 s3 r3 => ?_) (fun _ z => z) q2)
  have w3 := w2.trans w s3
  cases d with
  | bl k =>
    cases r3
    refine ⟨k, rfl, ?_⟩
    cases k with
    | true =>
      refine iteT (hc.go (e2.step s3) s3.ok hd (fun _ z => z.after w w3) fun dz vz W4 H4 q4 s4 r4 e4 => ?_)
      exact hf' W4 H4 vy vz dy dz Q _ s4.ok (r2.mono (s3.le.trans s4.le)) r4 ((f' dy dz).mono (fun d hd => hd.after w (w3.trans w s4)) (fun _ z => z) q4)
    | false => exact iteF (hd _ W3 H3 w3 (.bl false))
  | _ => exact (show False from hd).elim
/-! ### arguments, displays, calls -/
theorem sa_nil : SA S tNil ρ [] := fun σ H W H0 Q en w q => q [] W H (Step.refl w) .nil
theorem sa_cons {ts : TA} {rs : List (M D)} (h : SE S ta ρ ra) (h2 : SA S ts ρ rs) : SA S (tCons ta ts) ρ (ra :: rs) := fun σ H W H0 Q en w q => by
  refine h.go en w q (fun _ z => z) fun d v W1 H1 q1 s1 r1 e1 => ?_
  refine h2.go e1 s1.ok q1 (fun _ z => z.after w s1) fun ds vs W2 H2 q2 s2 r2 e2 => ?_
  exact q2 (v :: vs) W2 H2 (s1.trans w s2) (.cons (r1.mono s2.le) r2)
theorem newT_at {K : PySem.W.Frag} {W : Wd} {H : Hp} {Q : VK} {vs : List V} {ds : List D} (w : WOk W H) (q : Post K Q W H (.tup ds)) (r : Reps K W vs ds) : NewT H vs Q := fun p o hp ho =>
  q (.ref p) _ _ (Step.dat w hp) (.tup (.inl ⟨o, upd_same, ho⟩) (r.mono (Step.dat w hp).le))
theorem se_tup {ts : TA} {rs : List (M D)} (h : SA S ts ρ rs) (hl : rs.length ≤ 1000) : SE S (tTupB ts) ρ (tupM rs) := fun σ H W H0 Q en w q => by
  refine h.go en w (seqL_len q) (fun _ z => z) fun ds vs W1 H1 q1 s1 r1 e1 => ?_
  have q2 : Post S.K Q W H (.tup ds) := q1.2
  exact ⟨Nat.le_of_lt (small1000 (by rw [r1.length, q1.1]; exact hl)), newT_at s1.ok (q2.after w s1) r1⟩
theorem so_lst {ts : TA} {rs : List (M D)} (h : SA S ts ρ rs) (hl : rs.length ≤ 1000) : SO S (tLst ts) ρ (seqL rs) := fun σ H W H0 Q en w q => by
  refine h.go en w (seqL_len q) (fun _ z => z) fun ds vs W1 H1 q1 s1 r1 e1 => ?_
  refine ⟨Nat.le_of_lt (small1000 (by rw [r1.length, q1.1]; exact hl)), fun p hp => ?_⟩
  have hP : W1.P p = none := by
    cases z : W1.P p with
    | none => rfl
    | some u => rw [s1.ok.sub p u z] at hp; cases hp
  have hN : W1.N p = none := by
    cases z : W1.N p with
    | none => rfl
    | some φ =>
      obtain ⟨x, e, _⟩ := (s1.ok.pen p φ z).2
      rw [e] at hp; cases hp
  exact q1.2 p vs W1 _ (s1.trans w (Step.raw s1.ok hp)) (s1.free0 w hp) upd_same hP hN r1
theorem se_lst {ts : TA} {rs : List (M D)} (h : SA S ts ρ rs) (hl : rs.length ≤ 1000) : SE S (tLst ts) ρ (lstM rs) := (so_lst h hl).se
/-- a built-in's call -/
def CaS (K : PySem.W.Frag) (r : List V → Hp → VK → Prop) (f : List D → M D) : Prop :=
  ∀ W H vs ds Q (E : Exn → Prop), WOk W H → Reps K W vs ds → (f ds).run (Post K Q W H) E → r vs H Q
theorem se_cb {ts : TA} {rs : List (M D)} {r : List V → Hp → VK → Prop} {f : List D → M D} (hf : CaS S.K r f) (h : SA S ts ρ rs) : SE S (tCB r ts) ρ (callM f rs) := fun σ H W H0 Q en w q => by
  refine h.go en w q (fun _ z => z) fun ds vs W1 H1 q1 s1 r1 e1 => ?_
  exact hf W1 H1 vs ds Q _ s1.ok r1 ((f ds).mono (fun d hd => hd.after w s1) (fun _ z => z) q1)
/-- .. that makes a new list -/
def CaO (K : PySem.W.Frag) (r : List V → Hp → VK → Prop) (f : List D → M (List D)) : Prop :=
  ∀ W H vs ds Q (E : Exn → Prop), WOk W H → Reps K W vs ds → (f ds).run (PostO K Q W H) E → r vs H Q
theorem so_cb {ts : TA} {rs : List (M D)} {r : List V → Hp → VK → Prop} {f : List D → M (List D)} (hf : CaO S.K r f) (h : SA S ts ρ rs) : SO S (tCB r ts) ρ (seqL rs >>= f) := fun σ H W H0 Q en w q => by
  refine h.go en w q (fun _ z => z) fun ds vs W1 H1 q1 s1 r1 e1 => ?_
  exact hf W1 H1 vs ds Q _ s1.ok r1 ((f ds).mono (fun d hd => hd.after w s1) (fun _ z => z) q1)
end
end Ev

namespace Ev
open PySem PySem.Spec L2
variable [Tb]

/-! ### operators that make tuples -/
section
variable {X : Cx}
def rCatB (K : PySem.W.Frag) : R2 := fun x y H Q => ∃ (ax ay : Addr) (us ws : List V), x = .ref ax ∧ y = .ref ay ∧ SqT K H ax us ∧ SqT K H ay ws ∧ us.length + ws.length ≤ sizeLine ∧
  (us = [] → Q (.ref ay) H) ∧ (us ≠ [] → ws = [] → Q (.ref ax) H) ∧ NewT H (us ++ ws) Q
theorem op_catB : OpR X (binaryOp .Add) (rCatB X.K) := by
  rintro pins s σ H _ _ v u Q I rx ry ⟨ax, ay, us, ws, rfl, rfl, g1, g2, sz, k0, k1, k2⟩
  cases rx
  cases ry
  obtain ⟨i1, v1, p1, _⟩ := I.tuple g1
  obtain ⟨i2, v2, p2, _⟩ := I.tuple g2
  by_cases e : us = []
  · subst e
    cases v1
    exact cat_tup0 p1 p2 ⟨.ref ay, H, I, rfl, k0 rfl⟩
  · exact HT.cat_tup p1 p2 (fun z => e (v1.nil_iff.mp z)) (fun z => ⟨.ref ax, H, I, rfl, k1 e (v2.nil_iff.mp z)⟩) (fun _ => ep_tupP (t' := s.toks) I (v1.append v2) (by rw [List.length_append]; exact sz) k2) (by rw [← v1.length, ← v2.length]; exact sz)
def rRepB (K : PySem.W.Frag) : R2 := fun x y H Q => ∃ (l : Addr) (k : Int) (us : List V), x = .ref l ∧ y = .int k ∧ SqT K H l us ∧ us ≠ [] ∧ 2 ≤ k ∧ k ≤ 1000 ∧ us.length ≤ 1000 ∧ NewT H (List.replicate k.toNat us).flatten Q
theorem op_repB : OpR X (binaryOp .Mult) (rRepB X.K) := by
  rintro pins s σ H _ _ v u Q I rx ry ⟨l, k, us, rfl, rfl, g, ne, k2, k1000, lz, new⟩
  cases rx
  obtain ⟨t, rfl⟩ := ry
  obtain ⟨iv, rv, ⟨⟨oc, od, odt, os⟩, ho, hc, n, hd⟩, _⟩ := I.tuple g
  simp only at hc hd
  subst hc hd
  have el : iv.length = us.length := rv.length.symm
  have emp : iv.toArray.isEmpty = false := by
    cases iv with
    | nil => exact absurd (List.eq_nil_of_length_eq_zero el.symm) ne
    | cons _ _ => rfl
  have big : k.toNat * us.length ≤ 1000 * 1000 := Nat.mul_le_mul (by omega) lz
  have bigI : ((iv.toArray.size : Nat) : Int) * k ≤ 1000000 := by
    rw [List.size_toArray, el]
    have := Int.mul_le_mul_of_nonneg_right (show ((us.length : Nat) : Int) ≤ 1000 by omega) (show 0 ≤ k by omega)
    omega
  have rl : (List.replicate k.toNat us).flatten.length ≤ sizeLine := by
    rw [PyProof.Rows.lm_len_rep_flat, sizeLine_eq]
    omega
  have rl2 : (List.replicate k.toNat iv).flatten.length ≤ sizeLine := by
    rw [PyProof.Rows.lm_len_rep_flat, el, sizeLine_eq]
    omega
  have d0 : (decide (k < -(2 ^ 63)) || decide (k ≥ 2 ^ 63)) = false := by
    rw [decide_eq_false (show ¬ k < -(2 ^ 63) by omega), decide_eq_false (show ¬ k ≥ 2 ^ 63 by omega)]
    rfl
  have d1 : (iv.toArray.isEmpty || k == 1) = false := by
    rw [emp, Bool.false_or]
    exact beq_eq_false_iff_ne.mpr (show k ≠ 1 by omega)
  have d2 : (decide (k ≤ 0) || iv.toArray.isEmpty) = false := by
    rw [emp, Bool.or_false]
    exact decide_eq_false (show ¬ k ≤ 0 by omega)
  have d4 : Builtin.Tuple.tupleTooMany (((iv.toArray.size : Nat) : Int) * k) = false := by
    unfold Builtin.Tuple.tupleTooMany
    rw [sizeLine_eq]
    exact decide_eq_false (by omega)
  have fin : EP X pins σ Q (.ref s.heap.objs.size) { s with heap := s.heap.push { cls := .type "tuple", data := .seq (List.replicate k.toNat iv).flatten.toArray }, toks := s.toks } := ep_tupP (t' := s.toks) I (rv.rep k.toNat) rl new
  refine wpAny_binaryOp_repeat_ref (T := "tuple") (U := "int") (by decide) ⟨_, ho, rfl⟩ (fun z => typeIs_int z k t) noFill_tuple_mul F.fills_int_mul F.slot_int_rmul repeat_tuple F.slot_int_index.lookup
    (call_meets F.slot_int_rmul (typeIs_int s k t) F.entry_int_rmul (F.args_int_rmul_2 _ _) (int_rmul_tuple k t l iv.toArray n od os)
      ⟨ho, rfl, ⟨_, ho, rfl⟩, call_meets F.slot_tuple_mul ⟨_, ho, rfl⟩ F.entry_tuple_mul (F.args_tuple_mul_2 _ _) (tuple_mulW l iv.toArray n od os k t d0 d1 d2 (by omega) d4 (by rw [size_rep, List.size_toArray]; exact rl2)) ⟨ho, by rw [size_rep]; exact fin⟩⟩)
def rSlB (K : PySem.W.Frag) : V → Option Int → Option Int → Hp → VK → Prop := fun x lo hi H Q => ∃ (a : Addr) (us : List V), x = .ref a ∧ SqT K H a us ∧
  (HT.sIx us.length 0 lo = 0 ∧ HT.sIx us.length us.length hi = us.length → Q (.ref a) H) ∧ NewT H (cutV us lo hi) Q
theorem sl_tupB : SlR X (rSlB X.K) := by
  rintro pins s σ H _ v vl vu lo hi sl Q I rx hs pl pu ⟨a, us, rfl, g, k1, k2⟩
  cases rx
  obtain ⟨iv, rv, ht, hz⟩ := I.tuple g
  have el : iv.toArray.size = us.length := by rw [List.size_toArray, rv.length]
  refine ⟨"tuple", _, PyProof.Rows.slot_tuple_getitem.lookup, ht.typeIs, ?_⟩
  by_cases hw : HT.sIx us.length 0 lo = 0 ∧ HT.sIx us.length us.length hi = us.length
  · exact getItem_tuple_whole ht hs pl pu (by rw [el]; exact hw) ⟨.ref a, H, I, rfl, k1 hw⟩
  · refine HT.getItem_tuple_cut ht hs pl pu (by rw [el]; exact hw) ?_ (by rw [el]; exact hz)
    rw [el]
    exact ep_tupP (t' := s.toks) I ((rv.drop _).take _) (Nat.le_trans (cutV_length us lo hi) hz) k2
end
/-! ### operators -/
section
variable {K : PySem.W.Frag}
theorem nopen {W : Wd} {H : Hp} (w : WOk W H) {p : Addr} (h : H p = none) : W.P p = none ∧ W.N p = none := by
  constructor
  · cases z : W.P p with
    | none => rfl
    | some u => rw [w.sub p u z] at h; cases h
  · cases z : W.N p with
    | none => rfl
    | some φ =>
      obtain ⟨x, e, _⟩ := (w.pen p φ z).2
      rw [e] at h; cases h
theorem post_tup {W : Wd} {H : Hp} {Q : VK} {vs : List V} {ds : List D} (w : WOk W H) (q : Post K Q W H (.tup ds)) (r : Reps K W vs ds) : NewT H vs Q := newT_at w q r
theorem post_lst {W : Wd} {H : Hp} {Q : VK} {vs : List V} {ds : List D} (w : WOk W H) (q : Post K Q W H (.lst ds)) (r : Reps K W vs ds) : ∀ p, H p = none → Q (.ref p) (upd H p (.lst vs)) := fun p hp =>
  q (.ref p) _ _ (Step.dat w hp) (.lst upd_same (r.mono (Step.dat w hp).le))
theorem post_own {W : Wd} {H : Hp} {Q : VK} {vs : List V} {ds : List D} (w : WOk W H) (q : PostO K Q W H ds) (r : Reps K W vs ds) : ∀ p, H p = none → Q (.ref p) (upd H p (.lst vs)) := fun p hp =>
  q p vs W _ (Step.raw w hp) hp upd_same (nopen w hp).1 (nopen w hp).2 r
theorem post_here {W : Wd} {H : Hp} {Q : VK} {v : V} {d : D} (w : WOk W H) (q : Post K Q W H d) (r : Rep K W v d) : Q v H := q v W H (Step.refl w) r

def rAddA (K : PySem.W.Frag) : R2 := fun x y H Q => rI0 (fun i j => .int (i + j)) x y H Q ∨ rCatB K x y H Q ∨ rCat x y H Q ∨ (∃ i j, x = .str i ∧ y = .str j ∧ i.length + j.length ≤ sizeLine ∧ Q (.str (i ++ j)) H)
theorem op_addA {X : Cx} : OpR X (binaryOp .Add) (rAddA X.K) := op_add.or (op_catB.or (op_cat.or op_add_str))
theorem os_add : OpS K (rAddA K) D.add := by
  intro W H x y dx dy Q E w rx ry h
  cases rx with
  | int i => cases ry with
    | int j => exact .inl ⟨i, j, rfl, rfl, post_here w h (.int _)⟩
    | _ => exact (show False from h).elim
  | str i => cases ry with
    | str j => exact .inr (.inr (.inr ⟨i, j, rfl, rfl, h.1, post_here w h.2 (.str _)⟩))
    | _ => exact (show False from h).elim
  | @tup a vs ds hx r => cases ry with
    | @tup b ws es hy r' =>
      have hz : ds.length + es.length ≤ sizeLine := h.1
      have hq : Post K Q W H (.tup (ds ++ es)) := h.2
      refine .inr (.inl ⟨a, b, vs, ws, rfl, rfl, w.sqT hx, w.sqT hy, by rw [r.length, r'.length]; exact hz, fun e => ?_, fun _ e => ?_, post_tup w hq (r.append r')⟩)
      · subst e
        cases r
        exact post_here w hq (.tup hy r')
      · subst e
        cases r'
        rw [List.append_nil] at hq
        exact post_here w hq (.tup hx r)
    | _ => exact (show False from h).elim
  | @lst a vs ds hx r => cases ry with
    | @lst b ws es hy r' =>
      have hz : ds.length + es.length ≤ sizeLine := h.1
      exact .inr (.inr (.inl ⟨a, b, vs, ws, rfl, rfl, w.sub _ _ hx, w.sub _ _ hy, by rw [r.length, r'.length]; exact hz, post_lst w h.2 (r.append r')⟩))
    | _ => exact (show False from h).elim
  | _ => exact (show False from h).elim
theorem os_sub : OpS K (rI0 fun i j => .int (i - j)) D.sub := by
  intro W H x y dx dy Q E w rx ry h
  cases rx with
  | int i => cases ry with
    | int j => exact ⟨i, j, rfl, rfl, post_here w h (.int _)⟩
    | _ => exact (show False from h).elim
  | _ => exact (show False from h).elim
theorem os_fdiv : OpS K (rI CDiv fun i j => .int (i / j)) D.fdiv := by
  intro W H x y dx dy Q E w rx ry h
  cases rx with
  | int i => cases ry with
    | int j => exact ⟨i, j, rfl, rfl, h.1, post_here w h.2 (.int _)⟩
    | _ => exact (show False from h).elim
  | _ => exact (show False from h).elim
theorem os_mod : OpS K (rI (fun _ j => 0 < j) fun i j => .int (i % j)) D.mod := by
  intro W H x y dx dy Q E w rx ry h
  cases rx with
  | int i => cases ry with
    | int j => exact ⟨i, j, rfl, rfl, h.1, post_here w h.2 (.int _)⟩
    | _ => exact (show False from h).elim
  | _ => exact (show False from h).elim
theorem os_pow : OpS K (rI CPow fun i j => .int (i ^ j.toNat)) D.pow := by
  intro W H x y dx dy Q E w rx ry h
  cases rx with
  | int i => cases ry with
    | int j => exact ⟨i, j, rfl, rfl, h.1, post_here w h.2 (.int _)⟩
    | _ => exact (show False from h).elim
  | _ => exact (show False from h).elim
theorem rep_len {α : Type} (xs : List α) : ∀ k : Nat, ((List.replicate k xs).flatten).length = k * xs.length
  | 0 => by simp
  | k + 1 => by rw [List.replicate_succ, List.flatten_cons, List.length_append, rep_len xs k, Nat.succ_mul, Nat.add_comm]
theorem Reps.rep {W : Wd} {vs : List V} {ds : List D} (r : Reps K W vs ds) : ∀ k : Nat, Reps K W (List.replicate k vs).flatten (List.replicate k ds).flatten
  | 0 => .nil
  | k + 1 => by
    rw [List.replicate_succ, List.replicate_succ, List.flatten_cons, List.flatten_cons]
    exact r.append (Reps.rep r k)
def rMulA (K : PySem.W.Frag) : R2 := fun x y H Q => rI CMul (fun i j => .int (i * j)) x y H Q ∨ rRepB K x y H Q ∨ rRep x y H Q
theorem op_mulA {X : Cx} : OpR X (binaryOp .Mult) (rMulA X.K) := op_mul.or (op_repB.or op_rep)
theorem os_mul : OpS K (rMulA K) D.mul := by
  intro W H x y dx dy Q E w rx ry h
  cases rx with
  | int i => cases ry with
    | int j => exact .inl ⟨i, j, rfl, rfl, h.1, post_here w h.2 (.int _)⟩
    | _ => exact (show False from h).elim
  | @tup a vs ds hx r => cases ry with
    | int k =>
      obtain ⟨⟨h0, h1, h2, h3⟩, hq⟩ := h
      refine .inr (.inl ⟨a, k, vs, rfl, rfl, w.sqT hx, fun e => ?_, h1, h2, by rw [r.length]; exact h3, post_tup w hq (r.rep _)⟩)
      subst e
      cases r
      exact h0 rfl
    | _ => exact (show False from h).elim
  | @lst a vs ds hx r => cases ry with
    | int k =>
      obtain ⟨⟨h1, h2, h3⟩, hq⟩ := h
      have hs : sizeLine = 16777216 := sizeLine_eq
      have hm : vs.length * k.toNat ≤ 1000 * 1000 := Nat.mul_le_mul (by rw [r.length]; exact h2) (by omega)
      exact .inr (.inr ⟨a, k, vs, rfl, rfl, w.sub _ _ hx, h3, by omega, by omega, post_lst w hq (r.rep _)⟩)
    | _ => exact (show False from h).elim
  | _ => exact (show False from h).elim
theorem us_neg : UnS K (rU fun i => .int (-i)) D.neg := by
  intro W H x dx Q E w rx h
  cases rx with
  | int i => exact ⟨i, rfl, post_here w h (.int _)⟩
  | _ => exact (show False from h).elim

/-! comparisons -/
theorem os_lt : OpS K (rI0 fun i j => .bl (decide (i < j))) D.lt := by
  intro W H x y dx dy Q E w rx ry h
  cases rx with
  | int i => cases ry with
    | int j => exact ⟨i, j, rfl, rfl, post_here w h (.bl _)⟩
    | _ => exact (show False from h).elim
  | _ => exact (show False from h).elim
theorem os_le : OpS K (rI0 fun i j => .bl (decide (i ≤ j))) D.le := by
  intro W H x y dx dy Q E w rx ry h
  cases rx with
  | int i => cases ry with
    | int j => exact ⟨i, j, rfl, rfl, post_here w h (.bl _)⟩
    | _ => exact (show False from h).elim
  | _ => exact (show False from h).elim
theorem os_gt : OpS K (rI0 fun i j => .bl (decide (j < i))) D.gt := by
  intro W H x y dx dy Q E w rx ry h
  cases rx with
  | int i => cases ry with
    | int j => exact ⟨i, j, rfl, rfl, post_here w h (.bl _)⟩
    | _ => exact (show False from h).elim
  | _ => exact (show False from h).elim
theorem os_ge : OpS K (rI0 fun i j => .bl (decide (j ≤ i))) D.ge := by
  intro W H x y dx dy Q E w rx ry h
  cases rx with
  | int i => cases ry with
    | int j => exact ⟨i, j, rfl, rfl, post_here w h (.bl _)⟩
    | _ => exact (show False from h).elim
  | _ => exact (show False from h).elim
theorem os_eqS : OpS K rEq D.eqS := by
  intro W H x y dx dy Q E w rx ry h
  cases rx with
  | str i => cases ry with
    | str j =>
      refine ⟨rfl, ?_⟩
      have e : decide (V.str i = V.str j) = decide (i = j) := by rw [Bool.eq_iff_iff]; simp
      rw [e]
      exact post_here w h (.bl _)
    | _ => exact (show False from h).elim
  | _ => exact (show False from h).elim
theorem os_neS : OpS K rNe D.neS := by
  intro W H x y dx dy Q E w rx ry h
  cases rx with
  | str i => cases ry with
    | str j =>
      refine ⟨rfl, ?_⟩
      have e : decide (V.str i = V.str j) = decide (i = j) := by rw [Bool.eq_iff_iff]; simp
      rw [e]
      exact post_here w h (.bl _)
    | _ => exact (show False from h).elim
  | _ => exact (show False from h).elim
/-! is None -/
theorem rep_isN {W : Wd} {v : V} {d : D} (r : Rep K W v d) : decide (v = .non) = d.isN := by
  cases r <;> simp [D.isN]
theorem os_isN : OpS K (fun x y H Q => y = .non ∧ Q (.bl (decide (x = .non))) H) isNF := by
  intro W H x y dx dy Q E w rx ry h
  cases ry with
  | non => exact ⟨rfl, post_here w h (by rw [← rep_isN rx]; exact .bl _)⟩
  | _ => exact (show False from h).elim
theorem os_notN : OpS K (fun x y H Q => y = .non ∧ Q (.bl (!decide (x = .non))) H) notNF := by
  intro W H x y dx dy Q E w rx ry h
  cases ry with
  | non => exact ⟨rfl, post_here w h (by rw [← rep_isN rx]; exact .bl _)⟩
  | _ => exact (show False from h).elim

/-! data as the library reads them -/
mutual
theorem Rep.dp {W : Wd} {H : Hp} (w : WOk W H) : ∀ {v : V} {d : D}, Rep K W v d → d.plain false = true → Dp K H v d.py
  | _, _, .non, _ => by rw [D.py]; exact .non
  | _, _, .bl b, _ => by rw [D.py]; exact .bl b
  | _, _, .int i, _ => by rw [D.py]; exact .int i
  | _, _, .str x, _ => by rw [D.py]; exact .str x
  | _, _, .tup h r, p => by
    rw [D.py]
    exact .tup (w.sqT h) (Reps.dp w r (by simpa [D.plain] using p))
  | _, _, .lst h r, p => by
    rw [D.py]
    exact .lst (.inl (.inl (w.sub _ _ h))) (Reps.dp w r (by simpa [D.plain] using p))
  | _, _, .dct h r, p => by simp [D.plain] at p
  | _, _, .pen h, p => by simp [D.plain] at p
  | _, _, .scr h, p => by simp [D.plain] at p
  | _, _, .mem h _, p => by simp [D.plain] at p
  | _, _, .obj _ _, p => by simp [D.plain] at p
  | _, _, .fn i _, p => by simp [D.plain] at p
  | _, _, .raw i, p => by simp [D.plain] at p
theorem Reps.dp {W : Wd} {H : Hp} (w : WOk W H) : ∀ {vs : List V} {ds : List D}, Reps K W vs ds → D.plains false ds = true → DpAll K H vs (D.pys ds)
  | _, _, .nil, _ => by rw [D.pys]; exact .nil
  | _, _, .cons h r, p => by
    rw [D.plains, Bool.and_eq_true] at p
    rw [D.pys]
    exact .cons (Rep.dp w h p.1) (Reps.dp w r p.2)
end
theorem cmp_split {d : D} (h : d.cmp = true) : d.plain false = true ∧ SeqAt.shaped d.py = true := by
  rw [D.cmp, Bool.and_eq_true, Bool.and_eq_true] at h
  refine ⟨h.1.1, ?_⟩
  rw [SeqAt.shaped, Bool.and_eq_true]
  exact ⟨h.1.2, h.2⟩
theorem os_eq : OpS K (rEqD K) D.eq := by
  intro W H x y dx dy Q E w rx ry h
  obtain ⟨⟨h1, h2⟩, q⟩ := h
  obtain ⟨p1, s1⟩ := cmp_split h1
  obtain ⟨p2, s2⟩ := cmp_split h2
  exact ⟨dx.py, dy.py, rx.dp w p1, ry.dp w p2, s1, s2, post_here w q (.bl _)⟩
theorem os_ne : OpS K (rNeD K) D.ne := by
  intro W H x y dx dy Q E w rx ry h
  obtain ⟨⟨h1, h2⟩, q⟩ := h
  obtain ⟨p1, s1⟩ := cmp_split h1
  obtain ⟨p2, s2⟩ := cmp_split h2
  exact ⟨dx.py, dy.py, rx.dp w p1, ry.dp w p2, s1, s2, post_here w q (.bl _)⟩

/-! ### subscripts -/
def rIxA (K : PySem.W.Frag) : R2 := fun x y H Q => rIxL K x y H Q ∨ rIxT K x y H Q
theorem ix_any {X : Cx} : IxR X (rIxA X.K) := ix_list.or ix_tup
theorem atI_map {α β : Type} (xs : List α) (f : α → β) (i : Int) : atI (xs.map f) i = (atI' xs i).map f := by
  unfold atI atI' ixN
  rw [List.length_map]
  by_cases h0 : 0 ≤ i
  · rw [if_pos h0, if_pos h0]
    by_cases h1 : i < (xs.length : Int)
    · rw [if_pos h1, if_pos h1, Option.bind_some, List.getElem?_map]
    · rw [if_neg h1, if_neg h1, Option.bind_none, Option.map_none]
  · rw [if_neg h0, if_neg h0]
    by_cases h1 : -(xs.length : Int) ≤ i
    · rw [if_pos h1, if_pos h1, Option.bind_some, List.getElem?_map]
    · rw [if_neg h1, if_neg h1, Option.bind_none, Option.map_none]
theorem Reps.atI {W : Wd} {vs : List V} {ds : List D} {i : Int} {d : D} (r : Reps K W vs ds) (h : atI' ds i = some d) : ∃ v, L2.atI vs i = some v ∧ Rep K W v d := by
  unfold atI' at h
  unfold L2.atI ixN
  rw [r.length]
  by_cases h0 : 0 ≤ i
  · rw [if_pos h0] at h ⊢
    by_cases h1 : i < (ds.length : Int)
    · rw [if_pos h1] at h ⊢
      rw [Option.bind_some]
      exact r.get h
    · rw [if_neg h1] at h; cases h
  · rw [if_neg h0] at h ⊢
    by_cases h1 : -(ds.length : Int) ≤ i
    · rw [if_pos h1] at h ⊢
      rw [Option.bind_some]
      exact r.get h
    · rw [if_neg h1] at h; cases h
theorem ofO_run {α : Type} {o : Option α} {Q : α → Prop} {E : Exn → Prop} (h : (ofO o).run Q E) : ∃ a, o = some a ∧ Q a := by
  cases o with
  | none => exact (show False from h).elim
  | some a => exact ⟨a, rfl, h⟩
theorem os_ix : OpS K (rIxA K) D.ix := by
  intro W H x y dx dy Q E w rx ry h
  cases rx with
  | @tup a vs ds hx r => cases ry with
    | int i =>
      obtain ⟨d, e, q⟩ := ofO_run h
      obtain ⟨v, e2, r2⟩ := r.atI e
      exact .inr ⟨a, vs, i, v, rfl, rfl, w.sqT hx, e2, post_here w q r2⟩
    | _ => exact (show False from h).elim
  | @lst a vs ds hx r => cases ry with
    | int i =>
      obtain ⟨d, e, q⟩ := ofO_run h
      obtain ⟨v, e2, r2⟩ := r.atI e
      exact .inl ⟨a, vs, i, v, rfl, rfl, .inl (.inl (w.sub _ _ hx)), e2, post_here w q r2⟩
    | _ => exact (show False from h).elim
  | @scr a ns hx => cases ry with
    | int i =>
      obtain ⟨d, e, q⟩ := ofO_run h
      refine .inl ⟨a, _, i, .int d, rfl, rfl, w.sqL hx, ?_, post_here w q (.int _)⟩
      rw [atI_map, e]
      rfl
    | _ => exact (show False from h).elim
  | _ => exact (show False from h).elim

/-! slices -/
def SSl (K : PySem.W.Frag) (r : V → Option Int → Option Int → Hp → VK → Prop) (f : D → Option Int → Option Int → M D) : Prop :=
  ∀ W H x d lo hi Q (E : Exn → Prop), WOk W H → Rep K W x d → (f d lo hi).run (Post K Q W H) E → r x lo hi H Q
def rSlAll (K : PySem.W.Frag) : V → Option Int → Option Int → Hp → VK → Prop := fun x lo hi H Q => rSlL K x lo hi H Q ∨ rSlB K x lo hi H Q
theorem sl_any {X : Cx} : SlR X (rSlAll X.K) := sl_list.or sl_tupB
theorem sIx_eq (n d : Nat) (o : Option Int) (hd : d ≤ n) : HT.sIx n d o = sIx' n d o := by
  cases o with
  | none => rfl
  | some v =>
    have e := HT.clip_eq v n d
    unfold sIx'
    by_cases h : v < 0
    · rw [if_pos h] at e
      show _ = (if v < 0 then (v + (n : Int)).toNat else min v.toNat n)
      rw [if_pos h]
      have := HT.sIx_le n d hd (some v)
      omega
    · rw [if_neg h] at e
      show _ = (if v < 0 then (v + (n : Int)).toNat else min v.toNat n)
      rw [if_neg h]
      omega
theorem cutV_eq (xs : List V) (lo hi : Option Int) : cutV xs lo hi = cutL xs lo hi := by
  unfold cutV cutL
  rw [sIx_eq _ _ _ (Nat.zero_le _), sIx_eq _ _ _ (Nat.le_refl _)]
theorem Reps.cut {W : Wd} {vs : List V} {ds : List D} (lo hi : Option Int) (r : Reps K W vs ds) : Reps K W (cutV vs lo hi) (cutL ds lo hi) := by
  rw [cutV_eq]
  unfold cutL
  rw [r.length]
  exact (r.drop _).take _
theorem ss_cut : SSl K (rSlAll K) D.cutI := by
  intro W H x d lo hi Q E w rx h
  cases rx with
  | @tup a vs ds hx r =>
    have hq : Post K Q W H (.tup (cutL ds lo hi)) := h
    refine .inr ⟨a, vs, rfl, w.sqT hx, fun e => ?_, post_tup w hq (r.cut lo hi)⟩
    have e2 : cutV vs lo hi = vs := by
      unfold cutV
      rw [e.1, e.2, List.drop_zero, Nat.sub_zero, List.take_length]
    have r2 := r.cut lo hi
    rw [e2] at r2
    exact post_here w hq (.tup hx r2)
  | @lst a vs ds hx r => exact .inl ⟨a, vs, rfl, .inl (.inl (w.sub _ _ hx)), post_lst w h (r.cut lo hi)⟩
  | _ => exact (show False from h).elim
end
section
variable {S : Sx} {ρ : List Sl} {ra : M D} {ta : TE}
/-- the parts of a slice -/
def SP (S : Sx) (t : TO) (ρ : List Sl) (r : M (Option Int)) : Prop :=
  ∀ σ H W H0 Q, EnvR S.K W H H0 σ ρ → WOk W H → r.run (fun o => ∀ W' H', Step W H W' H' → Q o H') (XPost S W H) → t σ H Q
theorem sp_none : SP S tNoPart ρ (pure none) := fun σ H W H0 Q e w q => q W H (Step.refl w)
theorem sp_some (h : SE S ta ρ ra) : SP S (tPart ta) ρ (partM ra) := fun σ H W H0 Q e w q => by
  refine h.go e w q (fun _ z => z) fun d v W1 H1 q1 s1 r1 e1 => ?_
  cases d with
  | int i => cases r1; exact ⟨i, rfl, q1 W1 H1 s1⟩
  | _ => exact (show False from q1).elim
theorem se_slice {r : V → Option Int → Option Int → Hp → VK → Prop} {f : D → Option Int → Option Int → M D} {tl th : TO} {rl rh : M (Option Int)} (hf : SSl S.K r f) (h : SE S ta ρ ra) (hl : SP S tl ρ rl) (hh : SP S th ρ rh) :
    SE S (tSl r ta tl th) ρ (cutM ra rl rh f) := fun σ H W H0 Q e w q => by
  refine h.go e w q (fun _ z => z) fun d v W1 H1 q1 s1 r1 e1 => ?_
  refine hl σ H1 W1 H0 _ e1 s1.ok (rl.mono (fun l hl W2 H2 s2 => ?_) (fun _ z => z.after w s1) q1)
  have w2 := s1.trans w s2
  refine hh σ H2 W2 H0 _ (e1.step s2) s2.ok (rh.mono (fun u hu W3 H3 s3 => ?_) (fun _ z => z.after w w2) hl)
  have w3 := w2.trans w s3
  exact hf W3 H3 v d l u Q _ s3.ok (r1.mono (s2.le.trans s3.le)) ((f d l u).mono (fun _ z => z.after w w3) (fun _ z => z) hu)
end
end Ev

namespace Ev
open PySem PySem.Spec L2
variable [Tb]

/-! ### repr -/
theorem keyReads {h : Heap} {k : Key} {u : Value} (e : keyIs k u = true) : Reads h u (keyPy k) [] := by
  rcases keyIs_shape e with ⟨i, t, rfl, rfl⟩ | ⟨x, t, rfl, rfl⟩
  · exact Reads.int i t
  · exact Reads.str x t
section
variable {X : Cx} {pins : List (Addr × Obj)} {σ : L2.St} {H : Hp} {s : Shared} {W : Wd}
mutual
theorem Rep.reads (I : Inv X pins σ H s) (w : WOk W H) : ∀ {v : V} {d : D} {u : Value}, Rep X.K W v d → RelV v u → d.plain true = true → ∃ as, Reads s.heap u d.py as ∧ (nolst d.py = true → sysModules ∉ as)
  | _, _, _, .non, r, _ => by
    rw [D.py]
    cases r
    exact ⟨_, Reads.none, fun _ => by simp⟩
  | _, _, _, .bl b, r, _ => by
    rw [D.py]
    cases r
    exact ⟨_, Reads.bool b, fun _ => by simp⟩
  | _, _, _, .int i, r, _ => by
    rw [D.py]
    obtain ⟨t, rfl⟩ := r
    exact ⟨_, Reads.int i t, fun _ => by simp⟩
  | _, _, _, .str x, r, _ => by
    rw [D.py]
    obtain ⟨t, rfl⟩ := r
    exact ⟨_, Reads.str x t, fun _ => by simp⟩
  | _, _, _, .tup h rs, r, p => by
    rw [D.py]
    cases r
    obtain ⟨its, rv, ⟨o, ho, hc, n, hd⟩, _⟩ := I.tuple (w.sqT h)
    obtain ⟨as, hr, hn⟩ := Reps.reads I w rs rv (by simpa [D.plain] using p)
    exact ⟨as, Reads.tuple ho hc hd hr, fun z => hn (by simpa [nolst] using z)⟩
  | _, _, _, .lst h rs, r, p => by
    rw [D.py]
    cases r
    obtain ⟨its, rv, ⟨o, n, ho, hc, _, hd⟩, _⟩ := I.list (.inl (.inl (w.sub _ _ h)))
    obtain ⟨as, hr, hn⟩ := Reps.reads I w rs rv (by simpa [D.plain] using p)
    exact ⟨_, Reads.list ho hc hd hr, fun z => by simp [nolst] at z⟩
  | _, _, _, @Rep.dct _ _ _ a kvs ds h rs, r, p => by
    rw [D.py]
    cases r
    obtain ⟨_, hsm, vs, rk, o, es, ep, ho, hx, hd, _, hp, _⟩ := (show ObjOk X.prog X.w H s.heap a (.dK kvs) from I.hok a _ (w.sub _ _ h))
    obtain ⟨as, bs, h1, h2, hn⟩ := RepKv.reads I w rs rk hp (by simpa [D.plain] using p)
    refine ⟨_, Reads.dict ho hx.1 hd h1 h2, fun z => ?_⟩
    obtain ⟨ea, eb⟩ := hn (by simpa [nolst] using z)
    intro m
    rcases List.mem_append.mp m with m | m
    · rcases List.mem_cons.mp m with m | m
      · rw [← m] at hsm
        simp at hsm
      · exact ea m
    · exact eb m
  | _, _, _, .pen h, _, p => by simp [D.plain] at p
  | _, _, _, .scr h, _, p => by simp [D.plain] at p
  | _, _, _, .mem h _, _, p => by simp [D.plain] at p
  | _, _, _, .obj _ _, _, p => by simp [D.plain] at p
  | _, _, _, .fn i _, _, p => by simp [D.plain] at p
  | _, _, _, .raw i, _, p => by simp [D.plain] at p
theorem Reps.reads (I : Inv X pins σ H s) (w : WOk W H) : ∀ {vs : List V} {ds : List D} {us : List Value}, Reps X.K W vs ds → Vals vs us → D.plains true ds = true → ∃ as, ReadsAll s.heap us (D.pys ds) as ∧ (nolsts (D.pys ds) = true → sysModules ∉ as)
  | _, _, _, .nil, r, _ => by
    rw [D.pys]
    cases r
    exact ⟨_, ReadsAll.nil, fun _ => by simp⟩
  | _, _, _, .cons h rs, r, p => by
    rw [D.plains, Bool.and_eq_true] at p
    rw [D.pys]
    cases r with
    | cons r1 r2 =>
      obtain ⟨as, q1, n1⟩ := Rep.reads I w h r1 p.1
      obtain ⟨bs, q2, n2⟩ := Reps.reads I w rs r2 p.2
      refine ⟨_, ReadsAll.cons q1 q2, fun z => ?_⟩
      rw [nolsts, Bool.and_eq_true] at z
      intro m
      rcases List.mem_append.mp m with m | m
      · exact n1 z.1 m
      · exact n2 z.2 m
theorem RepKv.reads (I : Inv X pins σ H s) (w : WOk W H) : ∀ {kvs : List (Key × V)} {ds : List (Sum Int Str × D)} {vs : List (Key × Value)} {es : List DictEntry}, RepKv X.K W kvs ds → KV kvs vs → Pairs (mixKind X.prog X.w) es vs → D.plainKv true ds = true →
    ∃ as bs, ReadsAll s.heap (es.map (·.key)) ((D.pyKv ds).map (·.1)) as ∧ ReadsAll s.heap (es.map (·.val)) ((D.pyKv ds).map (·.2)) bs ∧ (nolstKv (D.pyKv ds) = true → sysModules ∉ as ∧ sysModules ∉ bs)
  | _, _, _, _, .nil, r, hp, _ => by
    rw [D.pyKv]
    cases r
    cases hp
    exact ⟨_, _, ReadsAll.nil, ReadsAll.nil, fun _ => ⟨by simp, by simp⟩⟩
  | _, _, _, _, @RepKv.cons _ _ _ k v d kvs ds h rs, r, hp, p => by
    rw [D.plainKv, Bool.and_eq_true] at p
    rw [D.pyKv]
    cases r with
    | @cons _ kv _ kvs' r1 r2 =>
      obtain ⟨ek, r1⟩ := r1
      cases hp with
      | @cons e _ es _ hk hv hr =>
        have ek' : k = kv.1 := ek
        have hk' : keyIs kv.1 e.key = true := hk
        rw [← ek'] at hk'
        obtain ⟨as, q1, n1⟩ := Rep.reads (u := e.val) I w h (by rw [hv]; exact r1) p.1
        obtain ⟨as2, bs2, q2, q3, n2⟩ := RepKv.reads I w rs r2 hr p.2
        refine ⟨_, _, ReadsAll.cons (keyReads hk') q2, ReadsAll.cons q1 q3, fun z => ?_⟩
        rw [nolstKv, Bool.and_eq_true, Bool.and_eq_true] at z
        obtain ⟨e1, e2⟩ := n2 z.2
        refine ⟨fun m => ?_, fun m => ?_⟩
        · rcases List.mem_append.mp m with m | m
          · exact absurd m (by simp)
          · exact e1 m
        · rcases List.mem_append.mp m with m | m
          · exact n1 z.1.2 m
          · exact e2 m
end
end
/-- .. of a thing of ours -/
def rReprD (K : PySem.W.Frag) : List V → Hp → VK → Prop := fun vs H Q => ∃ v W d, vs = [v] ∧ WOk W H ∧ Rep K W v d ∧ d.canShow ∧ Q (.str d.shown) H
theorem call_repr {X : Cx} (hg : X.A.guards = some []) (hu : X.A.units + 64 < cLine) : CallR X (.builtin "repr") (rReprD X.K) := by
  intro pins s σ H vs us Q I r h
  obtain ⟨v, W, d, rfl, w, rp, ⟨c1, c2, c3, c4, c5⟩, q⟩ := h
  obtain ⟨u, rfl, rv⟩ := vals1 r
  have key : ∀ a, u = .ref a → wpAny (model X.prog X.w) X.A (call (.builtin "repr") [u]) (EP X pins σ Q) X.xe s := fun a ea => by
    obtain ⟨as, hr, hn⟩ := rp.reads I w rv c1
    subst ea
    refine repr_of_reads' hr c2 (fun z => hn (c5 z)) hg (by omega) (fun _ _ e => e) (fun h' t tk kp => ?_) c4
    exact ⟨.str d.shown, H, I.kept kp, ⟨t, rfl⟩, q⟩
  cases rp with
  | non =>
    cases rv
    refine PySem.P.repr_of_none ⟨.str "None", H, I.tok _, ⟨_, rfl⟩, ?_⟩
    have e : D.shown .non = "None" := by simp only [D.shown, D.py, PyData.shown]
    rw [← e]
    exact q
  | bl b =>
    cases rv
    cases b with
    | true =>
      refine PySem.P.repr_of_bool ⟨.str "True", H, I.tok _, ⟨_, rfl⟩, ?_⟩
      have e : D.shown (.bl true) = "True" := by
        rw [D.shown, D.py, PyData.shown]
        rfl
      rw [← e]
      exact q
    | false =>
      refine PySem.P.repr_of_bool ⟨.str "False", H, I.tok _, ⟨_, rfl⟩, ?_⟩
      have e : D.shown (.bl false) = "False" := by
        rw [D.shown, D.py, PyData.shown]
        rfl
      rw [← e]
      exact q
  | int i =>
    obtain ⟨t, rfl⟩ := rv
    have c2' : i.natAbs.log2 < 1920 := by simpa [D.py, PyData.showable] using c2
    refine PySem.P.repr_of_int c2' ⟨.str (toString i), H, I.tok _, ⟨_, rfl⟩, ?_⟩
    have e : D.shown (.int i) = (toString i) := by simp only [D.shown, D.py, PyData.shown]
    rw [← e]
    exact q
  | str x =>
    obtain ⟨t, rfl⟩ := rv
    have e : D.shown (.str x) = reprText x := by simp only [D.shown, D.py, PyData.shown]
    have c4' : (reprText x).length ≤ sizeLine := by rw [← e]; exact c4
    refine PySem.P.repr_of_str ⟨.str (reprText x), H, I.tok _, ⟨_, rfl⟩, ?_⟩ c4'
    rw [← e]
    exact q
  | tup _ _ => cases rv; exact key _ rfl
  | lst _ _ => cases rv; exact key _ rfl
  | dct _ _ => cases rv; exact key _ rfl
  | pen _ => simp [D.plain] at c1
  | scr _ => simp [D.plain] at c1
  | mem _ _ => simp [D.plain] at c1
  | obj _ _ => simp [D.plain] at c1
  | fn _ _ => simp [D.plain] at c1
  | raw _ => simp [D.plain] at c1
end Ev

namespace Ev
open PySem PySem.Spec L2
variable [Tb]
section
variable {K : PySem.W.Frag}
theorem f1_run {g : D → M D} {ds : List D} {Q : D → Prop} {E : Exn → Prop} (h : (f1 g ds).run Q E) : ∃ d, ds = [d] ∧ (g d).run Q E := by
  match ds, h with
  | [d], h => exact ⟨d, rfl, h⟩
  | [], h => exact (show False from h).elim
  | _ :: _ :: _, h => exact (show False from h).elim
theorem f2_run {g : D → D → M D} {ds : List D} {Q : D → Prop} {E : Exn → Prop} (h : (f2 g ds).run Q E) : ∃ d e, ds = [d, e] ∧ (g d e).run Q E := by
  match ds, h with
  | [d, e], h => exact ⟨d, e, rfl, h⟩
  | [], h => exact (show False from h).elim
  | [_], h => exact (show False from h).elim
  | _ :: _ :: _ :: _, h => exact (show False from h).elim
theorem Reps.of1 {W : Wd} {vs : List V} {d : D} (r : Reps K W vs [d]) : ∃ v, vs = [v] ∧ Rep K W v d := by
  cases r with
  | cons a b => cases b; exact ⟨_, rfl, a⟩
theorem Reps.of2 {W : Wd} {vs : List V} {d e : D} (r : Reps K W vs [d, e]) : ∃ v u, vs = [v, u] ∧ Rep K W v d ∧ Rep K W u e := by
  cases r with
  | cons a b =>
    cases b with
    | cons c b => cases b; exact ⟨_, _, rfl, a, c⟩

theorem Reps.of3 {W : Wd} {vs : List V} {d e f : D} (r : Reps K W vs [d, e, f]) : ∃ v u z, vs = [v, u, z] ∧ Rep K W v d ∧ Rep K W u e ∧ Rep K W z f := by
  cases r with
  | cons a b =>
    obtain ⟨u, z, rfl, h1, h2⟩ := b.of2
    exact ⟨_, _, _, rfl, a, h1, h2⟩

/-! len -/
def rLenA (K : PySem.W.Frag) : List V → Hp → VK → Prop := fun xs H Q => (∃ x n, xs = [x] ∧ LenV K x H n ∧ Q (.int n) H) ∨ (∃ a kvs, xs = [V.ref a] ∧ H a = some (.dK kvs) ∧ Q (.int kvs.length) H)
theorem call_lenA {X : Cx} : CallR X (.builtin "len") (rLenA X.K) := call_len.or call_lenD
theorem cs_len : CaS K (rLenA K) (f1 D.len) := by
  intro W H vs ds Q E w rs h
  obtain ⟨d, rfl, h⟩ := f1_run h
  obtain ⟨v, rfl, r⟩ := rs.of1
  cases r with
  | @tup a vs ds hx r => exact .inl ⟨_, _, rfl, .inr ⟨vs, w.sqT hx, rfl⟩, post_here w h (by rw [r.length]; exact .int _)⟩
  | @lst a vs ds hx r => exact .inl ⟨_, _, rfl, .inl ⟨vs, .inl (.inl (w.sub _ _ hx)), rfl⟩, post_here w h (by rw [r.length]; exact .int _)⟩
  | @scr a ns hx => exact .inl ⟨_, _, rfl, .inl ⟨_, w.sqL hx, rfl⟩, post_here w h (by rw [List.length_map]; exact .int _)⟩
  | str x => exact .inl ⟨_, _, rfl, ⟨h.1, rfl⟩, post_here w h.2 (.int _)⟩
  | @dct a kvs ds hx r => exact .inr ⟨a, kvs, rfl, w.sub _ _ hx, post_here w h (by rw [r.length]; exact .int _)⟩
  | _ => exact (show False from h).elim
/-! tuple(..), list(..) -/
/-- tuple(xs) -/
def rTupB (K : PySem.W.Frag) : List V → Hp → VK → Prop := fun xs H Q => ∃ (p : Addr) (us : List V), xs = [.ref p] ∧ ((SqL K H p us ∧ NewT H us Q) ∨ (SqT K H p us ∧ Q (.ref p) H))
theorem call_tupB {X : Cx} : CallR X (.type "tuple") (rTupB X.K) := by
  rintro pins s σ H xs vs Q I r ⟨p, us, rfl, h⟩
  obtain ⟨u, rfl, rx⟩ := vals1 r
  cases rx
  rcases h with ⟨g, new⟩ | ⟨g, q⟩
  · obtain ⟨iv, rv, pl, hz⟩ := I.list g
    have el := rv.length
    refine call_tuple_list pl.isList (fun h1 kp => ?_) (by simp only [List.size_toArray] <;> omega)
    exact ep_tupP (t' := s.toks) (I.kept (t' := s.toks) kp) rv hz new
  · obtain ⟨iv, rv, pl, _⟩ := I.tuple g
    exact call_tuple_same pl ⟨.ref p, H, I, rfl, q⟩
theorem cs_tup : CaS K (rTupB K) (f1 D.toTup) := by
  intro W H vs ds Q E w rs h
  obtain ⟨d, rfl, h⟩ := f1_run h
  obtain ⟨v, rfl, r⟩ := rs.of1
  cases r with
  | @tup a vs ds hx r => exact ⟨a, vs, rfl, .inr ⟨w.sqT hx, post_here w h (.tup hx r)⟩⟩
  | @lst a vs ds hx r => exact ⟨a, vs, rfl, .inl ⟨.inl (.inl (w.sub _ _ hx)), post_tup w h r⟩⟩
  | _ => exact (show False from h).elim
theorem fo1_run {g : D → M (List D)} {ds : List D} {Q : List D → Prop} {E : Exn → Prop} (h : (fo1 g ds).run Q E) : ∃ d, ds = [d] ∧ (g d).run Q E := by
  match ds, h with
  | [d], h => exact ⟨d, rfl, h⟩
  | [], h => exact (show False from h).elim
  | _ :: _ :: _, h => exact (show False from h).elim
theorem co_lst : CaO K (fun xs H Q => ∃ p ys, xs = [.ref p] ∧ (SqL K H p ys ∨ SqT K H p ys) ∧ ∀ l, H l = none → Q (.ref l) (upd H l (.lst ys))) (fo1 D.toLst') := by
  intro W H vs ds Q E w rs h
  obtain ⟨d, rfl, h⟩ := fo1_run h
  obtain ⟨v, rfl, r⟩ := rs.of1
  cases r with
  | @tup a vs ds hx r => exact ⟨a, vs, rfl, .inr (w.sqT hx), post_own w h r⟩
  | @lst a vs ds hx r => exact ⟨a, vs, rfl, .inl (.inl (.inl (w.sub _ _ hx))), post_own w h r⟩
  | _ => exact (show False from h).elim
theorem cs_lst : CaS K (fun xs H Q => ∃ p ys, xs = [.ref p] ∧ (SqL K H p ys ∨ SqT K H p ys) ∧ ∀ l, H l = none → Q (.ref l) (upd H l (.lst ys))) (f1 D.toLst) := by
  intro W H vs ds Q E w rs h
  obtain ⟨d, rfl, h⟩ := f1_run h
  obtain ⟨v, rfl, r⟩ := rs.of1
  cases r with
  | @tup a vs ds hx r => exact ⟨a, vs, rfl, .inr (w.sqT hx), post_lst w h r⟩
  | @lst a vs ds hx r => exact ⟨a, vs, rfl, .inl (.inl (.inl (w.sub _ _ hx))), post_lst w h r⟩
  | _ => exact (show False from h).elim
/-! max, min of two, int -/
theorem cs_max2 : CaS K (fun xs H Q => ∃ i j, xs = [.int i, .int j] ∧ Q (.int (if j > i then j else i)) H) (f2 D.max2) := by
  intro W H vs ds Q E w rs h
  obtain ⟨d, e, rfl, h⟩ := f2_run h
  obtain ⟨v, u, rfl, r, r'⟩ := rs.of2
  cases r with
  | int i => cases r' with
    | int j => exact ⟨i, j, rfl, post_here w h (.int _)⟩
    | _ => exact (show False from h).elim
  | _ => exact (show False from h).elim
theorem cs_min2 : CaS K (fun xs H Q => ∃ i j, xs = [.int i, .int j] ∧ Q (.int (if j < i then j else i)) H) (f2 D.min2) := by
  intro W H vs ds Q E w rs h
  obtain ⟨d, e, rfl, h⟩ := f2_run h
  obtain ⟨v, u, rfl, r, r'⟩ := rs.of2
  cases r with
  | int i => cases r' with
    | int j => exact ⟨i, j, rfl, post_here w h (.int _)⟩
    | _ => exact (show False from h).elim
  | _ => exact (show False from h).elim
theorem cs_int : CaS K (fun xs H Q => (∃ i, xs = [.int i] ∧ Q (.int i) H) ∨ ∃ k, xs = [.bl k] ∧ Q (.int (if k then 1 else 0)) H) (f1 D.toInt) := by
  intro W H vs ds Q E w rs h
  obtain ⟨d, rfl, h⟩ := f1_run h
  obtain ⟨v, rfl, r⟩ := rs.of1
  cases r with
  | int i => exact .inl ⟨i, rfl, post_here w h (.int _)⟩
  | bl k => exact .inr ⟨k, rfl, post_here w h (.int _)⟩
  | _ => exact (show False from h).elim
/-! all, any -/
theorem bools_rep {W : Wd} : ∀ {vs : List V} {ds : List D} {bs : List Bool}, Reps K W vs ds → boolsL ds = some bs → vs = bs.map V.bl
  | _, _, bs, .nil, e => by
    rw [boolsL] at e
    cases e
    rfl
  | _, _, bs, .cons (d := d) (ds := ds) h r, e => by
    cases h with
    | bl b =>
      rw [boolsL, Option.map_eq_some_iff] at e
      obtain ⟨cs, e1, e2⟩ := e
      rw [← e2, List.map_cons, bools_rep r e1]
    | _ => exact absurd e (by simp [boolsL])
theorem ints_rep {W : Wd} : ∀ {vs : List V} {ds : List D} {bs : List Int}, Reps K W vs ds → intsL ds = some bs → vs = bs.map V.int
  | _, _, bs, .nil, e => by
    rw [intsL] at e
    cases e
    rfl
  | _, _, bs, .cons (d := d) (ds := ds) h r, e => by
    cases h with
    | int b =>
      rw [intsL, Option.map_eq_some_iff] at e
      obtain ⟨cs, e1, e2⟩ := e
      rw [← e2, List.map_cons, ints_rep r e1]
    | _ => exact absurd e (by simp [intsL])
theorem cs_all : CaS K (rAll K) (f1 D.all) := by
  intro W H vs ds Q E w rs h
  obtain ⟨d, rfl, h⟩ := f1_run h
  obtain ⟨v, rfl, r⟩ := rs.of1
  cases r with
  | @lst a vs ds hx r =>
    obtain ⟨bs, e, q⟩ := ofO_run h
    refine ⟨a, bs, rfl, ?_, post_here w q (.bl _)⟩
    rw [← bools_rep r e]
    exact .inl (.inl (w.sub _ _ hx))
  | _ => exact (show False from h).elim
theorem cs_any : CaS K (rAny K) (f1 D.any) := by
  intro W H vs ds Q E w rs h
  obtain ⟨d, rfl, h⟩ := f1_run h
  obtain ⟨v, rfl, r⟩ := rs.of1
  cases r with
  | @lst a vs ds hx r =>
    obtain ⟨bs, e, q⟩ := ofO_run h
    refine ⟨a, bs, rfl, ?_, post_here w q (.bl _)⟩
    rw [← bools_rep r e]
    exact .inl (.inl (w.sub _ _ hx))
  | _ => exact (show False from h).elim
theorem cs_repr : CaS K (rReprD K) (f1 D.repr) := by
  intro W H vs ds Q E w rs h
  obtain ⟨d, rfl, h⟩ := f1_run h
  obtain ⟨v, rfl, r⟩ := rs.of1
  exact ⟨v, W, d, rfl, w, r, h.1, post_here w h.2 (.str _)⟩

/-! isinstance with a built-in type -/
def Ty.name : Ty → String
  | .int => "int" | .bool => "bool" | .str => "str" | .tuple => "tuple" | .list => "list" | .dict => "dict"
theorem isa_kit {H : Hp} {W : Wd} (w : WOk W H) {v : V} {d : D} {ty : Ty} {b : Bool} (r : Rep K W v d) (e : d.isa ty = some b) : ∃ t : String, TyX K H v (.type t) ∧ kitB t ty.name = some b := by
  cases r with
  | non => cases e; exact ⟨"NoneType", .base .non, by cases ty <;> decide +kernel⟩
  | bl x => cases e; exact ⟨"bool", .base (.bl x), by cases ty <;> decide +kernel⟩
  | int x => cases e; exact ⟨"int", .base (.int x), by cases ty <;> decide +kernel⟩
  | str x => cases e; exact ⟨"str", .base (.str x), by cases ty <;> decide +kernel⟩
  | @tup a vs ds hx _ =>
    cases e
    refine ⟨"tuple", ?_, by cases ty <;> decide +kernel⟩
    rcases hx with ⟨o, h, _⟩ | ⟨o, its, n, h1, h2, _⟩
    · exact .fTuple (w.sub _ _ h)
    · exact .kTuple h1 h2
  | lst hx _ => cases e; exact ⟨"list", .base (.lst (w.sub _ _ hx)), by cases ty <;> decide +kernel⟩
  | dct hx _ => cases e; exact ⟨"dict", .base (.dK (w.sub _ _ hx)), by cases ty <;> decide +kernel⟩
  | pen _ => cases ty <;> cases e
  | scr _ => cases ty <;> cases e
  | mem _ _ => cases ty <;> cases e
  | obj _ _ => cases ty <;> cases e
  | fn _ _ => cases ty <;> cases e
  | raw _ => cases ty <;> cases e
end
section
variable {S : Sx} {ρ : List Sl} {ra : M D} {ta : TE}
theorem se_isa (ty : Ty) (h : SE S ta ρ ra) : SE S (tCB (rIsi S.K) (tCons ta (tCons (tC (.ty ty.name)) tNil))) ρ (ra >>= isaM ty) := fun σ H W H0 Q e w q => by
  refine h.go e w q (fun _ z => z) fun d v W1 H1 q1 s1 r1 e1 => ?_
  unfold isaM at q1
  cases eb : d.isa ty with
  | none => rw [eb] at q1; exact (show False from q1).elim
  | some b =>
    rw [eb] at q1
    obtain ⟨t, h1, h2⟩ := isa_kit s1.ok r1 eb
    exact ⟨v, .ty ty.name, .type t, .type ty.name, b, rfl, .ty _, h1, kit_ty h2, q1 _ W1 H1 s1 (.bl _)⟩
end
end Ev

namespace Ev
open PySem PySem.Spec L2
variable [Tb]

/-! ### what is walked -/
structure Walks (K : PySem.W.Frag) (W : Wd) (J : It) (xs : List D) : Prop where
  stop : ∀ W' H', Le W W' → WOk W' H' → J.stop xs.length H'
  go : ∀ i W' H', Le W W' → WOk W' H' → i < xs.length → J.go i H'
  yld : ∀ i x W' H' v H'', Le W W' → WOk W' H' → xs[i]? = some x → J.yld i H' v H'' → ∃ W'', Step W' H' W'' H'' ∧ Rep K W'' v x
def SI (S : Sx) (t : TI) (ρ : List Sl) (r : M (List D)) : Prop :=
  ∀ σ H W H0 R, EnvR S.K W H H0 σ ρ → WOk W H → r.run (fun xs => ∀ J W' H', Step W H W' H' → Walks S.K W' J xs → R J H') (XPost S W H) → t σ H R
section
variable {K : PySem.W.Frag} {W : Wd}
theorem walks_list {a : Addr} {vs : List V} {ds : List D} (h : SqL K W.P a vs) (r : Reps K W vs ds) : Walks K W (Itl K a) ds where
  stop := fun W' H' l w => ⟨vs, w.sqL (l.sqL h), Nat.le_of_eq r.length⟩
  go := fun i W' H' l w hi => by
    have hv : i < vs.length := by rw [r.length]; exact hi
    exact ⟨vs, vs[i], w.sqL (l.sqL h), List.getElem?_eq_getElem hv⟩
  yld := fun i x W' H' v H'' l w hx y => by
    obtain ⟨rfl, hy⟩ := y
    obtain ⟨u, e, ru⟩ := r.get hx
    have e2 := hy vs (w.sqL (l.sqL h))
    rw [e] at e2
    cases e2
    exact ⟨W', Step.refl w, ru.mono l⟩
theorem walks_tup {a : Addr} {vs : List V} {ds : List D} (h : BqT K W.P a vs) (r : Reps K W vs ds) : Walks K W (Itt K a) ds where
  stop := fun W' H' l w => ⟨vs, w.sqT (l.bqT h), Nat.le_of_eq r.length⟩
  go := fun i W' H' l w hi => by
    have hv : i < vs.length := by rw [r.length]; exact hi
    exact ⟨vs, vs[i], w.sqT (l.bqT h), List.getElem?_eq_getElem hv⟩
  yld := fun i x W' H' v H'' l w hx y => by
    obtain ⟨rfl, hy⟩ := y
    obtain ⟨u, e, ru⟩ := r.get hx
    have e2 := hy vs (w.sqT (l.bqT h))
    rw [e] at e2
    cases e2
    exact ⟨W', Step.refl w, ru.mono l⟩
theorem walks_range {lo : Int} {hi : Int} : Walks K W (Itr lo (hi - lo).toNat) (rangeL lo hi) where
  stop := fun W' H' l w => by
    show (hi - lo).toNat ≤ (rangeL lo hi).length
    unfold rangeL
    rw [List.length_map, List.length_range]
    exact Nat.le_refl _
  go := fun i W' H' l w h => by
    show i < (hi - lo).toNat
    unfold rangeL at h
    rw [List.length_map, List.length_range] at h
    exact h
  yld := fun i x W' H' v H'' l w hx y => by
    obtain ⟨rfl, rfl⟩ := y
    refine ⟨W', Step.refl w, ?_⟩
    unfold rangeL at hx
    rw [List.getElem?_map, Option.map_eq_some_iff] at hx
    obtain ⟨j, e1, e2⟩ := hx
    rw [List.getElem?_range (by
      have := (List.getElem?_eq_some_iff.mp e1).1
      rw [List.length_range] at this
      exact this)] at e1
    cases e1
    rw [← e2]
    exact .int _
end
/-- a list or a tuple -/
def iSeq (K : PySem.W.Frag) (tl : TE) : TI := fun σ H R => tl σ H fun x H1 => ∃ a, x = .ref a ∧ ((∃ xs, SqL K H1 a xs) ∧ R (Itl K a) H1 ∨ (∃ xs, SqT K H1 a xs) ∧ R (Itt K a) H1)
theorem pi_seq {X : Cx} {tg l : Expr} {tl : TE} (hl : PE X l tl) : PI X tg l (iSeq X.K tl) := by
  constructor
  intro pins s σ H R I h
  refine thn (hl.run pins s σ H _ I h) ?_
  rintro v s1 ⟨x, H1, I1, r1, a, rfl, q⟩
  have ev : v = Value.ref a := r1
  subst ev
  have new : ∀ o : Obj, L2.Inv X pins σ H1 { s1 with heap := s1.heap.push o } := fun o => I1.kept (t' := s1.toks) fun b u e => Heap.get?_push_of_some _ e
  have fp : ∀ b ∈ [s1.heap.objs.size], FpOk X pins H1 b := by
    intro b hb
    obtain rfl := List.mem_singleton.mp hb
    exact I1.fpOk (Nat.le_refl _) (I1.hok.fresh (Nat.le_refl _))
  rcases q with ⟨⟨xs, hx⟩, q⟩ | ⟨⟨xs, hx⟩, q⟩
  · obtain ⟨its, rv, pl, _⟩ := I1.list hx
    exact wpAny_pyIter_list pl.isList
      ⟨_, _, _, _, H1, rfl, new _, turn_list a _, ⟨_, Heap.get?_push_size _ rfl, rfl, rfl⟩, fp, q⟩
  · obtain ⟨its, rv, pl, _⟩ := I1.tuple hx
    exact wpAny_pyIter_tuple (show s1.heap.IsTuple a its.toArray from pl)
      ⟨_, _, _, _, H1, rfl, new _, turn_tuple a _, ⟨_, Heap.get?_push_size _ rfl, rfl, rfl⟩, fp, q⟩
section
variable {S : Sx} {ρ : List Sl} {ra : M D} {ta : TE}
theorem si_seq (h : SE S ta ρ ra) : SI S (iSeq S.K ta) ρ (ra >>= itemsL) := fun σ H W H0 R e w q => by
  refine h.go e w q (fun _ z => z) fun d v W1 H1 q1 s1 r1 e1 => ?_
  cases r1 with
  | @tup a vs ds hx r => exact ⟨a, rfl, .inr ⟨⟨vs, s1.ok.sqT hx⟩, q1 _ W1 H1 s1 (walks_tup hx r)⟩⟩
  | @lst a vs ds hx r => exact ⟨a, rfl, .inl ⟨⟨vs, .inl (.inl (s1.ok.sub _ _ hx))⟩, q1 _ W1 H1 s1 (walks_list (.inl (.inl hx)) r)⟩⟩
  | @scr a ns hx =>
    refine ⟨a, rfl, .inl ⟨⟨_, s1.ok.sqL hx⟩, q1 _ W1 H1 s1 (walks_list hx ?_)⟩⟩
    have key : ∀ ns : List Int, Reps S.K W1 (ns.map V.int) (ns.map D.int) := fun ns => by
      induction ns with
      | nil => exact .nil
      | cons n r ih => exact .cons (.int n) ih
    exact key ns
  | _ => exact (show False from q1).elim
theorem si_rng1 {ts : TA} {rs : List (M D)} (h : SA S ts ρ rs) : SI S (iRng1 ts) ρ (rng1 rs) := fun σ H W H0 R e w q => by
  refine h.go e w q (fun _ z => z) fun ds vs W1 H1 q1 s1 r1 e1 => ?_
  match ds, r1, q1 with
  | [x], r1, q1 =>
    obtain ⟨v, rfl, r⟩ := r1.of1
    cases r with
    | int j =>
      have q2 := q1.2 (Itr 0 (j - 0).toNat) W1 H1 s1 walks_range
      rw [Int.sub_zero] at q2
      exact ⟨j, rfl, q1.1.1, q1.1.2, q2⟩
    | _ => exact (show False from q1).elim
  | [], _, q1 => exact (show False from q1).elim
  | _ :: _ :: _, _, q1 => exact (show False from q1).elim
theorem si_rng2 {ts : TA} {rs : List (M D)} (h : SA S ts ρ rs) : SI S (iRng2 ts) ρ (rng2 rs) := fun σ H W H0 R e w q => by
  refine h.go e w q (fun _ z => z) fun ds vs W1 H1 q1 s1 r1 e1 => ?_
  match ds, r1, q1 with
  | [x, y], r1, q1 =>
    obtain ⟨v, u, rfl, r, r'⟩ := r1.of2
    cases r with
    | int i => cases r' with
      | int j => exact ⟨i, j, rfl, ⟨q1.1.1.1, q1.1.1.2, q1.1.2.1, q1.1.2.2⟩, q1.2 _ W1 H1 s1 walks_range⟩
      | _ => exact (show False from q1).elim
    | _ => exact (show False from q1).elim
  | [], _, q1 => exact (show False from q1).elim
  | [_], _, q1 => exact (show False from q1).elim
  | _ :: _ :: _ :: _, _, q1 => exact (show False from q1).elim
end

/-! ### targets -/
/-- js: the slots that are stored -/
def SG (S : Sx) (g : TG) (ρ : List Sl) {T : Type} (r : D → M T) (ρ' : T → List Sl) (js : List Nat) : Prop :=
  ∀ x v σ H W H0 Q (E : Exn → Prop), EnvR S.K W H H0 σ ρ → WOk W H → Rep S.K W v x →
    (r x).run (fun t => ∀ σ', EnvR S.K W H H0 σ' (ρ' t) → σ'.length = σ.length → (∀ i, i ∉ js → σ'[i]? = σ[i]?) → Q σ' H) E → g v σ H Q
section
variable {S : Sx} {ρ : List Sl}
theorem sg_name {i : Nat} : SG S (gName i) ρ tg1 (fun x => ρ.set i (.val x)) [i] := fun x v σ H W H0 Q E e w r q =>
  q (σ.set i (some v)) (e.setVal i r) (List.length_set ..) fun j hj => List.getElem?_set_ne (fun z => hj (by rw [z]; exact List.mem_singleton.mpr rfl))
theorem sg_two {i j : Nat} : SG S (gTup S.K 2 (gCons (gName i) (gCons (gName j) gNil))) ρ un2 (fun p => (ρ.set i (.val p.1)).set j (.val p.2)) [i, j] := fun x v σ H W H0 Q E e w r q => by
  unfold un2 at q
  split at q
  · cases r with
    | @tup a vs ds hx rs =>
      obtain ⟨u, u', rfl, r1, r2⟩ := rs.of2
      refine ⟨a, _, rfl, w.sqT hx, rfl, u, _, rfl, u', _, rfl, rfl, q _ ((e.setVal i r1).setVal j r2) (by rw [List.length_set, List.length_set]) fun k hk => ?_⟩
      rw [List.getElem?_set_ne (fun z => hk (by rw [z]; simp)), List.getElem?_set_ne (fun z => hk (by rw [z]; simp))]
  · exact (show False from q).elim
theorem sg_three {i j l : Nat} : SG S (gTup S.K 3 (gCons (gName i) (gCons (gName j) (gCons (gName l) gNil)))) ρ un3 (fun p => ((ρ.set i (.val p.1)).set j (.val p.2.1)).set l (.val p.2.2)) [i, j, l] := fun x v σ H W H0 Q E e w r q => by
  unfold un3 at q
  split at q
  · cases r with
    | @tup a vs ds hx rs =>
      obtain ⟨u, u', u'', rfl, r1, r2, r3⟩ := rs.of3
      refine ⟨a, _, rfl, w.sqT hx, rfl, u, _, rfl, u', _, rfl, u'', _, rfl, rfl, q _ (((e.setVal i r1).setVal j r2).setVal l r3) (by rw [List.length_set, List.length_set, List.length_set]) fun k hk => ?_⟩
      rw [List.getElem?_set_ne (fun z => hk (by rw [z]; simp)), List.getElem?_set_ne (fun z => hk (by rw [z]; simp)), List.getElem?_set_ne (fun z => hk (by rw [z]; simp))]
  · exact (show False from q).elim
end

/-! ### comprehensions -/
def wipeS (ρ : List Sl) : List Nat → List Sl
  | [] => ρ
  | v :: vs => (wipeS ρ vs).set v .no
section
variable {K : PySem.W.Frag} {W : Wd} {H H0 : Hp} {σ σ' : L2.St} {ρ : List Sl}
theorem EnvR.dropN (e : EnvR K W H H0 σ ρ) (i : Nat) : EnvR K W H H0 (σ.set i none) (ρ.set i .no) where
  dat := fun j d h => by
    obtain ⟨n, h⟩ := getElem?_set_no h (by intro z; cases z)
    rw [List.getElem?_set_ne n]
    exact e.dat j d h
  ow := fun j d h => by
    obtain ⟨n, h⟩ := getElem?_set_no h (by intro z; cases z)
    rw [List.getElem?_set_ne n]
    exact e.ow j d h
  ap := fun j k ds es a hjk h1 h2 h3 => by
    obtain ⟨n1, h1⟩ := getElem?_set_no h1 (by intro z; cases z)
    obtain ⟨n2, h2⟩ := getElem?_set_no h2 (by intro z; cases z)
    rw [List.getElem?_set_ne n1] at h3
    rw [List.getElem?_set_ne n2]
    exact e.ap j k ds es a hjk h1 h2 h3
  ln := by rw [List.length_set, List.length_set, e.ln]
theorem EnvR.wipe (e : EnvR K W H H0 σ ρ) : ∀ vs : List Nat, EnvR K W H H0 (L2.wipe σ vs) (wipeS ρ vs)
  | [] => e
  | v :: vs => (EnvR.wipe e vs).dropN v
theorem wipe_at (σ : L2.St) (i : Nat) : ∀ vs : List Nat, i ∈ vs → i < σ.length → (L2.wipe σ vs)[i]? = some none
  | v :: vs, h, hl => by
    unfold L2.wipe
    by_cases e : v = i
    · subst e
      rw [List.getElem?_set_self (by rw [wipe_length]; exact hl)]
    · rw [List.getElem?_set_ne e]
      exact wipe_at σ i vs ((List.mem_cons.mp h).resolve_left fun z => e z.symm) hl
theorem wipe_same {vs js : List Nat} (hl : σ'.length = σ.length) (h : ∀ i, i ∉ js → σ'[i]? = σ[i]?) (hj : ∀ i ∈ js, i ∈ vs) : L2.wipe σ' vs = L2.wipe σ vs := by
  apply List.ext_getElem?
  intro i
  by_cases hi : i ∈ vs
  · by_cases hlt : i < σ.length
    · rw [wipe_at σ i vs hi hlt, wipe_at σ' i vs hi (by rw [hl]; exact hlt)]
    · rw [List.getElem?_eq_none (by rw [wipe_length, hl]; omega), List.getElem?_eq_none (by rw [wipe_length]; omega)]
  · rw [wipe_out hi, wipe_out hi]
    exact h i fun z => hi (hj i z)
theorem wipe_wipe (σ : L2.St) (vs : List Nat) : L2.wipe (L2.wipe σ vs) vs = L2.wipe σ vs :=
  wipe_same (js := vs) (wipe_length σ vs) (fun i hi => wipe_out hi) fun _ z => z
end
section
variable {S : Sx} {ρ : List Sl}
theorem sb_yes : SB S tYes ρ (pure true) := fun σ H W H0 Q e w q => q W H (Step.refl w)
def Sx.calm (S : Sx) : Sx := ⟨S.K, S.mg, E0⟩
theorem so_lc {T : Type} {wi : TI} {g : TG} {tt : TT} {te : TE} {vs js : List Nat} {rit : M (List D)} {tg : D → M T} {ρ' : T → List Sl} {rt : T → M Bool} {re : T → M D} (hi : SI S wi ρ rit)
    (hg : SG S g (wipeS ρ vs) tg ρ' js) (hj : ∀ i ∈ js, i ∈ vs) (ht : ∀ t, SB S.calm tt (ρ' t) (rt t)) (he : ∀ t, SE S.calm te (ρ' t) (re t)) :
    SO S (tLc wi g tt te vs) ρ (lcF rit tg rt re) := fun σ H W H0 Q e w q => by
  refine hi σ H W H0 _ e w (rit.mono (fun xs hx J W1 H1 s1 wk => ?_) (fun _ z => z) q)
  intro D hD
  have nx : ∀ {W' H'} (x : Exn), False → XPost S.calm W' H' x := fun _ z => z.elim
  refine ⟨fun i m H' => m = xs.length - i ∧ i ≤ xs.length ∧ ∃ W' ws acc, Step W1 H1 W' H' ∧ H' D = some (.lst ws) ∧ W'.P D = none ∧ W'.N D = none ∧ Reps S.K W' ws acc ∧
      (lcM (fun x => tg x >>= fun t => lcIf (rt t) (re t)) (xs.drop i) acc).run (PostO S.K Q W H) (fun _ => False), ⟨xs.length, by simp, Nat.zero_le _, W1, [], [], Step.raw s1.ok hD, upd_same, (nopen s1.ok hD).1, (nopen s1.ok hD).2, .nil, hx⟩, ?_⟩
  rintro i m H' ⟨rfl, hle, W', ws, acc, s2, hD', hP, hN, rs, hr⟩
  by_cases hlt : i < xs.length
  · refine .inr ⟨wk.go i W' H' s2.le s2.ok hlt, fun H'' => i + 1 ≤ xs.length ∧ ∃ W' ws acc, Step W1 H1 W' H'' ∧ H'' D = some (.lst ws) ∧ W'.P D = none ∧ W'.N D = none ∧ Reps S.K W' ws acc ∧
      (lcM (fun x => tg x >>= fun t => lcIf (rt t) (re t)) (xs.drop (i + 1)) acc).run (PostO S.K Q W H) (fun _ => False), fun H'' hn => ⟨xs.length - (i + 1), by omega, rfl, hn.1, hn.2⟩, fun v H2 hy => ?_⟩
    obtain ⟨W2, s3, r3⟩ := wk.yld i xs[i] W' H' v H2 s2.le s2.ok (List.getElem?_eq_getElem hlt) hy
    rw [List.drop_eq_getElem_cons hlt] at hr
    have keep : ∀ {Wa Wb Ha Hb ws}, Step Wa Ha Wb Hb → Ha D = some (.lst ws) → Wa.P D = none → Wa.N D = none → Hb D = some (.lst ws) ∧ Wb.P D = none ∧ Wb.N D = none := fun {Wa Wb Ha Hb ws} s h1 h2 h3 => by
      have nn : Ha D ≠ none := by rw [h1]; intro z; cases z
      exact ⟨s.old D _ h1 h3, (s.newP D nn).trans h2, (s.newN D nn).trans h3⟩
    obtain ⟨k1, k2, k3⟩ := keep s3 hD' hP hN
    have e2 : EnvR S.K W2 H2 H0 (L2.wipe σ vs) (wipeS ρ vs) := (e.step (s1.trans w (s2.trans s1.ok s3))).wipe vs
    have s4 := s2.trans s1.ok s3
    refine hg xs[i] v _ H2 W2 H0 _ (fun _ => False) e2 s3.ok r3 ((tg xs[i]).mono (fun t h1 σ' e3 hl3 hn3 => ?_) (fun _ z => z) hr)
    refine ⟨(wipe_same hl3 hn3 hj).trans (wipe_wipe σ vs), ?_⟩
    refine (ht t).go e3 s3.ok h1 nx fun b W3 H3 h2 s5 e4 => ?_
    obtain ⟨k4, k5, k6⟩ := keep s5 k1 k2 k3
    cases b with
    | false => exact iteF ⟨hlt, W3, ws, acc, s4.trans s1.ok s5, k4, k5, k6, rs.mono (s3.le.trans s5.le), h2⟩
    | true =>
      refine iteT ((he t).go e4 s5.ok h2 nx fun d u W4 H4 h3 s6 r6 e5 => ?_)
      obtain ⟨k7, k8, k9⟩ := keep s6 k4 k5 k6
      have rs4 : Reps S.K W4 ws acc := rs.mono (s3.le.trans (s5.le.trans s6.le))
      have hlen : ws.length < sizeLine := by rw [rs4.length]; exact h3.1
      refine ⟨ws, k7, hlen, hlt, W4, ws ++ [u], acc ++ [d], ?_, upd_same, k8, k9, rs4.append (.cons r6 .nil), h3.2⟩
      have s7 := (s4.trans s1.ok s5).trans s1.ok s6
      refine ⟨s7.le, s7.ok.put k8 k9 k7, fun b o ho hnn => ?_, s7.newP, s7.newN⟩
      · rw [upd_ne (ne_of_none ho hD)]
        exact s7.old b o ho hnn
  · have ei : i = xs.length := by omega
    subst ei
    rw [List.drop_length] at hr
    refine .inl ⟨wk.stop W' H' s2.le s2.ok, ?_⟩
    exact hr D ws W' H' (s1.trans w s2) (s1.free0 w hD) hD' hP hN rs
end
end Ev

namespace Ev
open PySem PySem.Spec L2
variable [Tb]

/-! ### statements -/
structure Now (S : Sx) (Wf W0 : Wd) (H0 : Hp) (W : Wd) (H : Hp) (σ : L2.St) (ρ : List Sl) : Prop where
  env : EnvR S.K W H H0 σ ρ
  ok : WOk W H
  st : Step W0 H0 W H
  fl : Le Wf W
def RetV (own : Bool) (K : PySem.W.Frag) (W : Wd) (H H0 : Hp) (v : V) (d : D) : Prop := match own with
  | false => Rep K W v d
  | true => (∃ a vs ds, v = .ref a ∧ d = .lst ds ∧ H a = some (.lst vs) ∧ W.P a = none ∧ W.N a = none ∧ H0 a = none ∧ Reps K W vs ds) ∨
    (∃ a kvs es, v = .ref a ∧ d = .dct es ∧ H a = some (.dK kvs) ∧ W.P a = none ∧ W.N a = none ∧ H0 a = none ∧ RepKv K W kvs es) ∨ (v = .non ∧ d = .non)
def FlPost (S : Sx) (own : Bool) (Wf W0 : Wd) (H0 : Hp) {T L : Type} (enc : T → List Sl) (encL : L → List Sl) (D : Ends) : Fl T L → Prop
  | .nx s => ∀ W H σ, Now S Wf W0 H0 W H σ (enc s) → D.nx σ H
  | .rt d => ∀ W H v, Step W0 H0 W H → RetV own S.K W H H0 v d → D.rt v H
  | .bk l => ∀ W H σ, Now S Wf W0 H0 W H σ (encL l) → D.bk σ H
  | .ct l => ∀ W H σ, Now S Wf W0 H0 W H σ (encL l) → D.ct σ H
def SS (S : Sx) (own : Bool) (t : TS) (ρ : List Sl) {T L : Type} (enc : T → List Sl) (encL : L → List Sl) (m : M (Fl T L)) : Prop :=
  ∀ Wf W0 H0 W H σ D, WOk W0 H0 → Now S Wf W0 H0 W H σ ρ → m.run (FlPost S own Wf W0 H0 enc encL D) (XPost S W0 H0) → t D σ H
section
variable {S : Sx} {own : Bool} {ρ : List Sl} {T U L : Type} {enc : T → List Sl} {encU : U → List Sl} {encL : L → List Sl} {ta tb : TS}
theorem Now.step {Wf W0 W W' : Wd} {H0 H H' : Hp} {σ : L2.St} (n : Now S Wf W0 H0 W H σ ρ) (w : WOk W0 H0) (s : Step W H W' H') : Now S Wf W0 H0 W' H' σ ρ := ⟨n.env.step s, s.ok, n.st.trans w s, n.fl.trans s.le⟩
theorem ss_seq {m : M (Fl T L)} {k : T → M (Fl U L)} (ha : SS S own ta ρ enc encL m) (hb : ∀ s, SS S own tb (enc s) encU encL (k s)) : SS S own (tSeq ta tb) ρ encU encL (seqM m k) := fun Wf W0 H0 W H σ D w n q => by
  refine ha Wf W0 H0 W H σ _ w n (m.mono (fun f hf => ?_) (fun _ z => z) q)
  cases f with
  | nx s => exact fun W' H' σ' n' => hb s Wf W0 H0 W' H' σ' D w n' hf
  | rt d => exact hf
  | bk l => exact hf
  | ct l => exact hf
theorem ss_next {s : T} (h : Weak ρ (enc s)) : SS S own tNext ρ enc encL (pure (.nx s)) := fun Wf W0 H0 W H σ D w n q => q W H σ ⟨n.env.weak h, n.ok, n.st, n.fl⟩
theorem ss_brk {l : L} (h : Weak ρ (encL l)) : SS S own tBreak ρ enc encL (pure (.bk l)) := fun Wf W0 H0 W H σ D w n q => q W H σ ⟨n.env.weak h, n.ok, n.st, n.fl⟩
theorem ss_cont {l : L} (h : Weak ρ (encL l)) : SS S own tCont ρ enc encL (pure (.ct l)) := fun Wf W0 H0 W H σ D w n q => q W H σ ⟨n.env.weak h, n.ok, n.st, n.fl⟩
/-- a block's end reached -/
theorem ss_end {m : T} (h : SS S own ta ρ enc encL (pure (.nx m))) : SS S own ta ρ enc encL (pure (.nx m)) := h
theorem ss_never : SS S own tNever ρ enc encL fail := fun Wf W0 H0 W H σ D w n q => (show False from q).elim
/-- slots forgotten ahead -/
theorem ss_weak {ρ' : List Sl} {m : M (Fl T L)} (hw : Weak ρ ρ') (h : SS S own ta ρ' enc encL m) : SS S own ta ρ enc encL m := fun Wf W0 H0 W H σ D w n q => h Wf W0 H0 W H σ D w ⟨n.env.weak hw, n.ok, n.st, n.fl⟩ q
theorem xpost {W0 W : Wd} {H0 H : Hp} (w : WOk W0 H0) (s : Step W0 H0 W H) (x : Exn) (h : XPost S W0 H0 x) : XPost S W H x := h.after w s
/-- x = e, and what comes behind -/
theorem ss_set {te : TE} {i : Nat} {r : M D} {k : D → M (Fl T L)} (h : SE S te ρ r) (hb : ∀ d, SS S own tb (ρ.set i (.val d)) enc encL (k d)) : SS S own (tSeq (tAsg te (gName i)) tb) ρ enc encL (r >>= k) := fun Wf W0 H0 W H σ D w n q => by
  refine h.go n.env n.ok q (xpost w n.st) fun d v W1 H1 q1 s1 r1 e1 => ?_
  exact hb d Wf W0 H0 W1 H1 _ D w ⟨e1.setVal i r1, s1.ok, n.st.trans w s1, n.fl.trans s1.le⟩ q1
/-- x = a new list, one's own -/
theorem ss_seto {te : TE} {i : Nat} {r : M (List D)} {k : List Ev.D → M (Fl T L)} (h : SO S te ρ r) (hb : ∀ d, SS S own tb (ρ.set i (.own d)) enc encL (k d)) : SS S own (tSeq (tAsg te (gName i)) tb) ρ enc encL (r >>= k) := fun Wf W0 H0 W H σ D w n q => by
  refine h.go n.env n.ok q (xpost w n.st) fun d a vs W1 H1 q1 s1 h0 h1 h2 h3 r1 e1 => ?_
  refine hb d Wf W0 H0 W1 H1 _ D w ⟨e1.setOwn i h1 h2 h3 (n.st.free0 w h0) r1 fun j es _ hj hs => ?_, s1.ok, n.st.trans w s1, n.fl.trans s1.le⟩ q1
  obtain ⟨b, us, g1, g2, _⟩ := n.env.ow j es hj
  rw [g1] at hs
  cases hs
  rw [h0] at g2
  cases g2
/-- a, b = e -/
theorem ss_asg {te : TE} {g : TG} {V' : Type} {r : M D} {tg : D → M V'} {ρ' : V' → List Sl} {js : List Nat} {k : V' → M (Fl T L)} (h : SE S te ρ r) (hg : SG S g ρ tg ρ' js) (hb : ∀ d, SS S own tb (ρ' d) enc encL (k d)) :
    SS S own (tSeq (tAsg te g) tb) ρ enc encL (r >>= fun d => tg d >>= k) := fun Wf W0 H0 W H σ D w n q => by
  refine h.go n.env n.ok q (xpost w n.st) fun d v W1 H1 q1 s1 r1 e1 => ?_
  refine hg d v σ H1 W1 H0 _ _ e1 s1.ok r1 ((tg d).mono (fun t ht σ' e2 _ _ => ?_) (fun _ z => z) q1)
  exact hb t Wf W0 H0 W1 H1 σ' D w ⟨e2, s1.ok, n.st.trans w s1, n.fl.trans s1.le⟩ ht
/-- a, b = x, y with local names -/
theorem ss_par {ts : TA} {i j : Nat} {rs : List (M D)} {k : D → D → M (Fl T L)} (h : SA S ts ρ rs) (hb : ∀ d e, SS S own tb ((ρ.set i (.val d)).set j (.val e)) enc encL (k d e)) :
    SS S own (tSeq (tPar i j ts) tb) ρ enc encL (parM rs k) := fun Wf W0 H0 W H σ D w n q => by
  refine h.go n.env n.ok q (xpost w n.st) fun ds vs W1 H1 q1 s1 r1 e1 => ?_
  match ds, r1, q1 with
  | [d, e], r1, q1 =>
    obtain ⟨v, u, rfl, r, r'⟩ := r1.of2
    exact ⟨v, u, rfl, hb d e Wf W0 H0 W1 H1 _ D w ⟨(e1.setVal i r).setVal j r', s1.ok, n.st.trans w s1, n.fl.trans s1.le⟩ q1⟩
  | [], _, q1 => exact (show False from q1).elim
  | [_], _, q1 => exact (show False from q1).elim
  | _ :: _ :: _ :: _, _, q1 => exact (show False from q1).elim
theorem ss_par3 {ts : TA} {i j l : Nat} {rs : List (M D)} {k : D → D → D → M (Fl T L)} (h : SA S ts ρ rs) (hb : ∀ d e f, SS S own tb (((ρ.set i (.val d)).set j (.val e)).set l (.val f)) enc encL (k d e f)) :
    SS S own (tSeq (tPar3 i j l ts) tb) ρ enc encL (par3M rs k) := fun Wf W0 H0 W H σ D w n q => by
  refine h.go n.env n.ok q (xpost w n.st) fun ds vs W1 H1 q1 s1 r1 e1 => ?_
  match ds, r1, q1 with
  | [d, e, f], r1, q1 =>
    obtain ⟨v, u, z, rfl, r, r', r''⟩ := r1.of3
    exact ⟨v, u, z, rfl, hb d e f Wf W0 H0 W1 H1 _ D w ⟨((e1.setVal i r).setVal j r').setVal l r'', s1.ok, n.st.trans w s1, n.fl.trans s1.le⟩ q1⟩
  | [], _, q1 => exact (show False from q1).elim
  | [_], _, q1 => exact (show False from q1).elim
  | [_, _], _, q1 => exact (show False from q1).elim
  | _ :: _ :: _ :: _ :: _, _, q1 => exact (show False from q1).elim
/-- e; what comes behind -/
theorem ss_expr {te : TE} {r : M D} {k : M (Fl T L)} (h : SE S te ρ r) (hb : SS S own tb ρ enc encL k) : SS S own (tSeq (tDrop te) tb) ρ enc encL (r >>= fun _ => k) := fun Wf W0 H0 W H σ D w n q => by
  refine h.go n.env n.ok q (xpost w n.st) fun d v W1 H1 q1 s1 r1 e1 => ?_
  exact hb Wf W0 H0 W1 H1 σ D w ⟨e1, s1.ok, n.st.trans w s1, n.fl.trans s1.le⟩ q1
theorem ss_expr1 {te : TE} {r : M D} {s : T} (h : SE S te ρ r) (hw : Weak ρ (enc s)) : SS S own (tDrop te) ρ enc encL (r >>= fun _ => pure (.nx s)) := fun Wf W0 H0 W H σ D w n q => by
  refine h.go n.env n.ok q (xpost w n.st) fun d v W1 H1 q1 s1 r1 e1 => ?_
  exact q1 W1 H1 σ ⟨e1.weak hw, s1.ok, n.st.trans w s1, n.fl.trans s1.le⟩
theorem ss_ret {te : TE} {r : M D} (h : SE S te ρ r) : SS S false (tRet te) ρ enc encL (r >>= fun d => pure (.rt d)) := fun Wf W0 H0 W H σ D w n q => by
  refine h.go n.env n.ok q (xpost w n.st) fun d v W1 H1 q1 s1 r1 e1 => ?_
  exact q1 W1 H1 v (n.st.trans w s1) r1
theorem ss_reto {te : TE} {r : M (List D)} (h : SO S te ρ r) : SS S true (tRet te) ρ enc encL (r >>= fun d => pure (.rt (.lst d))) := fun Wf W0 H0 W H σ D w n q => by
  refine h.go n.env n.ok q (xpost w n.st) fun d a vs W1 H1 q1 s1 h0 h1 h2 h3 r1 e1 => ?_
  exact q1 W1 H1 _ (n.st.trans w s1) (.inl ⟨a, vs, d, rfl, rfl, h1, h2, h3, n.st.free0 w h0, r1⟩)
theorem ss_retv {i : Nat} {ds : List D} (h : ρ[i]? = some (.own ds)) : SS S true (tRet (tVar i)) ρ enc encL (pure (.rt (.lst ds))) := fun Wf W0 H0 W H σ D w n q => by
  obtain ⟨a, vs, h1, h2, h3, h4, h5, h6⟩ := n.env.owL i ds h
  exact ⟨_, h1, q W H _ n.st (.inl ⟨a, vs, ds, rfl, rfl, h2, h3, h4, h5, h6⟩)⟩
/-- a dict of one's own, or None, from a def that hands back its own -/
theorem ss_retvD {i : Nat} {ds : List (Sum Int Str × D)} (h : ρ[i]? = some (.odc ds)) : SS S true (tRet (tVar i)) ρ enc encL (pure (.rt (.dct ds))) := fun Wf W0 H0 W H σ D w n q => by
  obtain ⟨a, vs, h1, h2, h3, h4, h5, h6⟩ := n.env.owD i ds h
  exact ⟨_, h1, q W H _ n.st (.inr (.inl ⟨a, vs, ds, rfl, rfl, h2, h3, h4, h5, h6⟩))⟩
theorem ss_retNo : SS S true tRetN ρ enc encL (pure (.rt .non)) := fun Wf W0 H0 W H σ D w n q => q W H _ n.st (.inr (.inr ⟨rfl, rfl⟩))
theorem ss_retNoV {te : TE} (h : SE S te ρ (pure .non)) : SS S true (tRet te) ρ enc encL (pure (.rt .non)) := fun Wf W0 H0 W H σ D w n q => by
  refine h.go n.env n.ok (R := fun d => d = .non ∧ ((pure (.rt .non) : M (Fl T L))).run (FlPost S true Wf W0 H0 enc encL D) (XPost S W0 H0)) (E' := XPost S W0 H0) ⟨rfl, q⟩ (xpost w n.st) fun d v W1 H1 q1 s1 r1 e1 => ?_
  obtain ⟨rfl, q1⟩ := q1
  cases r1
  exact q1 W1 H1 _ (n.st.trans w s1) (.inr (.inr ⟨rfl, rfl⟩))
theorem ss_retN : SS S false tRetN ρ enc encL (pure (.rt .non)) := fun Wf W0 H0 W H σ D w n q => q W H _ n.st .non
/-- what was one's own becomes data -/
theorem ss_freeze {i : Nat} {ds : List D} {m : M (Fl T L)} (h : ρ[i]? = some (.own ds)) (hb : SS S own ta (ρ.set i (.val (.lst ds))) enc encL m) : SS S own ta ρ enc encL m := fun Wf W0 H0 W H σ D w n q => by
  obtain ⟨a, vs, h1, h2, h3, h4, h5, h6⟩ := n.env.owL i ds h
  have st := n.st.freeze h5 h2 h3 h4
  have le : Le W ⟨upd W.P a (.lst vs), W.N⟩ := le_freeze h3
  refine hb Wf W0 H0 ⟨upd W.P a (.lst vs), W.N⟩ H σ D w ⟨⟨fun j d hj => ?_, fun j es hj => ?_, fun j k es fs b hjk g1 g2 g3 => ?_, by rw [List.length_set, n.env.ln]⟩, st.ok, st, n.fl.trans le⟩ q
  · by_cases e : i = j
    · subst e
      rw [List.getElem?_set_self (List.getElem?_eq_some_iff.mp h).1] at hj
      cases hj
      exact ⟨_, h1, .lst upd_same (h6.mono le)⟩
    · rw [List.getElem?_set_ne e] at hj
      obtain ⟨v, g1, g2⟩ := n.env.dat j d hj
      exact ⟨v, g1, g2.mono le⟩
  · obtain ⟨e, hj⟩ := getElem?_set_no hj (by intro z; cases z)
    obtain ⟨b, us, g1, g2, g3, g4, g5, g6⟩ := n.env.ow j es hj
    have nb : b ≠ a := fun z => by
      subst z
      exact n.env.ap i j _ _ b e h hj h1 g1
    exact ⟨b, us, g1, g2, by show (upd W.P a (.lst vs)) b = none; rw [upd_ne nb]; exact g3, g4, g5, g6.mono le⟩
  · obtain ⟨_, g1⟩ := getElem?_set_no g1 (by intro z; cases z)
    obtain ⟨_, g2⟩ := getElem?_set_no g2 (by intro z; cases z)
    exact n.env.ap j k es fs b hjk g1 g2 g3
theorem ss_if {tc : TT} {rc : M Bool} {ma mb : M (Fl T L)} (hc : SB S tc ρ rc) (ha : SS S own ta ρ enc encL ma) (hb : SS S own tb ρ enc encL mb) : SS S own (tIfS tc ta tb) ρ enc encL (rc >>= fun k => if k then ma else mb) := fun Wf W0 H0 W H σ D w n q => by
  refine hc.go n.env n.ok q (xpost w n.st) fun b W1 H1 q1 s1 e1 => ?_
  have n1 : Now S Wf W0 H0 W1 H1 σ ρ := ⟨e1, s1.ok, n.st.trans w s1, n.fl.trans s1.le⟩
  cases b with
  | true => exact iteT (ha Wf W0 H0 W1 H1 σ D w n1 q1)
  | false => exact iteF (hb Wf W0 H0 W1 H1 σ D w n1 q1)
/-- a way that leaves -/
def noE : Empty → List Sl := fun e => e.elim
theorem leave_post {Wf W0 : Wd} {H0 : Hp} {D : Ends} {N : L2.St → Hp → Prop} {m : M (Fl Empty L)} (q : (leave (T := T) m).run (FlPost S own Wf W0 H0 enc encL D) (XPost S W0 H0)) :
    m.run (FlPost S own Wf W0 H0 noE encL { D with nx := N }) (XPost S W0 H0) := m.mono (fun f hf => by
  cases f with
  | nx e => exact e.elim
  | rt d => exact hf
  | bk l => exact hf
  | ct l => exact hf) (fun _ z => z) q
theorem ss_ifl {tc : TT} {rc : M Bool} {ma : M (Fl Empty L)} {mb : M (Fl T L)} (hc : SB S tc ρ rc) (ha : SS S own ta ρ noE encL ma) (hb : SS S own tb ρ enc encL mb) :
    SS S own (tSeq (tIfS tc ta tNext) tb) ρ enc encL (rc >>= fun k => if k then leave ma else mb) := fun Wf W0 H0 W H σ D w n q => by
  refine hc.go n.env n.ok q (xpost w n.st) fun b W1 H1 q1 s1 e1 => ?_
  have n1 : Now S Wf W0 H0 W1 H1 σ ρ := ⟨e1, s1.ok, n.st.trans w s1, n.fl.trans s1.le⟩
  cases b with
  | true => exact iteT (ha Wf W0 H0 W1 H1 σ _ w n1 (leave_post q1))
  | false => exact iteF (hb Wf W0 H0 W1 H1 σ D w n1 q1)
/-- raise X(..) of a class without fields -/
theorem ss_raise {x : Str} {C : Addr} (h : S.mg x = some (.ref C)) : SS S own (fun _ σ H => S.E (.ref C) none H) ρ enc encL (raise ⟨x, none⟩) := fun Wf W0 H0 W H σ D w n q =>
  q (.ref C) none W H n.st ⟨C, h, rfl, rfl⟩
/-- xs.append(e) -/
theorem ss_app {i : Nat} {te : TE} {ds : List D} {r : M D} {k : D → M (Fl T L)} (hi : ρ[i]? = some (.own ds)) (h : SE S te ρ r) (hb : ∀ d, SS S own tb (ρ.set i (.own (ds ++ [d]))) enc encL (k d)) :
    SS S own (tSeq (tDrop (tBM S.K "list" rAppend (tVar i) (tCons te tNil))) tb) ρ enc encL (appM ds r k) := fun Wf W0 H0 W H σ D w n q => by
  obtain ⟨a, vs, h1, h2, h3, h4, h5, h6⟩ := n.env.owL i ds hi
  refine ⟨_, h1, .inl ⟨rfl, _, .inl (.inl h2)⟩, ?_⟩
  refine h.go n.env n.ok q (xpost w n.st) fun d v W1 H1 q1 s1 r1 e1 => ?_
  obtain ⟨b, us, g1, g2, g3, g4, g5, g6⟩ := e1.owL i ds hi
  rw [h1] at g1
  cases g1
  refine ⟨a, us, v, rfl, rfl, g2, by rw [g6.length]; exact q1.1, ?_⟩
  have n1 : Step W0 H0 W1 H1 := n.st.trans w s1
  have nP : ∀ b o, W1.P b = some o → b ≠ a := fun b o e z => by subst z; rw [g3] at e; cases e
  have w1 : WOk W1 (upd H1 a (.lst (us ++ [v]))) := s1.ok.put g3 g4 g2
  refine hb d Wf W0 H0 W1 _ σ D w ⟨⟨fun j d' hj => ?_, fun j es hj => ?_, fun j k es fs b hjk f1 f2 f3 => ?_, by rw [List.length_set, e1.ln]⟩, w1, ⟨n1.le, w1, fun b o e hnn => ?_, n1.newP, n1.newN⟩, n.fl.trans s1.le⟩ q1.2
  · exact e1.dat j d' (getElem?_set_no hj (by intro z; cases z)).2
  · by_cases e : i = j
    · subst e
      rw [List.getElem?_set_self (List.getElem?_eq_some_iff.mp hi).1] at hj
      cases hj
      exact ⟨a, _, h1, upd_same, g3, g4, g5, .lst (g6.append (.cons r1 .nil))⟩
    · rw [List.getElem?_set_ne e] at hj
      obtain ⟨b, zs, f1, f2, f3⟩ := e1.ow j es hj
      have nb : b ≠ a := fun z => by
        subst z
        exact e1.ap i j _ _ b e hi hj h1 f1
      exact ⟨b, zs, f1, by rw [upd_ne nb]; exact f2, f3.1, f3.2.1, f3.2.2.1, f3.2.2.2.upd (soft_lst g2)⟩
  · have get : ∀ {j : Nat} {es : OwnC}, (ρ.set i (.own (ds ++ [d])))[j]? = some (.ob es) → ∃ fs, ρ[j]? = some (.ob fs) := fun {j es} hj => by
      by_cases e : i = j
      · subst e; exact ⟨_, hi⟩
      · rw [List.getElem?_set_ne e] at hj; exact ⟨_, hj⟩
    obtain ⟨_, f1⟩ := get f1
    obtain ⟨_, f2⟩ := get f2
    exact e1.ap j k _ _ b hjk f1 f2 f3
  · rw [upd_ne (ne_of_none e g5)]
    exact n1.old b o e hnn
/-- xs.extend(e) -/
theorem ss_ext {i : Nat} {te : TE} {ds : List D} {r : M D} {k : List Ev.D → M (Fl T L)} (hi : ρ[i]? = some (.own ds)) (h : SE S te ρ r) (hb : ∀ d, SS S own tb (ρ.set i (.own (ds ++ d))) enc encL (k d)) :
    SS S own (tSeq (tDrop (tBM S.K "list" rExtend (tVar i) (tCons te tNil))) tb) ρ enc encL (extM ds r k) := fun Wf W0 H0 W H σ D w n q => by
  obtain ⟨a, vs, h1, h2, h3, h4, h5, h6⟩ := n.env.owL i ds hi
  refine ⟨_, h1, .inl ⟨rfl, _, .inl (.inl h2)⟩, ?_⟩
  refine h.go n.env n.ok q (xpost w n.st) fun d v W1 H1 q1 s1 r1 e1 => ?_
  obtain ⟨b, us, g1, g2, g3, g4, g5, g6⟩ := e1.owL i ds hi
  rw [h1] at g1
  cases g1
  cases r1 with
  | @lst c zs es hc rz =>
    refine ⟨a, c, us, zs, rfl, rfl, g2, s1.ok.sub _ _ hc, by rw [g6.length, rz.length]; exact q1.1, ?_⟩
    have n1 : Step W0 H0 W1 H1 := n.st.trans w s1
    have nP : ∀ b o, W1.P b = some o → b ≠ a := fun b o e z => by subst z; rw [g3] at e; cases e
    have w1 : WOk W1 (upd H1 a (.lst (us ++ zs))) := s1.ok.put g3 g4 g2
    refine hb es Wf W0 H0 W1 _ σ D w ⟨⟨fun j d' hj => ?_, fun j es' hj => ?_, fun j k es' fs b hjk f1 f2 f3 => ?_, by rw [List.length_set, e1.ln]⟩, w1, ⟨n1.le, w1, fun b o e hnn => ?_, n1.newP, n1.newN⟩, n.fl.trans s1.le⟩ q1.2
    · exact e1.dat j d' (getElem?_set_no hj (by intro z; cases z)).2
    · by_cases e : i = j
      · subst e
        rw [List.getElem?_set_self (List.getElem?_eq_some_iff.mp hi).1] at hj
        cases hj
        exact ⟨a, _, h1, upd_same, g3, g4, g5, .lst (g6.append rz)⟩
      · rw [List.getElem?_set_ne e] at hj
        obtain ⟨b, zs, f1, f2, f3⟩ := e1.ow j es' hj
        have nb : b ≠ a := fun z => by
          subst z
          exact e1.ap i j _ _ b e hi hj h1 f1
        exact ⟨b, zs, f1, by rw [upd_ne nb]; exact f2, f3.1, f3.2.1, f3.2.2.1, f3.2.2.2.upd (soft_lst g2)⟩
    · have get : ∀ {j : Nat} {es' : OwnC}, (ρ.set i (.own (ds ++ es)))[j]? = some (.ob es') → ∃ fs, ρ[j]? = some (.ob fs) := fun {j es'} hj => by
        by_cases e : i = j
        · subst e; exact ⟨_, hi⟩
        · rw [List.getElem?_set_ne e] at hj; exact ⟨_, hj⟩
      obtain ⟨_, f1⟩ := get f1
      obtain ⟨_, f2⟩ := get f2
      exact e1.ap j k _ _ b hjk f1 f2 f3
    · rw [upd_ne (ne_of_none e g5)]
      exact n1.old b o e hnn
  | _ => exact (show False from q1).elim
/-- for -/
theorem ss_for {V' : Type} {wi : TI} {g : TG} {rit : M (List D)} {tg : D → M V'} {ρ' : T → V' → List Sl} {js : List Nat} {s0 : T} {body : V' → T → M (Fl T T)} (hi : SI S wi ρ rit) (hw : Weak ρ (enc s0)) (hg : ∀ s, SG S g (enc s) tg (ρ' s) js)
    (hb : ∀ s v, SS S own tb (ρ' s v) enc enc (body v s)) : SS S own (tFor wi g tb) ρ enc encL (forF rit tg s0 body) := fun Wf W0 H0 W H σ D w n q => by
  refine hi σ H W H0 _ n.env n.ok (rit.mono (fun xs hx J W1 H1 s1 wk => ?_) (xpost w n.st) q)
  have n1 : Step W0 H0 W1 H1 := n.st.trans w s1
  have fl1 : Le Wf W1 := n.fl.trans s1.le
  have low : ∀ {W' H' σ' s}, Now S W1 W0 H0 W' H' σ' (enc s) → Now S Wf W0 H0 W' H' σ' (enc s) := fun now => ⟨now.env, now.ok, now.st, fl1.trans now.fl⟩
  refine ⟨fun i m σ' H' => m = xs.length - i ∧ i ≤ xs.length ∧ ∃ W' s, Now S W1 W0 H0 W' H' σ' (enc s) ∧ (forM (fun x s => tg x >>= fun v => body v s) (xs.drop i) s).run (FlPost S own Wf W0 H0 enc encL D) (XPost S W0 H0),
    ⟨xs.length, by simp, Nat.zero_le _, W1, s0, ⟨(n.env.step s1).weak hw, s1.ok, n1, Le.refl W1⟩, hx⟩, ?_⟩
  rintro i m σ' H' ⟨rfl, hle, W', s, now, hr⟩
  by_cases hlt : i < xs.length
  · refine .inr ⟨wk.go i W' H' now.fl now.ok hlt, fun σ2 H2 => i + 1 ≤ xs.length ∧ ∃ W' s, Now S W1 W0 H0 W' H2 σ2 (enc s) ∧ (forM (fun x s => tg x >>= fun v => body v s) (xs.drop (i + 1)) s).run (FlPost S own Wf W0 H0 enc encL D) (XPost S W0 H0),
      fun σ2 H2 hn => ⟨xs.length - (i + 1), by omega, rfl, hn⟩, fun v H2 hy => ?_⟩
    obtain ⟨W2, s3, r3⟩ := wk.yld i xs[i] W' H' v H2 now.fl now.ok (List.getElem?_eq_getElem hlt) hy
    rw [List.drop_eq_getElem_cons hlt] at hr
    refine hg s xs[i] v σ' H2 W2 H0 _ _ (now.env.step s3) s3.ok r3 ((tg xs[i]).mono (fun t ht σ2 e2 _ _ => ?_) (fun _ z => z) hr)
    have n2 : Now S W1 W0 H0 W2 H2 σ2 (ρ' s t) := ⟨e2, s3.ok, now.st.trans w s3, now.fl.trans s3.le⟩
    refine hb s t W1 W0 H0 W2 H2 σ2 _ w n2 ((body t s).mono (fun f hf => ?_) (fun _ z => z) ht)
    cases f with
    | nx s' => exact fun W3 H3 σ3 n3 => ⟨hlt, W3, s', n3, hf⟩
    | ct s' => exact fun W3 H3 σ3 n3 => ⟨hlt, W3, s', n3, hf⟩
    | bk s' => exact fun W3 H3 σ3 n3 => hf W3 H3 σ3 (low n3)
    | rt d => exact hf
  · have ei : i = xs.length := by omega
    subst ei
    rw [List.drop_length] at hr
    exact .inl ⟨wk.stop W' H' now.fl now.ok, hr W' H' σ' (low now)⟩
/-- while -/
theorem ss_while {tc : TT} {s0 : T} {c : T → M Bool} {body : T → M (Fl T T)} (hw : Weak ρ (enc s0)) (hc : ∀ s, SB S tc (enc s) (c s)) (hb : ∀ s, SS S own tb (enc s) enc enc (body s)) :
    SS S own (tWhile tc tb) ρ enc encL (whileM c body s0) := fun Wf W0 H0 W H σ D w n q => by
  obtain ⟨k, q⟩ := q
  refine ⟨fun m σ' H' => ∃ W' s, Now S Wf W0 H0 W' H' σ' (enc s) ∧ (whileN c body m s).run (FlPost S own Wf W0 H0 enc encL D) (XPost S W0 H0), ⟨k, W, s0, ⟨n.env.weak hw, n.ok, n.st, n.fl⟩, q⟩, ?_⟩
  rintro m σ' H' ⟨W', s, now, hr⟩
  cases m with
  | zero => exact (show False from hr).elim
  | succ m =>
    refine (hc s).go now.env now.ok hr (xpost w now.st) fun b W1 H1 q1 s1 e1 => ?_
    have n1 : Now S Wf W0 H0 W1 H1 σ' (enc s) := ⟨e1, s1.ok, now.st.trans w s1, now.fl.trans s1.le⟩
    cases b with
    | false => exact iteF (q1 W1 H1 σ' n1)
    | true =>
      refine iteT ⟨fun σ2 H2 => ∃ W' s, Now S Wf W0 H0 W' H2 σ2 (enc s) ∧ (whileN c body m s).run (FlPost S own Wf W0 H0 enc encL D) (XPost S W0 H0), fun σ2 H2 hn => ⟨m, Nat.lt_succ_self m, hn⟩, ?_⟩
      refine hb s Wf W0 H0 W1 H1 σ' _ w n1 ((body s).mono (fun f hf => ?_) (fun _ z => z) q1)
      cases f with
      | nx s' => exact fun W3 H3 σ3 n3 => ⟨W3, s', n3, hf⟩
      | ct s' => exact fun W3 H3 σ3 n3 => ⟨W3, s', n3, hf⟩
      | bk s' => exact hf
      | rt d => exact hf
end
end Ev

namespace Ev
open PySem PySem.Spec PyProof.Rows L2
variable [Tb]

/-! ### defs -/
section
variable (P : Program) (w : World) (K : PySem.W.Frag) (mg : Str → Option Value) (base : Heap)
/-- a def keeps a promise wherever nothing is being written out -/
structure GOk (qg : Bool) (k : Nat) (f : Addr) (fd : FuncData) (ps : List Str) (sp : Sp) : Prop where
  len : ∀ vs H Q E, sp vs H Q E → vs.length = ps.length
  run : ∀ (A : Around) (outer : List Env) (s : Shared) (H : Hp) (args : Args) (us : List Value) (vs : List V) (Q : VK) (E : XK),
    Room k A → (qg = true → A.guards = some []) → Env0 P w K mg base A outer s H → BindsTo s fd args (ps.zip us) → Vals vs us → sp vs H Q E →
      codeAny (model P w) A (.call (.ref f) args) (CR (L2.CX P w) outer P w H s Q E) s
/-- what a def does with data -/
def spD (own : Bool) (n : Nat) (F : List D → M D) : Sp := fun vs H Q E => ∃ W ds, WOk W H ∧ Reps K W vs ds ∧ ds.length = n ∧
  (F ds).run (fun d => ∀ W' H' v, Step W H W' H' → RetV own K W' H' H v d → Q v H') (XPost ⟨K, mg, E⟩ W H)
end
def startS (n : Nat) (ds : List D) : List Sl := ds.map .val ++ List.replicate (n - ds.length) .no
def enc0 (n : Nat) : Unit → List Sl := fun _ => List.replicate n .no
theorem weak_no : ∀ {ρ : List Sl} {n : Nat}, ρ.length = n → Weak ρ (List.replicate n .no)
  | [], _, rfl => .nil
  | _ :: r, _, rfl => .no (weak_no (ρ := r) rfl)
section
variable {K : PySem.W.Frag} {W : Wd} {H : Hp}
theorem env_start {N : List Str} {vs : List V} {ds : List D} (r : Reps K W vs ds) : EnvR K W H H (L2.start N vs) (startS N.length ds) where
  dat := fun i d h => by
    unfold startS at h
    by_cases hi : i < ds.length
    · rw [List.getElem?_append_left (by rw [List.length_map]; exact hi), List.getElem?_map, Option.map_eq_some_iff] at h
      obtain ⟨d', e1, e2⟩ := h
      cases e2
      obtain ⟨v, e3, r3⟩ := r.get e1
      refine ⟨v, ?_, r3⟩
      unfold L2.start
      rw [List.getElem?_append_left (by rw [List.length_map, r.length]; exact hi), List.getElem?_map, e3]
      rfl
    · rw [List.getElem?_append_right (by rw [List.length_map]; omega), List.getElem?_replicate] at h
      split at h <;> cases h
  ow := fun i d h => by
    unfold startS at h
    by_cases hi : i < ds.length
    · rw [List.getElem?_append_left (by rw [List.length_map]; exact hi), List.getElem?_map, Option.map_eq_some_iff] at h
      obtain ⟨d', e1, e2⟩ := h
      cases e2
    · rw [List.getElem?_append_right (by rw [List.length_map]; omega), List.getElem?_replicate] at h
      split at h <;> cases h
  ap := fun i j d es a _ h _ _ => by
    unfold startS at h
    by_cases hi : i < ds.length
    · rw [List.getElem?_append_left (by rw [List.length_map]; exact hi), List.getElem?_map, Option.map_eq_some_iff] at h
      obtain ⟨d', e1, e2⟩ := h
      cases e2
    · rw [List.getElem?_append_right (by rw [List.length_map]; omega), List.getElem?_replicate] at h
      split at h <;> cases h
  ln := by
    unfold L2.start startS
    rw [List.length_append, List.length_append, List.length_map, List.length_map, List.length_replicate, List.length_replicate, r.length]
end
section
variable {P : Program} {w : World} {K : PySem.W.Frag} {mg : Str → Option Value} {base : Heap}
/-- from a body that is run to a def that is called -/
theorem g_fn {qg : Bool} {x qual : Str} {st : Stmt} {f : Addr} {fd : FuncData} {N ps : List Str} {k : Nat} {sp : Sp} (F : L2.Fun K x qual st f fd) (sc : FnScope N ps (defScope st)) (len : ∀ vs H Q E, sp vs H Q E → vs.length = ps.length)
    (hbody : ∀ (cdv : Value) (A : Around) (outer : List Env) (s : Shared) (H : Hp) (vs : List V) (Q : VK) (E : XK), fd.code = cdv →
      Room k (A.deeper (envOfC qual (defScope st) s.heap.objs.size f cdv)) → (qg = true → A.guards = some []) → sp vs H Q E →
        ∃ t, PSs (cxOf (L2.CX P w) P w K mg base N qual (defScope st) f cdv A outer s H E) (defBody st) t ∧ t { nx := fun _ H' => Q .non H', rt := Q } (L2.start N vs) H) :
    GOk P w K mg base qg (k + 1) f fd ps sp := by
  obtain ⟨oc, od, kV, doc, pm, an, cdv, ct, osl, rfl, lk, hcd⟩ := F.ex
  constructor
  · exact len
  intro A outer s H args us vs Q E hr hg e0 hb r hsp
  have KX : K.In s.heap := e0.mod.kin.keeps (fun b o e => (e0.bs b o e).1)
  have hkind : ∀ y ∈ ps.zip us, (defScope st).names.lookup y.1 = some .local ∨ ((defScope st).names.lookup y.1 = some .cell ∧ ((cellsFrom (s.heap.objs.size + 1) (defScope st).names []).lookup y.1).isSome = true) := by
    rintro ⟨n, v⟩ hy
    cases sc.par n (List.of_mem_zip hy).1 with
    | inl q => exact .inl q
    | inr q => exact .inr ⟨q, PySem.W.cellsFrom_some _ _ _ (.inl q)⟩
  apply codeAny_call_function hr.depth (KX _ _ lk) rfl sc.co sc.gen rfl (PySem.W.codeRec_of KX hcd)
  apply hb
  apply wpAny_newFunctionEnv_cells sc.kind hkind
  rintro env rfl s1 x1
  obtain ⟨t, ht, hq⟩ := hbody cdv A outer s H vs Q E rfl (hr.deeper _) hg hsp
  have I : L2.Inv (cxOf (L2.CX P w) P w K mg base N qual (defScope st) f cdv A outer s H E) [] (L2.start N vs) H s1 :=
    inv_start sc hr.hd e0 (len _ _ _ _ hsp) r x1
  have lim : s.heap.NoLimit := e0.mod.nolimit.keeps (fun b o e => (e0.bs b o e).1)
  refine ⟨lim.keeps x1.toInCall.keep, codeAny_func (wpAny_mono (ht.run [] s1 (L2.start N vs) H _ I hq) ?_ (fun _ _ z => z))⟩
  intro fl s' hs
  match fl, hs with
  | .ret u, ⟨v, σ', H', J, rv, q⟩ => exact ⟨v, H', J.os, J.bare, J.base, J.hok, rv, q⟩
  | .next, ⟨σ', H', J, q⟩ => exact ⟨V.non, H', J.os, J.bare, J.base, J.hok, rfl, q⟩
  | .brk, ⟨_, _, _, q⟩ => exact q.elim
  | .cont, ⟨_, _, _, q⟩ => exact q.elim
/-- .. told by data -/
theorem g_of {qg : Bool} {x qual : Str} {st : Stmt} {f : Addr} {fd : FuncData} {N ps : List Str} {k : Nat} (own : Bool) {F : List D → M (Fl Unit Empty)} (Fn : L2.Fun K x qual st f fd) (sc : FnScope N ps (defScope st))
    (hbody : ∀ (cdv : Value) (A : Around) (outer : List Env) (s : Shared) (H : Hp) (E : XK), fd.code = cdv →
      Room k (A.deeper (envOfC qual (defScope st) s.heap.objs.size f cdv)) → (qg = true → (A.deeper (envOfC qual (defScope st) s.heap.objs.size f cdv)).guards = some []) →
        ∃ t, PSs (cxOf (L2.CX P w) P w K mg base N qual (defScope st) f cdv A outer s H E) (defBody st) t ∧
          ∀ ds, ds.length = ps.length → SS ⟨K, mg, E⟩ own t (startS N.length ds) (enc0 N.length) noE (F ds)) :
    GOk P w K mg base qg (k + 1) f fd ps (spD K mg own ps.length (fun ds => endB own (F ds))) := by
  refine g_fn Fn sc ?_ ?_
  · rintro vs H Q E ⟨W, ds, _, r, l, _⟩
    rw [r.length]
    exact l
  · rintro cdv A outer s H vs Q E hcd hr hg ⟨W, ds, wk, r, l, q⟩
    obtain ⟨t, p, sem⟩ := hbody cdv A outer s H E hcd hr hg
    refine ⟨t, p, sem ds l W W H W H (L2.start N vs) _ wk ⟨env_start r, wk, Step.refl wk, Le.refl W⟩ ?_⟩
    cases own with
    | false =>
      refine (F ds).mono (fun f hf => ?_) (fun _ z => z) q
      cases f with
      | nx _ => exact fun W' H' σ n => hf W' H' .non n.st .non
      | rt d => exact hf
      | bk e => exact e.elim
      | ct e => exact e.elim
    | true =>
      refine (F ds).mono (fun f hf => ?_) (fun _ z => z) q
      cases f with
      | nx _ => exact (show False from hf).elim
      | rt d => exact hf
      | bk e => exact e.elim
      | ct e => exact e.elim
theorem GOk.mono {qg : Bool} {j k : Nat} {f : Addr} {fd : FuncData} {ps : List Str} {sp : Sp} (G : GOk P w K mg base qg j f fd ps sp) (h : j ≤ k) : GOk P w K mg base qg k f fd ps sp :=
  ⟨G.len, fun A outer s H args us vs Q E hr => G.run A outer s H args us vs Q E (hr.mono h)⟩
/-- the same by another telling -/
theorem GOk.imp {qg : Bool} {k : Nat} {f : Addr} {fd : FuncData} {ps : List Str} {sp sp' : Sp} (G : GOk P w K mg base qg k f fd ps sp) (h : ∀ vs H Q E, sp' vs H Q E → sp vs H Q E) : GOk P w K mg base qg k f fd ps sp' :=
  ⟨fun vs H Q E q => G.len vs H Q E (h _ _ _ _ q), fun A outer s H args us vs Q E hr hg he hb hv hs => G.run A outer s H args us vs Q E hr hg he hb hv (h _ _ _ _ hs)⟩
end

/-! ### calls -/
def tCallG (sp : Sp) (E : XK) (t : TA) : TE := fun σ H Q => t σ H fun vs H1 => sp vs H1 Q E
section
variable {X : Cx} {qg : Bool} {k : Nat} {f : Addr} {fd : FuncData} {ps : List Str} {sp : Sp} {E : XK} {x : Str} {p pos : Pos} {e : Expr} {es : List Expr} {t : TA}
theorem run_g {pins : List (Addr × Obj)} {σ : L2.St} {H : Hp} {s : Shared} {Q : VK} {us : List Value} {vs : List V} (G : GOk X.prog X.w X.K X.mg X.base qg k f fd ps sp) (hr : Room k X.A) (hg : qg = true → X.A.guards = some [])
    (hb : Binds X.K fd ps []) (hx : Passes (L2.CX X.prog X.w) X E) (I : L2.Inv X pins σ H s) (r : Vals vs us) (h : sp vs H Q E) : wpAny (model X.prog X.w) X.A (call (.ref f) us) (EP X pins σ Q) X.xe s := by
  have hl : (us ++ []).length = ps.length := by
    rw [List.append_nil, ← r.length]
    exact G.len _ _ _ _ h
  have b2 := hb s us I.kIn hl
  rw [List.append_nil] at b2
  apply wpAny_call
  refine codeAny_mono (G.run X.A X.stack s H ⟨us, []⟩ us vs Q E hr hg I.env0 b2 r h) ?_
  intro r' s' hq
  match r', hq with
  | .error e, hq => exact hx pins σ H s e s' I hq
  | .ok (.ret u), hq => exact I.after hq
  | .ok .next, hq => exact False.elim hq
  | .ok .brk, hq => exact False.elim hq
  | .ok .cont, hq => exact False.elim hq
theorem pe_g (G : GOk X.prog X.w X.K X.mg X.base qg k f fd ps sp) (hr : Room k X.A) (hg : qg = true → X.A.guards = some []) (hgl : Gl X x) (hm : X.mg x = some (.ref f)) (hk : PySem.W.keepIn X.K (.ref f) = true) (hb : Binds X.K fd ps []) (hx : Passes (L2.CX X.prog X.w) X E)
    (ha : PA X (e :: es) t) (hdb : (x == ("__debug__" : Str)) = false := by decide) (he : starEach (e :: es) X.env = (false, eval e X.env) :: starEach es X.env := by rfl) (hpl : (backTo pos (starEach es X.env)).any (·.1) = false := by rfl) :
    PE X (.Call (.Name x p) (e :: es) [] pos) (tCallG sp E t) := by
  constructor
  intro pins s σ H Q I h
  apply wpAny_Call_Name_kw
  refine ld_glob I hgl hm (PySem.W.callWith_K (h₀ := X.base) I.ok.mod.kin hk (thn (ha.run pos pins s σ H _ I h) ?_) he hpl) hdb
  rintro us s1 ⟨vs, H1, I1, r, q⟩
  exact ⟨I1.kIn, run_g G hr hg hb hx I1 r q⟩
end
section
variable {S : Sx} {ρ : List Sl} {ts : TA} {rs : List (M D)} {n : Nat} {F : List D → M D}
theorem se_g (h : SA S ts ρ rs) (hn : rs.length = n) : SE S (tCallG (spD S.K S.mg false n F) S.E ts) ρ (callM F rs) := fun σ H W H0 Q e w q => by
  refine h.go e w (seqL_len q) (fun _ z => z) fun ds vs W1 H1 q1 s1 r1 e1 => ?_
  exact ⟨W1, ds, s1.ok, r1, q1.1.trans hn, (F ds).mono (fun d hd W' H' v s r => hd v W' H' (s1.trans w s) r) (fun _ z => z.after w s1) q1.2⟩
theorem so_g (h : SA S ts ρ rs) (hn : rs.length = n) : SO S (tCallG (spD S.K S.mg true n F) S.E ts) ρ (callM F rs >>= asL) := fun σ H W H0 Q e w q => by
  refine h.go e w (seqL_len q) (fun _ z => z) fun ds vs W1 H1 q1 s1 r1 e1 => ?_
  refine ⟨W1, ds, s1.ok, r1, q1.1.trans hn, (F ds).mono (fun d hd W' H' v s r => ?_) (fun _ z => z.after w s1) q1.2⟩
  rcases r with ⟨a, us, xs, rfl, rfl, g1, g2, g3, g4, g5⟩ | ⟨a, us, xs, rfl, rfl, g1, g2, g3, g4, g5⟩ | ⟨rfl, rfl⟩
  · exact hd a us W' H' (s1.trans w s) (s1.free0 w g4) g1 g2 g3 g5
  · exact (show False from hd).elim
  · exact (show False from hd).elim
end

/-! ### the law's end: cs, the code objects of the defs that make lambdas, and their tables -/
theorem law_g {qg : Bool} {P : Program} {w : World} {K : PySem.W.Frag} {mg mb : Str → Option Value} {k : Nat} {fa a : Addr} {fd : FuncData} {x : Str} {F : List D → M D} {s1 : Shared} {vs : List Value} {ns : List Int} {cs : List (Addr × Addr)}
    (KX : K.In s1.heap) (hns : s1.heap.Ns mainGlobals mg) (hb : s1.heap.Ns builtinsNs mb) (hbb : ∀ x : Str, x ≠ "__name__" → mb x = bootBuiltins x) (hlim : s1.heap.NoLimit) (hg : s1.gens = #[])
    (hcs : Tb.T.map (·.1) = cs.map (·.2)) (hT : ∀ p ∈ cs, PySem.W.CodeHd s1.heap p.1 p.2 ∧ s1.heap.get? p.2 = some { cls := .none, data := .fields #[] }) (nT : ∀ p ∈ cs, K.lookup p.2 = none)
    (hbm : ∃ (bm : Addr) (ob : Obj), mg "__builtins__" = some (.ref bm) ∧ bm ≠ builtinsNs ∧ s1.heap.get? bm = some ob ∧ ob.cls = .type "module" ∧ ob.dict = some builtinsNs ∧ ob.data = .plain)
    (ha : s1.heap.get? a = some { cls := .type "list", data := .seq vs.toArray }) (hi : PyProof.Rows.IntsAre vs ns) (hl : ns.length ≤ sizeLine) (hr : Room k callerA)
    (G : ∀ base : Heap, K.In base → base.Ns mainGlobals mg → (∀ p ∈ cs, LamX.TabB base mg p.1 p.2) → GOk P w K mg base qg k fa fd [x] (spD K mg false 1 F)) (hbind : ∀ (s : Shared) (u : Value), BindsTo s fd ⟨[u], []⟩ [(x, u)])
    (hF : (F [.scr ns]).run (fun d => d = .bl true) (fun _ => False)) :
    codeAny (model P w) callerA (.call (.ref fa) ⟨[.ref a], []⟩) (fun r s' => r = .ok (.ret (.bool true)) ∧ OldK s1.heap s'.heap ∧ s'.os = s1.os ∧ AllBare s'.gens) s1 := by
  have rv := vals_ints hi
  have tT : ∀ b, b ∈ cs.map (·.2) → ∃ c, (c, b) ∈ cs := fun b hb => by
    obtain ⟨p, hp, e⟩ := List.mem_map.mp hb
    exact ⟨p.1, by rw [← e]; exact hp⟩
  have oT : ∀ b, b ∈ cs.map (·.2) → s1.heap.get? b = some { cls := .none, data := .fields #[] } := fun b hb => by
    obtain ⟨c, hc⟩ := tT b hb
    exact (hT _ hc).2
  have aT : a ∉ cs.map (·.2) := fun z => by
    have e := oT a z
    rw [ha] at e
    cases (Option.some.inj e)
  -- the abstract heap: the tables, and the script where it is no object of the module
  have main : ∀ H : Hp, SqL K H a (ns.map V.int) → HOk P w H s1.heap → (∀ b ∈ cs.map (·.2), H b = some (.tbl #[])) → (∀ b u, H b = some u → (b = a ∧ ∃ o zs, u = .frz o (.lst zs)) ∨ b ∈ cs.map (·.2)) → (H a ≠ none → K.lookup a = none) →
      codeAny (model P w) callerA (.call (.ref fa) ⟨[.ref a], []⟩) (fun r s' => r = .ok (.ret (.bool true)) ∧ OldK s1.heap s'.heap ∧ s'.os = s1.os ∧ AllBare s'.gens) s1 := by
    intro H hS hok hH hA hK
    -- what is neither a sequence nor an empty table is not tracked
    have untr : ∀ {b : Addr} {o : Obj}, s1.heap.get? b = some o → (∀ xs n, o.data ≠ .seq xs n) → o.data ≠ .fields #[] → H b = none := fun {b o} e d1 d2 => by
      cases q : H b with
      | none => rfl
      | some u =>
        rcases hA b u q with ⟨rfl, _⟩ | hm
        · rw [ha] at e
          cases e
          exact absurd rfl (d1 _ _)
        · rw [oT b hm] at e
          cases e
          exact absurd rfl d2
    have isD : ∀ {b : Addr} {m : Str → Option Value}, s1.heap.Ns b m → (hidT s1.heap H).Ns b m := by
      rintro b m ⟨o, es, ep, e, d, r⟩
      exact ⟨o, es, ep, hidT_get e (untr e (fun _ _ z => by rw [d] at z; cases z) (fun z => by rw [d] at z; cases z)), d, r⟩
    have kb : K.In (hidT s1.heap H) := by
      intro b o e
      apply hidT_get (KX b o e)
      cases q : H b with
      | none => rfl
      | some u =>
        rcases hA b u q with ⟨rfl, _⟩ | hm
        · rw [hK (by rw [q]; exact Option.some_ne_none u)] at e
          cases e
        · obtain ⟨c, hc⟩ := tT b hm
          rw [nT _ hc] at e
          cases e
    have TB : ∀ p ∈ cs, LamX.TabB (hidT s1.heap H) mg p.1 p.2 := fun p hp => by
      obtain ⟨h1, h2⟩ := hT p hp
      refine ⟨?_, ?_, fun z => ?_⟩
      · obtain ⟨o, us, file, tf, flags, tg, inF, text, tt, e1, r1, r2, r3, r4⟩ := h1
        refine ⟨o, us, file, tf, flags, tg, inF, text, tt, hidT_get e1 (untr e1 (fun _ _ z => by rw [r2] at z; cases z) (fun z => ?_)), r1, r2, r3, r4⟩
        rw [r2] at z
        cases z
        simp at r3
      · obtain ⟨bm, ob, b1, b2, b3, b4, b5, b6⟩ := hbm
        refine ⟨bm, ob, b1, b2, fun z => ?_, fun z => ?_, hidT_get b3 (untr b3 (fun _ _ z => by rw [b6] at z; cases z) (fun z => by rw [b6] at z; cases z)), b4, b5, b6⟩
        · obtain ⟨o, es, ep, e, d, _⟩ := hns
          rw [z, e] at b3
          cases b3
          rw [d] at b6
          cases b6
        · rw [z, h2] at b3
          cases b3
          cases b6
      · obtain ⟨o, es, ep, e, d, _⟩ := hns
        rw [z, h2] at e
        cases e
        cases d
    obtain ⟨mc, l1, l2⟩ := hlim
    have e0 : Env0 P w K mg (hidT s1.heap H) callerA [] s1 H :=
      ⟨rfl, ⟨kb, isD hns, ⟨mb, isD hb, hbb⟩, ⟨mc, isD l1, l2⟩⟩, fun b o e => of_hidT e, Nat.le_of_eq (hidT_size _ _), trivial, fun b hb => (List.not_mem_nil hb).elim, hok, .of_eq hg⟩
    let W0 : Wd := ⟨fun b => if b ∈ cs.map (·.2) then none else H b, fun b => if b ∈ cs.map (·.2) then some Kind.tab else none⟩
    have rd : ∀ {b : Addr} {u : HO}, b ∉ cs.map (·.2) → Rd H b u → Rd W0.P b u := fun {b u} nb h => by
      rcases h with h | ⟨o, h⟩
      · exact .inl ((if_neg nb).trans h)
      · exact .inr ⟨o, (if_neg nb).trans h⟩
    have hS' : SqL K W0.P a (ns.map V.int) := by
      rcases hS with h | h
      · exact .inl (rd aT h)
      · exact .inr h
    have wk : WOk W0 H := by
      refine ⟨fun b o e => ?_, fun b φ e => ?_, fun p hp => ?_, fun b ps e => ?_⟩
      · have e' : (if b ∈ cs.map (·.2) then none else H b) = some o := e
        by_cases q : b ∈ cs.map (·.2)
        · rw [if_pos q] at e'
          cases e'
        · rw [if_neg q] at e'
          exact e'
      · have e' : (if b ∈ cs.map (·.2) then some Kind.tab else none) = some φ := e
        by_cases q : b ∈ cs.map (·.2)
        · rw [if_pos q] at e'
          cases e'
          exact ⟨if_pos q, _, hH b q, _, rfl⟩
        · rw [if_neg q] at e'
          cases e'
      · exact LamX.TabS.nil (hH p.1 (by rw [← hcs]; exact List.mem_map.mpr ⟨p, hp, rfl⟩))
      · rcases hA b _ e with ⟨_, o, zs, z⟩ | hm
        · cases z
        · refine ⟨if_pos hm, ?_⟩
          rw [← hcs] at hm
          obtain ⟨p, hp, rfl⟩ := List.mem_map.mp hm
          exact ⟨p.2, hp⟩
    refine codeAny_mono ((G _ kb (isD hns) TB).run callerA [] s1 H ⟨[.ref a], []⟩ [.ref a] [.ref a] (fun v _ => v = .bl true) (fun _ _ _ => False) hr (fun _ => rfl) e0 (hbind s1 (.ref a)) (.cons rfl .nil)
      ⟨W0, [.scr ns], wk, .cons (.scr hS') .nil, rfl, (F _).mono (fun d hd W' H' v _ r => ?_) (fun _ z => z.elim) hF⟩) ?_
    · subst hd
      exact Rep.inj_bl r
    intro r s' h
    match r, h with
    | .error e, h =>
      obtain ⟨_, _, _, _, _, _, _, _, _, _, _, _, z⟩ := h
      exact z.elim
    | .ok .next, h => exact False.elim h
    | .ok .brk, h => exact False.elim h
    | .ok .cont, h => exact False.elim h
    | .ok (.ret u), ⟨v, H', os, bare, un, hok', r', q⟩ =>
      subst q
      obtain rfl : u = Value.bool true := r'
      have grown : ∀ b, b ∈ cs.map (·.2) → ∃ more : Array Value, s'.heap.get? b = some { cls := .none, data := .fields more } := fun b hm => by
        obtain ⟨more, z⟩ := un.tbls b #[] (hH b hm)
        exact ⟨_, hok' b _ z⟩
      have kept : ∀ b o, b ∉ cs.map (·.2) → s1.heap.get? b = some o → s'.heap.get? b = some o := fun b o nm e => by
        cases q : H b with
        | none => exact un.keep b o e q (List.not_mem_nil) (List.not_mem_nil)
        | some u =>
          rcases hA b u q with ⟨_, ob, zs, rfl⟩ | hm
          · have e1 := (hok b _ q).1
            have e2 := (hok' b _ (un.frzs b ob _ q)).1
            rw [e] at e1
            cases e1
            exact e2
          · exact absurd hm nm
      refine ⟨rfl, ⟨fun b o e => ?_, fun b o e => ?_⟩, os, bare⟩
      · by_cases hm : b ∈ cs.map (·.2)
        · obtain ⟨c, hc⟩ := tT b hm
          obtain ⟨more, z⟩ := grown b hm
          obtain ⟨g1, g2⟩ := hT _ hc
          rw [show s1.heap.get? b = _ from g2] at e
          cases e
          exact .inr (.inl ⟨(g1.tab g2).isCodeTable, rfl, #[], more, rfl, by rw [Array.empty_append]; exact z⟩)
        · exact .inl (kept b o hm e)
      · by_cases hm : b ∈ cs.map (·.2)
        · obtain ⟨more, z⟩ := grown b hm
          exact ⟨_, z⟩
        · exact ⟨o, kept b o hm e⟩
  have tab0 : ∀ b, (if b ∈ cs.map (·.2) then some (HO.tbl #[]) else none) = none ∨ ((if b ∈ cs.map (·.2) then some (HO.tbl #[]) else none) = some (.tbl #[]) ∧ b ∈ cs.map (·.2)) := fun b => by
    by_cases hm : b ∈ cs.map (·.2)
    · exact .inr ⟨if_pos hm, hm⟩
    · exact .inl (if_neg hm)
  let H0 : Hp := fun b => if b ∈ cs.map (·.2) then some (HO.tbl #[]) else none
  have hok0 : ∀ b, b ∈ cs.map (·.2) → ∀ H : Hp, ObjOk P w H s1.heap b (.tbl #[]) := fun b hm H => oT b hm
  cases hk : K.lookup a with
  | some o =>
    have e := KX a o hk
    rw [ha] at e
    cases e
    refine main H0 (.inr ⟨_, vs.toArray, _, hk, rfl, rfl, rfl, ?_, ?_⟩) (fun b u z => ?_) (fun b hm => if_pos hm) (fun b u z => ?_) (fun z => absurd (show H0 a = none from if_neg aT) z)
    · rw [List.size_toArray, hi.length]
      exact hl
    · simpa using rv
    · rcases tab0 b with q | ⟨q, hm⟩
      · rw [show H0 b = none from q] at z
        cases z
      · rw [show H0 b = _ from q] at z
        cases z
        exact hok0 b hm _
    · rcases tab0 b with q | ⟨q, hm⟩
      · rw [show H0 b = none from q] at z
        cases z
      · exact .inr hm
  | none =>
    let ob : Obj := { cls := .type "list", data := .seq vs.toArray }
    refine main (upd H0 a (.frz ob (.lst (ns.map V.int)))) (.inl (.inr ⟨ob, upd_same⟩)) (fun b u z => ?_) (fun b hm => ?_) (fun b u z => ?_) (fun _ => hk)
    · by_cases hb : b = a
      · subst hb
        rw [upd_same] at z
        cases z
        exact ⟨ha, by rw [List.length_map]; exact hl, vs, _, rv, ha⟩
      · rw [upd_ne hb] at z
        rcases tab0 b with q | ⟨q, hm⟩
        · rw [show H0 b = none from q] at z
          cases z
        · rw [show H0 b = _ from q] at z
          cases z
          exact hok0 b hm _
    · rw [upd_ne (fun z => aT (by rw [← z]; exact hm))]
      exact if_pos hm
    · by_cases hb : b = a
      · subst hb
        rw [upd_same] at z
        cases z
        exact .inl ⟨rfl, ob, _, rfl⟩
      · rw [upd_ne hb] at z
        rcases tab0 b with q | ⟨q, hm⟩
        · rw [show H0 b = none from q] at z
          cases z
        · exact .inr hm
/-- the goal that k_head leaves -/
theorem walk_g {qg : Bool} {l : PySem.W.OpenLaw} {n k : Nat} {q : Program} {loose : List Str} {XP : (Str → Option Value) → Heap → Prop} {YP : World → Heap → Prop} {d : DefRec} {K : Params → PySem.W.Frag} {x : Str} {F : List D → M D}
    (hn : l.most = some n) (hn2 : n ≤ sizeLine) (hdf : d.params.defaults = []) (hr : Room k callerA) (hY : ∀ (w : World) (h : Heap), YP w h → (K w.params).In h) (cs : List (Addr × Addr))
    (hcs : Tb.T.map (·.1) = cs.map (·.2)) (hT : ∀ (w : World) (h : Heap), YP w h → ∀ p ∈ cs, PySem.W.CodeHd h p.1 p.2 ∧ h.get? p.2 = some { cls := .none, data := .fields #[] }) (nT : ∀ (w : World), ∀ p ∈ cs, (K w.params).lookup p.2 = none)
    (G : ∀ (w : World) (mg : Str → Option Value) (fa : Addr) (h : Heap), (K w.params).In h → h.Ns mainGlobals mg → mg d.name = some (.ref fa) →
      ∃ fd : FuncData, (∀ (s : Shared) (u : Value), BindsTo s fd ⟨[u], []⟩ [(x, u)]) ∧
        ∀ base : Heap, (K w.params).In base → base.Ns mainGlobals mg → (∀ p ∈ cs, LamX.TabB base mg p.1 p.2) → GOk l.prog w (K w.params) mg base qg k fa fd [x] (spD (K w.params) mg false 1 F))
    (hF : ∀ ns : List Int, ns.length ≤ n → (F [.scr ns]).run (fun d => d = .bl true) (fun _ => False)) :
    PySem.W.WalkO q loose XP YP l.row.toRowW d [] (fun f vs => PySem.call f vs) := by
  apply Att.attach_call hn hdf
  intro w s0 s1 mg mb fa o pm cd doc a vs ns Gr Y ho hd hcd hmg hobj hints hlen hg
  obtain ⟨fd, hb, hG⟩ := G w mg fa _ (hY w _ Y) Gr.T.g hmg
  exact law_g (hY w _ Y) Gr.T.g Gr.T.b Gr.T.builtins Gr.T.nolimit hg hcs (hT w _ Y) (nT w) Gr.T.bmain hobj hints (Nat.le_trans hlen hn2) hr hG hb (hF ns hlen)
end Ev

namespace Ev
open PySem PySem.Spec L2
variable [Tb]

/-! ### what turns -/
section
variable {W : Wd} {H : Hp} {a : Addr} {o : HO}
theorem pen_lst {k : Bool} (h : PenIs k o) : ∃ vs, o = .lst vs := by
  cases k with
  | false => obtain ⟨x, y, e, _⟩ := h; exact ⟨_, e⟩
  | true => obtain ⟨x, b, n, y, e, _⟩ := h; exact ⟨_, e⟩
theorem Step.turn {k : Bool} (w : WOk W H) (h : W.N a = some (.pen k)) (ho : PenIs k o) : Step W H W (upd H a o) := by
  have nP := (w.pen a _ h).1
  obtain ⟨u, hu, hk⟩ := (w.pen a _ h).2
  obtain ⟨vs, rfl⟩ := pen_lst hk
  obtain ⟨us, rfl⟩ := pen_lst ho
  refine ⟨Le.refl W, ⟨fun b u e => ?_, fun b ψ hb => ⟨(w.pen b ψ hb).1, ?_⟩, tabs_put (soft_lst hu) w.tab, tb_put (fun _ z => nomatch z) (fun _ _ z => z) w.tb⟩, fun b u e hn => ?_, fun _ _ => rfl, fun _ _ => rfl⟩
  · rw [upd_ne (fun z => by subst z; rw [nP] at e; cases e)]
    exact w.sub b u e
  · by_cases q : b = a
    · subst q
      rw [h] at hb
      cases hb
      exact ⟨_, upd_same, ho⟩
    · obtain ⟨u, e, r⟩ := (w.pen b ψ hb).2
      exact ⟨u, by rw [upd_ne q]; exact e, r⟩
  · rw [upd_ne (fun z => by subst z; rw [h] at hn; cases hn)]
    exact e
end
theorem penIs_of {K : PySem.W.Frag} {W : Wd} {k : Bool} {ds : List D} {vs : List V} (h : penOk k ds) (r : Reps K W vs ds) : PenIs k (.lst vs) := by
  cases k with
  | false =>
    obtain ⟨x, y, rfl, p⟩ := h
    obtain ⟨v, u, rfl, r1, r2⟩ := r.of2
    cases r1
    cases r2
    exact ⟨x, y, rfl, p⟩
  | true =>
    obtain ⟨x, b, n, y, rfl, p⟩ := h
    cases r with
    | cons r1 r => cases r with
      | cons r2 r => cases r with
        | cons r3 r => cases r with
          | cons r4 r =>
            cases r
            cases r1
            cases r2
            cases r3
            cases r4
            exact ⟨x, b, n, y, rfl, p⟩
section
variable {S : Sx} {own : Bool} {ρ : List Sl} {T L : Type} {enc : T → List Sl} {encL : L → List Sl} {ta : TS}
/-- a list of one's own becomes a pen -/
theorem ss_pen (kd : Bool) {i : Nat} {ds : List D} {m : M (Fl T L)} (h : ρ[i]? = some (.own ds)) (hb : SS S own ta (ρ.set i (.val (.pen kd))) enc encL m) : SS S own ta ρ enc encL (guard (penOk kd ds) >>= fun _ => m) := fun Wf W0 H0 W H σ D w n q => by
  obtain ⟨pk, q⟩ := q
  obtain ⟨a, vs, h1, h2, h3, h4, h5, h6⟩ := n.env.owL i _ h
  have nN : ∀ b φ, W.N b = some φ → b ≠ a := fun b φ e z => by subst z; rw [h4] at e; cases e
  let N' : Addr → Option Kind := fun b => if b = a then some (.pen kd) else W.N b
  have le : Le W ⟨W.P, N'⟩ := ⟨fun _ _ e => e, fun b φ z => by
    show N' b = some φ
    show (if b = a then some (Kind.pen kd) else W.N b) = some φ
    rw [if_neg (nN b φ z)]
    exact z⟩
  have ok : WOk ⟨W.P, N'⟩ H := ⟨n.ok.sub, fun b φ hb => by
    have hb' : (if b = a then some (Kind.pen kd) else W.N b) = some φ := hb
    by_cases e : b = a
    · rw [if_pos e] at hb'
      cases hb'
      subst e
      exact ⟨h3, _, h2, penIs_of pk h6⟩
    · rw [if_neg e] at hb'
      exact n.ok.pen b φ hb', n.ok.tab, fun b ps e => by
    show (if b = a then some (Kind.pen kd) else W.N b) = some Kind.tab ∧ _
    rw [if_neg (fun z => by subst z; rw [h2] at e; cases e)]
    exact n.ok.tb b ps e⟩
  refine hb Wf W0 H0 ⟨W.P, N'⟩ H σ D w ⟨⟨fun j d hj => ?_, fun j es hj => ?_, fun j k es fs b hjk g1 g2 g3 => ?_, by rw [List.length_set, n.env.ln]⟩, ok,
    ⟨n.st.le.trans le, ok, n.st.old, n.st.newP, fun b hb => ?_⟩, n.fl.trans le⟩ q
  · by_cases e : i = j
    · subst e
      rw [List.getElem?_set_self (List.getElem?_eq_some_iff.mp h).1] at hj
      cases hj
      exact ⟨_, h1, .pen (if_pos rfl)⟩
    · rw [List.getElem?_set_ne e] at hj
      obtain ⟨v, g1, g2⟩ := n.env.dat j d hj
      exact ⟨v, g1, g2.mono le⟩
  · obtain ⟨e, hj⟩ := getElem?_set_no hj (by intro z; cases z)
    obtain ⟨b, us, g1, g2, g3, g4, g5, g6⟩ := n.env.ow j es hj
    refine ⟨b, us, g1, g2, g3, ?_, g5, g6.to le fun M q e n0 => ⟨e, by
        show (if M = a then some (Kind.pen kd) else W.N M) = none
        rw [if_neg (fun z => by subst z; rw [h2] at e; unfold LamX.CodeO at e; cases e)]
        exact n0⟩⟩
    show (if b = a then some (Kind.pen kd) else W.N b) = none
    rw [if_neg (fun z => by subst z; exact n.env.ap i j _ es b e h hj h1 g1)]
    exact g4
  · obtain ⟨_, g1⟩ := getElem?_set_no g1 (by intro z; cases z)
    obtain ⟨_, g2⟩ := getElem?_set_no g2 (by intro z; cases z)
    exact n.env.ap j k es fs b hjk g1 g2 g3
  · show (if b = a then some (Kind.pen kd) else W.N b) = W0.N b
    rw [if_neg (fun z => by subst z; exact hb h5)]
    exact n.st.newN b hb
end
/-- what the drawing def does -/
theorem draw_in {kd : Bool} {K : PySem.W.Frag} {mg : Str → Option Value} {H : Hp} {vs : List V} {Q : VK} {E : XK} (h : spD K mg false 2 (drawF kd) vs H Q E) :
    ∃ (W : Wd) (a : Addr) (o : HO) (many : Int), WOk W H ∧ vs = [.ref a, .int many] ∧ W.N a = some (.pen kd) ∧ H a = some o ∧ PenIs kd o ∧ 0 < many ∧ many < 1073741824 ∧
      ∀ (k : Int) W' H', 0 ≤ k → k < many → Step W H W' H' → Q (.int k) H' := by
  obtain ⟨W, ds, w, r, l, q⟩ := h
  match ds, l, r, q with
  | [d, e], _, r, q =>
    obtain ⟨v, u, rfl, r1, r2⟩ := r.of2
    cases r1 with
    | @pen a k hN => cases r2 with
      | int many =>
        have q' : (if kd = k then draw many else fail).run _ _ := q
        by_cases e : kd = k
        · subst e
          rw [if_pos rfl] at q'
          obtain ⟨o, e1, p1⟩ := (w.pen a _ hN).2
          exact ⟨W, a, o, many, w, rfl, hN, e1, p1, q'.1.1, q'.1.2, fun k W' H' h1 h2 s => q'.2 k h1 h2 W' H' _ s (.int k)⟩
        · rw [if_neg e] at q'
          exact (show False from q').elim
      | _ => exact (show False from q).elim
    | _ => exact (show False from q).elim
end Ev

namespace Ev
open PySem PySem.Spec L2
variable [Tb]

/-! ### defs of the text by name -/
/-- the def st stands at the module's name x -/
def Df (K : PySem.W.Frag) (mg : Str → Option Value) (x : Str) (st : Stmt) (ps : List Str) : Prop := ∃ f fd, L2.Fun K x x st f fd ∧ mg x = some (.ref f) ∧ Binds K fd ps [] ∧ ∀ (s : Shared) (us : List Value), us.length = ps.length → BindsTo s fd ⟨us, []⟩ (ps.zip us)
/-- what is called by the name x keeps a promise -/
def Cd (qg : Bool) (P : Program) (w : World) (K : PySem.W.Frag) (mg : Str → Option Value) (base : Heap) (x : Str) (k : Nat) (ps : List Str) (sp : Sp) : Prop :=
  ∃ f fd, mg x = some (.ref f) ∧ PySem.W.keepIn K (.ref f) = true ∧ Binds K fd ps [] ∧ GOk P w K mg base qg k f fd ps sp
section
variable {P : Program} {w : World} {K : PySem.W.Frag} {mg : Str → Option Value} {base : Heap}
theorem df_mk {h : Heap} {x : Str} {st : Stmt} {ps : List Str} {f : Addr} {oc : Value} {od an : Option Addr} {osl : Array (Option Value)} {kV doc pm cdv ct : Value} (X : K.In h) (G : h.Ns mainGlobals mg)
    (a : PySem.W.nsIn K mainGlobals x = some (some (.ref f)))
    (l : K.lookup f = some ⟨oc, od, .func (PySem.W.fnOf x x (defArgs st) (defBody st) (defScope st) .none kV doc pm an cdv ct), osl⟩)
    (c : PySem.W.codeIn K cdv x = true) (k : PySem.W.keepIn K (.ref f) = true)
    (b : ∀ (kV doc pm : Value) (an : Option Addr) (cdv ct : Value) (us : List Value), us.length = ps.length → bindArgs (PySem.W.fnOf x x (defArgs st) (defBody st) (defScope st) .none kV doc pm an cdv ct) ⟨us, []⟩ = pure (ps.zip us)) : Df K mg x st ps :=
  have F := fun_mk l c k
  ⟨f, _, F, PySem.W.mg_of X G a, F.binds b, fun _ us hl => .of_eq (b kV doc pm an cdv ct us hl)⟩
/-- a def, by its body -/
theorem cd_of {qg : Bool} {x : Str} {st : Stmt} {N ps : List Str} {k : Nat} (own : Bool) {F : List D → M (Fl Unit Empty)} (d : Df K mg x st ps) (sc : FnScope N ps (defScope st))
    (hbody : ∀ (f : Addr) (cdv : Value) (A : Around) (outer : List Env) (s : Shared) (H : Hp) (E : XK),
      Room k (A.deeper (PyProof.Rows.envOfC x (defScope st) s.heap.objs.size f cdv)) → (qg = true → (A.deeper (PyProof.Rows.envOfC x (defScope st) s.heap.objs.size f cdv)).guards = some []) →
        ∃ t, PSs (cxOf (L2.CX P w) P w K mg base N x (defScope st) f cdv A outer s H E) (defBody st) t ∧
          ∀ ds, ds.length = ps.length → SS ⟨K, mg, E⟩ own t (startS N.length ds) (enc0 N.length) noE (F ds)) :
    Cd qg P w K mg base x (k + 1) ps (spD K mg own ps.length (fun ds => endB own (F ds))) := by
  obtain ⟨f, fd, Fn, g, b, _⟩ := d
  exact ⟨f, fd, g, Fn.kp, b, g_of own Fn sc fun cdv A outer s H E _ => hbody f cdv A outer s H E⟩
theorem Cd.mono {qg : Bool} {x : Str} {j k : Nat} {ps : List Str} {sp : Sp} (c : Cd qg P w K mg base x j ps sp) (h : j ≤ k) : Cd qg P w K mg base x k ps sp :=
  let ⟨f, fd, g, kp, b, G⟩ := c
  ⟨f, fd, g, kp, b, G.mono h⟩
end
section
variable {X : Cx} {k j : Nat} {ps : List Str} {sp : Sp} {E : XK} {x : Str} {p pos : Pos} {e : Expr} {es : List Expr} {t : TA}
/-- its call -/
theorem pe_cd {qg : Bool} (c : Cd qg X.prog X.w X.K X.mg X.base x j ps sp) (hr : Room k X.A) (hg : qg = true → X.A.guards = some []) (hx : Passes (L2.CX X.prog X.w) X E) (ha : PA X (e :: es) t) (hjk : j ≤ k := by decide) (hgl : Gl X x := by exact rfl)
    (hdb : (x == ("__debug__" : Str)) = false := by decide) (he : starEach (e :: es) X.env = (false, eval e X.env) :: starEach es X.env := by rfl) (hpl : (backTo pos (starEach es X.env)).any (·.1) = false := by rfl) :
    PE X (.Call (.Name x p) (e :: es) [] pos) (tCallG sp E t) := by
  obtain ⟨f, fd, g, kp, b, G⟩ := c
  exact pe_g (G.mono hjk) hr hg hgl g kp b hx ha hdb he hpl
end
/-- an exception of a callee leaves a def's body as it came -/
theorem pass_def {P : Program} {w : World} {K : PySem.W.Frag} {mg : Str → Option Value} {base : Heap} {N : List Str} {qual : Str} {sc : Scope} {f : Addr} {cd : Value} {A : Around} {outer : List Env} {s : Shared} {H : Hp} {E : XK} :
    Passes (L2.CX P w) (cxOf (L2.CX P w) P w K mg base N qual sc f cd A outer s H E) E :=
  passes_call (takes_of (E := E) rfl rfl rfl rfl) fun _ _ _ _ z => z
/-- == and != of anything -/
def rEqA (K : PySem.W.Frag) : R2 := fun x y H Q => rEq x y H Q ∨ rEqD K x y H Q
def rNeA (K : PySem.W.Frag) : R2 := fun x y H Q => rNe x y H Q ∨ rNeD K x y H Q
theorem op_eqA {X : Cx} (hu : X.A.units + 64 < cLine) : OpR X (compareOp .Eq) (rEqA X.K) := op_eq.or (op_eqD hu)
theorem op_neA {X : Cx} (hu : X.A.units + 64 < cLine) : OpR X (compareOp .NotEq) (rNeA X.K) := op_ne.or (op_neD hu)
theorem os_eqA {K : PySem.W.Frag} : OpS K (rEqA K) D.eqA := by
  intro W H x y dx dy Q E w rx ry h
  unfold D.eqA at h
  split at h
  · exact .inl (os_eqS W H x y _ _ Q E w rx ry h)
  · exact .inr (os_eq W H x y _ _ Q E w rx ry h)
theorem os_neA {K : PySem.W.Frag} : OpS K (rNeA K) D.neA := by
  intro W H x y dx dy Q E w rx ry h
  unfold D.neA at h
  split at h
  · exact .inl (os_neS W H x y _ _ Q E w rx ry h)
  · exact .inr (os_ne W H x y _ _ Q E w rx ry h)
/-! ### lists of one's own, read -/
section
variable {S : Sx} {ρ : List Sl}
theorem scal_rep {K : PySem.W.Frag} {W W' : Wd} {v : V} {d : D} (h : d.scal) (r : Rep K W v d) : Rep K W' v d := by
  cases r with
  | non => exact .non
  | bl b => exact .bl b
  | int i => exact .int i
  | str x => exact .str x
  | _ => exact (show False from h).elim
/-- the world behind, less what was lent -/
def backW (W : Wd) (H P' : Hp) : Wd := ⟨fun b => match W.P b with
  | some o => some o
  | none => match H b with
    | none => tupP P' b
    | some _ => none, W.N⟩
theorem backW_old {W : Wd} {H P' : Hp} {b : Addr} {o : HO} (h : W.P b = some o) : (backW W H P').P b = some o := by
  show (match W.P b with | some o => some o | none => _) = _
  rw [h]
theorem backW_was {W : Wd} {H P' : Hp} {b : Addr} {u : HO} (h : W.P b = none) (h2 : H b = some u) : (backW W H P').P b = none := by
  show (match W.P b with | some o => some o | none => match H b with | none => tupP P' b | some _ => none) = _
  rw [h, h2]
theorem backW_new {W : Wd} {H P' : Hp} {b : Addr} (h : W.P b = none) (h2 : H b = none) : (backW W H P').P b = tupP P' b := by
  show (match W.P b with | some o => some o | none => match H b with | none => tupP P' b | some _ => none) = _
  rw [h, h2]
theorem backW_some {W : Wd} {H P' : Hp} {b : Addr} {o : HO} (h : (backW W H P').P b = some o) : W.P b = some o ∨ (W.P b = none ∧ H b = none ∧ tupP P' b = some o) := by
  cases e : W.P b with
  | some u => rw [backW_old e] at h; exact .inl h
  | none =>
    cases e2 : H b with
    | some u => rw [backW_was e e2] at h; cases h
    | none => rw [backW_new e e2] at h; exact .inr ⟨rfl, rfl, h⟩
theorem lent {W : Wd} {H H0 : Hp} {σ : L2.St} {i : Nat} {ds : List D} (e : EnvR S.K W H H0 σ ρ) (w : WOk W H) (h : ρ[i]? = some (.own ds)) :
    ∃ W1, EnvR S.K W1 H H0 σ (ρ.set i (.val (.lst ds))) ∧ WOk W1 H ∧ (∀ b o, W1.P b = some o → (∀ us, o ≠ .lst us) → W.P b = some o) ∧ ∀ W' H', Step W1 H W' H' → Step W H (backW W H W'.P) H' := by
  obtain ⟨a, vs, h1, h2, h3, h4, h5, h6⟩ := e.owL i ds h
  have le : Le W ⟨upd W.P a (.lst vs), W.N⟩ := le_freeze h3
  have nP : ∀ b o, W.P b = some o → b ≠ a := fun b o z q => by subst q; rw [h3] at z; cases z
  refine ⟨⟨upd W.P a (.lst vs), W.N⟩, ⟨fun j d hj => ?_, fun j es hj => ?_, fun j k es fs b hjk g1 g2 g3 => ?_, by rw [List.length_set, e.ln]⟩, ⟨fun b o z => ?_, fun b φ z => ?_, w.tab, w.tb⟩, fun b o z no => ?_, fun W' H' s => ?_⟩
  · by_cases q : i = j
    · subst q
      rw [List.getElem?_set_self (List.getElem?_eq_some_iff.mp h).1] at hj
      cases hj
      exact ⟨_, h1, .lst upd_same (h6.mono le)⟩
    · rw [List.getElem?_set_ne q] at hj
      obtain ⟨v, g1, g2⟩ := e.dat j d hj
      exact ⟨v, g1, g2.mono le⟩
  · obtain ⟨q, hj⟩ := getElem?_set_no hj (by intro z; cases z)
    obtain ⟨b, us, g1, g2, g3, g4, g5, g6⟩ := e.ow j es hj
    have nb : b ≠ a := fun z => by
      subst z
      exact e.ap i j _ _ b q h hj h1 g1
    exact ⟨b, us, g1, g2, by show (upd W.P a (.lst vs)) b = none; rw [upd_ne nb]; exact g3, g4, g5, g6.mono le⟩
  · obtain ⟨_, g1⟩ := getElem?_set_no g1 (by intro z; cases z)
    obtain ⟨_, g2⟩ := getElem?_set_no g2 (by intro z; cases z)
    exact e.ap j k es fs b hjk g1 g2 g3
  · have z' : (upd W.P a (.lst vs)) b = some o := z
    by_cases q : b = a
    · subst q
      rw [upd_same] at z'
      cases z'
      exact h2
    · rw [upd_ne q] at z'
      exact w.sub b o z'
  · obtain ⟨p1, o, p2, p3⟩ := w.pen b φ z
    refine ⟨?_, o, p2, KIs.mono le.tup p3⟩
    show (upd W.P a (.lst vs)) b = none
    rw [upd_ne (fun q => by subst q; rw [show W.N b = some φ from z] at h4; cases h4)]
    exact p1
  · have z' : (upd W.P a (.lst vs)) b = some o := z
    by_cases q : b = a
    · subst q
      rw [upd_same] at z'
      cases z'
      exact absurd rfl (no _)
    · rwa [upd_ne q] at z'
  · refine ⟨⟨fun b o z => backW_old z, fun _ _ z => z⟩, ⟨fun b o z => ?_, fun b φ z => ?_, s.ok.tab, fun b ps e => by
      obtain ⟨_, q, hq⟩ := s.ok.tb b ps e
      obtain ⟨ps0, e0, _⟩ := w.tab _ hq
      exact w.tb b ps0 e0⟩, fun b o z n => s.old b o z n, fun b hb => ?_, fun _ _ => rfl⟩
    · rcases backW_some z with z | ⟨_, _, z⟩
      · exact s.ok.sub b o (s.le.p b o (le.p b o z))
      · exact s.ok.sub b o (tupP_some z).1
    · obtain ⟨p1, u, p2, _⟩ := w.pen b φ z
      obtain ⟨_, o, q2, q3⟩ := s.ok.pen b φ (s.le.n b φ z)
      refine ⟨backW_was p1 p2, o, q2, KIs.mono (fun c o' xs ec => ?_) q3⟩
      cases ew : W.P c with
      | some u' =>
        have := s.le.p c u' (le.p c u' ew)
        rw [ec] at this
        cases this
        exact backW_old ew
      | none =>
        cases eh : H c with
        | none => rw [backW_new ew eh]; exact tupP_of ec
        | some u' =>
          have e1 := s.newP c (by rw [eh]; intro z; cases z)
          rw [ec] at e1
          have e2 : (upd W.P a (.lst vs)) c = some (.frz o' (.tup xs)) := e1.symm
          by_cases q : c = a
          · subst q
            rw [upd_same] at e2
            cases e2
          · rw [upd_ne q, ew] at e2
            cases e2
    · cases ew : W.P b with
      | some u' => exact backW_old ew
      | none =>
        cases eh : H b with
        | none => exact absurd eh hb
        | some u' => exact backW_was ew eh
theorem xpost_lend {W W1 : Wd} {H H' : Hp} {W' : Wd} {x : Exn} {cv : Value} {dx : Option Addr} (w : WOk W H) (old : ∀ b o, W1.P b = some o → (∀ us, o ≠ .lst us) → W.P b = some o) (back : ∀ W' H', Step W1 H W' H' → Step W H (backW W H W'.P) H') (st : Step W1 H W' H')
    (hx : XPost S W H x) (rp : XRep S.mg x cv dx W') : S.E cv dx H' := by
  have st0 := back W' H' st
  obtain ⟨C, hC, rfl, hm⟩ := rp
  cases ea : x.args with
  | none =>
    rw [ea] at hm
    exact hx _ _ _ H' st0 ⟨C, hC, rfl, by rw [ea]; exact hm⟩
  | some mn =>
    rw [ea] at hm
    obtain ⟨d, fs, rfl, e1, e2, e3⟩ := hm
    by_cases hd : H d = none
    · have hP : W.P d = none := by
        cases z : W.P d with
        | none => rfl
        | some u => rw [w.sub d u z] at hd; cases hd
      have hN : W.N d = none := by
        cases z : W.N d with
        | none => rfl
        | some φ =>
          obtain ⟨o, e, _⟩ := (w.pen d φ z).2
          rw [e] at hd; cases hd
      have hP2 : (backW W H W'.P).P d = none := by
        rw [backW_new hP hd]
        unfold tupP
        rw [e1]
      refine hx _ _ ⟨upd (backW W H W'.P).P d (.xd fs), W.N⟩ H' (st0.freeze hd (st.ok.sub _ _ e1) hP2 hN) ⟨C, hC, rfl, ?_⟩
      rw [ea]
      exact ⟨d, fs, rfl, upd_same, e2, e3⟩
    · refine hx _ _ _ H' st0 ⟨C, hC, rfl, ?_⟩
      rw [ea]
      exact ⟨d, fs, rfl, backW_old (old d _ ((st.newP d hd).symm.trans e1) (fun us z => by cases z)), e2, e3⟩
theorem se_lend {t : TE} {r : M D} {i : Nat} {ds : List D} (h : ρ[i]? = some (.own ds)) (s : SE S t (ρ.set i (.val (.lst ds))) r) : SE S t ρ (r >>= fun d => guard d.scal >>= fun _ => pure d) := fun σ H W H0 Q e w q => by
  obtain ⟨W1, e1, w1, old, back⟩ := lent e w h
  refine s σ H W1 H0 Q e1 w1 (r.mono (fun d hd v W' H' st rp => ?_) (fun x hx cv dx W' H' st rp => xpost_lend w old back st hx rp) q)
  exact hd.2 v _ H' (back W' H' st) (scal_rep hd.1 rp)
theorem sb_lend {t : TT} {r : M Bool} {i : Nat} {ds : List D} (h : ρ[i]? = some (.own ds)) (s : SB S t (ρ.set i (.val (.lst ds))) r) : SB S t ρ r := fun σ H W H0 Q e w q => by
  obtain ⟨W1, e1, w1, old, back⟩ := lent e w h
  exact s σ H W1 H0 Q e1 w1 (r.mono (fun d hd W' H' st => hd _ H' (back W' H' st)) (fun x hx cv dx W' H' st rp => xpost_lend w old back st hx rp) q)
end
/-! ### what the built-in names stand for -/
theorem bt_len : bootBuiltins "len" = some (.builtin "len") := by decide +kernel
theorem bt_isinstance : bootBuiltins "isinstance" = some (.builtin "isinstance") := by decide +kernel
theorem bt_divmod : bootBuiltins "divmod" = some (.builtin "divmod") := by decide +kernel
theorem bt_max : bootBuiltins "max" = some (.builtin "max") := by decide +kernel
theorem bt_min : bootBuiltins "min" = some (.builtin "min") := by decide +kernel
theorem bt_repr : bootBuiltins "repr" = some (.builtin "repr") := by decide +kernel
theorem bt_all : bootBuiltins "all" = some (.builtin "all") := by decide +kernel
theorem bt_any : bootBuiltins "any" = some (.builtin "any") := by decide +kernel
theorem bt_sum : bootBuiltins "sum" = some (.builtin "sum") := by decide +kernel
theorem bt_sorted : bootBuiltins "sorted" = some (.builtin "sorted") := by decide +kernel
theorem bt_int : bootBuiltins "int" = some (.type "int") := by decide +kernel
theorem bt_bool : bootBuiltins "bool" = some (.type "bool") := by decide +kernel
theorem bt_str : bootBuiltins "str" = some (.type "str") := by decide +kernel
theorem bt_tuple : bootBuiltins "tuple" = some (.type "tuple") := by decide +kernel
theorem bt_list : bootBuiltins "list" = some (.type "list") := by decide +kernel
theorem bt_dict : bootBuiltins "dict" = some (.type "dict") := by decide +kernel
theorem bt_range : bootBuiltins "range" = some (.type "range") := by decide +kernel
theorem bt_enumerate : bootBuiltins "enumerate" = some (.type "enumerate") := by decide +kernel
theorem bt_zip : bootBuiltins "zip" = some (.type "zip") := by decide +kernel
theorem bt_set : bootBuiltins "set" = some (.type "set") := by decide +kernel
/-! ### dicts -/
section
variable {S : Sx} {ρ : List Sl}
theorem se_dnew : SE S tDNewK ρ (pure (.dct [])) := fun σ H W H0 Q e w q p hp =>
  q (.ref p) _ _ (Step.dat w hp) (.dct upd_same .nil)
end
/-! ### the rules, with the fragment named -/
section
variable {X : Cx} {K : PySem.W.Frag}
theorem ix_anyK (h : X.K = K) : IxR X (rIxA K) := by subst h; exact ix_any
theorem sl_anyK (h : X.K = K) : SlR X (rSlAll K) := by subst h; exact sl_any
theorem op_addK (h : X.K = K) : OpR X (binaryOp .Add) (rAddA K) := by subst h; exact op_addA
theorem op_mulK (h : X.K = K) : OpR X (binaryOp .Mult) (rMulA K) := by subst h; exact op_mulA
theorem op_eqK (h : X.K = K) (hu : X.A.units + 64 < cLine) : OpR X (compareOp .Eq) (rEqA K) := by subst h; exact op_eqA hu
theorem op_neK (h : X.K = K) (hu : X.A.units + 64 < cLine) : OpR X (compareOp .NotEq) (rNeA K) := by subst h; exact op_neA hu
theorem call_lenK (h : X.K = K) : CallR X (.builtin "len") (rLenA K) := by subst h; exact call_lenA
theorem call_reprK (h : X.K = K) (hg : X.A.guards = some []) (hu : X.A.units + 64 < cLine) : CallR X (.builtin "repr") (rReprD K) := by subst h; exact call_repr hg hu
theorem call_isiK (h : X.K = K) : CallR X (.builtin "isinstance") (rIsi K) := by subst h; exact call_isi
theorem call_allK (h : X.K = K) (hc : X.calm = true) : CallR X (.builtin "all") (rAll K) := by subst h; exact cr_all hc
theorem call_anyK (h : X.K = K) (hc : X.calm = true) : CallR X (.builtin "any") (rAny K) := by subst h; exact cr_any hc
theorem call_listK (h : X.K = K) : CallR X (.type "list") (fun xs H Q => ∃ p ys, xs = [.ref p] ∧ (SqL K H p ys ∨ SqT K H p ys) ∧ ∀ l, H l = none → Q (.ref l) (upd H l (.lst ys))) := by subst h; exact call_list_of
theorem call_tupleK (h : X.K = K) : CallR X (.type "tuple") (rTupB K) := by subst h; exact call_tupB
theorem pi_seqK {tg l : Expr} {tl : TE} (h : X.K = K) (hl : PE X l tl) : PI X tg l (iSeq K tl) := by subst h; exact pi_seq hl
theorem pg_tupK {pos : Pos} {es : List Expr} {k : Nat} {t : TGs} {n : Nat} (h : X.K = K) (hc : X.calm = true) (hg : PGs X es t) (h1 : (assignEach es X.env).length = n := by rfl) (h2 : List.findIdx? (fun x => x.fst) (assignEach es X.env) = none := by rfl) :
    PG X (.Tuple es k pos) (gTup K n t) := by subst h; exact pg_tup hc hg h1 h2
end
end Ev

namespace Ev
open PySem PySem.Spec L2
variable [Tb]
/-! ### classes of errors -/
def Xc (K : PySem.W.Frag) (mg : Str → Option Value) (x : Str) : Prop := ∃ C : Addr, mg x = some (.ref C) ∧ PySem.W.excIn K C [.type "ValueError", .type "Exception", .type "BaseException", .type "object"] "ValueError.__new__" = true ∧
  PySem.W.keepIn K (.ref C) = true ∧ PySem.W.subIn K (.ref C) (.type "BaseException") = some true ∧ PySem.W.typeIn K (.ref C) = some (.type "type")
section
variable {S : Sx} {own : Bool} {ρ : List Sl} {T L : Type} {enc : T → List Sl} {encL : L → List Sl} {tb : TS}
/-- xs[i] = e -/
theorem ss_sto {i : Nat} {te ti : TE} {ds : List D} {r ri : M D} {k : List Ev.D → M (Fl T L)} (hi : ρ[i]? = some (.own ds)) (h : SE S te ρ r) (h2 : SE S ti ρ ri) (hb : ∀ es, SS S own tb (ρ.set i (.own es)) enc encL (k es)) :
    SS S own (tSeq (tAsg te (gSub (tVar i) ti rSetL)) tb) ρ enc encL (stoM ds r ri k) := fun Wf W0 H0 W H σ D w n q => by
  refine h.go n.env n.ok q (xpost w n.st) fun d v W1 H1 q1 s1 r1 e1 => ?_
  have n1 := n.st.trans w s1
  obtain ⟨a, vs, h1, _⟩ := e1.owL i ds hi
  refine ⟨_, h1, ?_⟩
  refine h2.go e1 s1.ok q1 (fun x z => z.after w n1) fun dx vx W2 H2 q2 s2 r2 e2 => ?_
  have n2 := n1.trans w s2
  cases r2 with
  | int z =>
    obtain ⟨j, ej, q3⟩ := ofO_run q2
    obtain ⟨b, us, g1, g2, g3, g4, g5, g6⟩ := e2.owL i ds hi
    rw [h1] at g1
    cases g1
    refine ⟨a, us, z, j, rfl, rfl, g2, by rw [g6.length]; exact ej, ?_⟩
    have nP : ∀ b o, W2.P b = some o → b ≠ a := fun b o e z => by subst z; rw [g3] at e; cases e
    have w1 : WOk W2 (upd H2 a (.lst (us.set j v))) := s2.ok.put g3 g4 g2
    refine hb (ds.set j d) Wf W0 H0 W2 _ σ D w ⟨⟨fun j' d' hj => ?_, fun j' es hj => ?_, fun j' k' es fs b hjk f1 f2 f3 => ?_, by rw [List.length_set, e2.ln]⟩, w1, ⟨n2.le, w1, fun b o e hnn => ?_, n2.newP, n2.newN⟩, (n.fl.trans s1.le).trans s2.le⟩ q3
    · exact e2.dat j' d' (getElem?_set_no hj (by intro z; cases z)).2
    · by_cases e : i = j'
      · subst e
        rw [List.getElem?_set_self (List.getElem?_eq_some_iff.mp hi).1] at hj
        cases hj
        exact ⟨a, _, h1, upd_same, g3, g4, g5, .lst (g6.set (r1.mono s2.le) j)⟩
      · rw [List.getElem?_set_ne e] at hj
        obtain ⟨b, zs, f1, f2, f3⟩ := e2.ow j' es hj
        have nb : b ≠ a := fun z => by
          subst z
          exact e2.ap i j' _ _ b e hi hj h1 f1
        exact ⟨b, zs, f1, by rw [upd_ne nb]; exact f2, f3.1, f3.2.1, f3.2.2.1, f3.2.2.2.upd (soft_lst g2)⟩
    · have get : ∀ {j'' : Nat} {es : OwnC}, (ρ.set i (.own (ds.set j d)))[j'']? = some (.ob es) → ∃ fs, ρ[j'']? = some (.ob fs) := fun {j'' es} hj => by
        by_cases e : i = j''
        · subst e; exact ⟨_, hi⟩
        · rw [List.getElem?_set_ne e] at hj; exact ⟨_, hj⟩
      obtain ⟨_, f1⟩ := get f1
      obtain ⟨_, f2⟩ := get f2
      exact e2.ap j' k' _ _ b hjk f1 f2 f3
    · rw [upd_ne (ne_of_none e g5)]
      exact n2.old b o e hnn
  | _ => exact (show False from q2).elim
end
/-! ### max, min, sum of a list -/
section
variable {K : PySem.W.Frag}
theorem cs_max1 : CaS K (rMax K) (f1 D.max1) := by
  intro W H vs ds Q E w rs h
  obtain ⟨d, rfl, h⟩ := f1_run h
  obtain ⟨v, rfl, r⟩ := rs.of1
  cases r with
  | @lst a vs ds hx r =>
    obtain ⟨ns, e, h⟩ := ofO_run h
    obtain ⟨m, e2, q⟩ := ofO_run h
    have ev := ints_rep r e
    cases ns with
    | nil => cases e2
    | cons x t =>
      cases e2
      obtain ⟨h1, h2⟩ := foldl_max_mem t x
      refine ⟨a, x :: t, rfl, by rw [← ev]; exact .inl (.inl (w.sub _ _ hx)), Nat.succ_pos _, fun m hm hle => ?_⟩
      have : m = t.foldl max x := Int.le_antisymm (h2 m hm) (hle _ h1)
      subst this
      exact post_here w q (.int _)
  | _ => exact (show False from h).elim
theorem cs_min1 : CaS K (rMin K) (f1 D.min1) := by
  intro W H vs ds Q E w rs h
  obtain ⟨d, rfl, h⟩ := f1_run h
  obtain ⟨v, rfl, r⟩ := rs.of1
  cases r with
  | @lst a vs ds hx r =>
    obtain ⟨ns, e, h⟩ := ofO_run h
    obtain ⟨m, e2, q⟩ := ofO_run h
    have ev := ints_rep r e
    cases ns with
    | nil => cases e2
    | cons x t =>
      cases e2
      obtain ⟨h1, h2⟩ := foldl_min_mem t x
      refine ⟨a, x :: t, rfl, by rw [← ev]; exact .inl (.inl (w.sub _ _ hx)), Nat.succ_pos _, fun m hm hle => ?_⟩
      have : m = t.foldl min x := Int.le_antisymm (hle _ h1) (h2 m hm)
      subst this
      exact post_here w q (.int _)
  | _ => exact (show False from h).elim
theorem cs_sum1 : CaS K (rSum K) (f1 D.sum1) := by
  intro W H vs ds Q E w rs h
  obtain ⟨d, rfl, h⟩ := f1_run h
  obtain ⟨v, rfl, r⟩ := rs.of1
  cases r with
  | @lst a vs ds hx r =>
    obtain ⟨ns, e, q⟩ := ofO_run h
    refine ⟨a, ns, rfl, by rw [← ints_rep r e]; exact .inl (.inl (w.sub _ _ hx)), post_here w q (.int _)⟩
  | _ => exact (show False from h).elim
end
section
variable {X : Cx} {K : PySem.W.Frag}
theorem call_maxK (h : X.K = K) (hc : X.calm = true) : CallR X (.builtin "max") (rMax K) := by subst h; exact cr_max hc
theorem call_minK (h : X.K = K) (hc : X.calm = true) : CallR X (.builtin "min") (rMin K) := by subst h; exact cr_min hc
theorem call_sumK (h : X.K = K) (hc : X.calm = true) : CallR X (.builtin "sum") (rSum K) := by subst h; exact cr_sum hc
/-! ### methods -/
theorem pe_metK {o e : Expr} {es : List Expr} {to : TE} {t : TA} {name : Str} {apos cpos : Pos} {T id : String} {r : V → List V → Hp → VK → Prop} (hK : X.K = K) (pa : PlainAttrs T) (slot : Slot T name id) (hty : typeOf (.builtin id) = pure (.type "method_descriptor"))
    (hm : MtR X id r) (ho : PE X o to) (ha : PA X (e :: es) t) (hb : attributeBase o name X.env (eval o X.env) = eval o X.env := by rfl)
    (hf : ((backTo cpos (starEach (e :: es) X.env)).all (fun x => !x.1) && (backToKw cpos (keywordEach [] X.env)).all (fun x => x.1.isSome) && decide ((e :: es).length + ([] : List Keyword).length + (if ([] : List Keyword).isEmpty then 0 else 1) < 30)) = true := by rfl)
    (hl : (apos.endLine == cpos.line) = true := by rfl) (hs : starEach (e :: es) X.env = (false, eval e X.env) :: starEach es X.env := by rfl) (hp : (backTo cpos (starEach es X.env)).any (·.1) = false := by rfl) :
    PE X (.Call (.Attribute o name apos) (e :: es) [] cpos) (tBM K T r to t) := by subst hK; exact pe_bm pa slot hty hm ho ha hb hf hl hs hp
theorem mt_countK (hK : X.K = K) : MtR X "list.count" (rCntI K) := by subst hK; exact mt_lcount
end
section
variable {S : Sx} {ρ : List Sl} {to : TE} {ta : TA} {ro : M D} {rs : List (M D)}
/-- a method of a list that only reads -/
def MeS (K : PySem.W.Frag) (r : V → List V → Hp → VK → Prop) (f : List D → List D → M D) : Prop :=
  ∀ W H a us xs vs ds Q (E : Exn → Prop), WOk W H → W.P a = some (.lst us) → Reps K W us xs → Reps K W vs ds → (f xs ds).run (Post K Q W H) E → r (.ref a) vs H Q
theorem se_met {r : V → List V → Hp → VK → Prop} {f : List D → List D → M D} (hf : MeS S.K r f) (h : SE S to ρ ro) (h2 : SA S ta ρ rs) : SE S (tBM S.K "list" r to ta) ρ (lstMet f ro rs) := fun σ H W H0 Q e w q => by
  refine h.go e w q (fun _ z => z) fun d v W1 H1 q1 s1 r1 e1 => ?_
  cases r1 with
  | @lst a us xs hx rx =>
    refine ⟨.inl ⟨rfl, us, .inl (.inl (s1.ok.sub _ _ hx))⟩, ?_⟩
    refine h2.go e1 s1.ok q1 (fun _ z => z.after w s1) fun ds vs W2 H2 q2 s2 r2 e2 => ?_
    exact hf W2 H2 a us xs vs ds Q _ s2.ok (s2.le.p _ _ hx) (rx.mono s2.le) r2 ((f xs ds).mono (fun _ z => z.after w (s1.trans w s2)) (fun _ z => z) q2)
  | _ => exact (show False from q1).elim
theorem me_count {K : PySem.W.Frag} : MeS K (rCntI K) cntL := by
  intro W H a us xs vs ds Q E w ha rx rs h
  match ds, rs, h with
  | [d], rs, h =>
    obtain ⟨v, rfl, r⟩ := rs.of1
    cases r with
    | int k =>
      obtain ⟨ns, e, q⟩ := ofO_run h
      exact ⟨a, ns, k, rfl, rfl, by rw [← ints_rep rx e]; exact .inl (.inl (w.sub _ _ ha)), post_here w q (.int _)⟩
    | _ => exact (show False from h).elim
  | [], _, h => exact (show False from h).elim
  | d :: e :: t, _, h => cases d <;> exact (show False from h).elim
end
end Ev

namespace Ev
open PySem PySem.Spec L2
variable [Tb]
/-! ### enumerate of a tuple -/
def ItE (K : PySem.W.Frag) (a : Addr) : It :=
  ⟨fun i H => ∃ (zs : List V) (z : V), SqT K H a zs ∧ zs[i]? = some z, fun i H v H' => ∃ T z ob, v = .ref T ∧ H T = none ∧ ob.dict = none ∧ H' = upd H T (.frz ob (.tup [.int (i : Nat), z])) ∧ ∀ zs, SqT K H a zs → zs[i]? = some z, fun i H => ∃ zs : List V, SqT K H a zs ∧ zs.length = i⟩
def ItL (K : PySem.W.Frag) (a : Addr) : It :=
  ⟨fun i H => ∃ (zs : List V) (z : V), SqL K H a zs ∧ zs[i]? = some z, fun i H v H' => ∃ T z ob, v = .ref T ∧ H T = none ∧ ob.dict = none ∧ H' = upd H T (.frz ob (.tup [.int (i : Nat), z])) ∧ ∀ zs, SqL K H a zs → zs[i]? = some z, fun i H => ∃ zs : List V, SqL K H a zs ∧ zs.length ≤ i⟩
set_option maxHeartbeats 1000000 in
theorem meets_enumT (t : Addr) (items : Array Value) :
    Meets (Builtin.«enumerate.__new__» ⟨[.type "enumerate", .ref t], []⟩) (fun _ R s0 => s0.heap.IsTuple t items ∧
      R (.ok (.ret (.ref (s0.heap.push { cls := .type "tuple_iterator", data := .fields #[.ref t, .int 0 0] }).objs.size))) { s0 with heap := (s0.heap.push { cls := .type "tuple_iterator", data := .fields #[.ref t, .int 0 0] }).push { cls := .type "enumerate", data := .fields #[.none, .bool false, .ref s0.heap.objs.size, rawInt 0, .none, .none] } }) :=
  .of_wp fun pr w1 A1 R1 s1 hh1 => by
    obtain ⟨hq, g1, d1, tk1, os1⟩ := s1
    obtain ⟨ht1, hh1⟩ := hh1
    have hsub1 := sub_enumerate
    have qq : ∀ {A' : Around} {E : Value → Shared → Prop} {Q : Value → Shared → Prop}, Q (.ref hq.objs.size) ⟨hq.push { cls := .type "tuple_iterator", data := .fields #[.ref t, .int 0 0] }, g1, d1, tk1, os1⟩ → wpAny (model pr w1) A' (pyIter (.ref t)) Q E ⟨hq, g1, d1, tk1, os1⟩ :=
      fun q1 => wpAny_pyIter_tuple (s := ⟨hq, g1, d1, tk1, os1⟩) ht1 q1
    wp_walk using qq
    refine wpAny_stack_any fun st1 => wpAny_pure ?_
    split
    · rename_i c1 _ _ _ _ _
      cases (c1 == Value.type "enumerate")
      · wp_walk using qq
        exact ⟨_, rfl, hh1⟩
      · wp_walk using qq
        exact ⟨_, rfl, hh1⟩
    · wp_walk using qq
      exact ⟨_, rfl, hh1⟩
section
variable {prog : Program} {w : World} {A : Around} {E : Value → Shared → Prop} {s : Shared}
theorem call_enumT {t : Addr} {items : Array Value} {Q : Value → Shared → Prop} (hT : s.heap.IsTuple t items)
    (hQ : ∀ h1, IsEnum h1 (s.heap.objs.size + 1) s.heap.objs.size 0 .none → h1.IsTupleIter s.heap.objs.size t 0 → (∀ b o, s.heap.get? b = some o → h1.get? b = some o) → Q (.ref (s.heap.objs.size + 1)) { s with heap := h1 }) :
    wpAny (model prog w) A (call (.type "enumerate") [.ref t]) Q E s := by
  refine callType_new F.called_enumerate (by decide) (F.typeCall_enumerate_1 _) (F.newCall_enumerate_1 _) (fun ob => F.args_object_init_2 ob _) F.entry_enumerate_new (meets_enumT t items) ⟨hT, ?_⟩
  have zz : (s.heap.push { cls := .type "tuple_iterator", data := .fields #[.ref t, .int 0 0] }).objs.size = s.heap.objs.size + 1 := Heap.size_push ..
  show _ ∧ _
  rw [zz]
  have he : IsEnum ((s.heap.push { cls := .type "tuple_iterator", data := .fields #[.ref t, .int 0 0] }).push { cls := .type "enumerate", data := .fields #[.none, .bool false, .ref s.heap.objs.size, rawInt 0, .none, .none] }) (s.heap.objs.size + 1) s.heap.objs.size 0 .none := by
    have e1 := Heap.get?_push_size (s.heap.push { cls := .type "tuple_iterator", data := .fields #[.ref t, .int 0 0] }) (o := { cls := .type "enumerate", data := .fields #[.none, .bool false, .ref s.heap.objs.size, rawInt 0, .none, .none] }) rfl
    rw [zz] at e1
    exact e1
  exact ⟨⟨_, he, rfl⟩, hQ _ he ⟨_, Heap.get?_push_of_some _ (Heap.get?_push_size _ rfl), rfl, rfl⟩ fun b o e => Heap.get?_push_of_some _ (Heap.get?_push_of_some _ e)⟩
end
theorem tup_ne {h : Heap} {a it : Addr} {items : Array Value} {i : Nat} (p : h.IsTuple a items) (q : h.IsTupleIter it a i) : a ≠ it := fun e => by
  subst e
  obtain ⟨o1, g1, c1, _⟩ := p
  obtain ⟨o2, g2, c2, _⟩ := q
  rw [g1] at g2
  cases g2
  rw [c1] at c2
  exact absurd (Value.type.inj c2) (by decide)
theorem tup_ne2 {h : Heap} {a e it : Addr} {items : Array Value} {i : Int} {v : Value} (p : h.IsTuple a items) (q : IsEnum h e it i v) : e ≠ a := fun z => by
  subst z
  obtain ⟨o1, g1, c1, _⟩ := p
  rw [show h.get? e = _ from q] at g1
  cases g1
  exact absurd (Value.type.inj c1) (by decide)
theorem turn_enumT {P : Program} {w : World} {K : PySem.W.Frag} {elts : List Expr} {kk : Nat} {tpos : Pos} (a e it : Addr) :
    Turn P w K (.Tuple elts kk tpos) (ItE K a) [e, it] e (fun i h => (∃ old, IsEnum h e it ((i : Nat) : Int) old) ∧ h.IsTupleIter it a i ∧ e ≠ it) where
  mem := by simp
  obj := fun i h st b hb => by
    obtain ⟨⟨old, he⟩, ⟨o, ho, hc, hd⟩, _⟩ := st
    have e' : b = e ∨ b = it := by simpa using hb
    rcases e' with z | z
    · subst z; exact ⟨_, he, fun v q => nomatch q⟩
    · subst z; exact ⟨o, ho, fun v q => by rw [hd] at q; cases q⟩
  keep := fun i h h' st k => ⟨st.1.imp fun old he => k e (by simp) _ he, st.2.1.at fun o q => k it (by simp) o q, st.2.2⟩
  item := by
    intro X hP hw hK hc i pins s σ H E I hf st hg
    subst hP hw hK
    obtain ⟨⟨old, he⟩, hit, hne⟩ := st
    obtain ⟨zs, z, hq, hz⟩ := hg
    obtain ⟨its, rv, p, hl⟩ := I.tuple hq
    have p' : s.heap.IsTuple a its.toArray := p
    obtain ⟨u, hu, ru⟩ := rv.get hz
    have hel : e < s.heap.objs.size := Heap.lt_size he
    have hil : it < s.heap.objs.size := by obtain ⟨_, q, _⟩ := hit; exact Heap.lt_size q
    have hea := tup_ne2 p' he
    have hai := tup_ne p' hit
    have hi : i < its.toArray.size := by
      rw [List.size_toArray]
      exact (List.getElem?_eq_some_iff.mp hu).1
    refine wpAny_pyNext_enum_itemD (Draws.tuple (by exact I.ok.hd hc) it a hai its.toArray) he ⟨hit, p'⟩ hi hne (by simp [hne, hea]) fun x h1 tk hx ho hst hT hsz hk => ?_
    have hxu : x = u := by
      have e1 : its.toArray[i]? = some u := by simpa using hu
      rw [e1] at hx
      exact (Option.some.inj hx).symm
    subst hxu
    refine ⟨_, rfl, wpAny_letOwnedTupleGo_enum (s := { s with heap := h1, toks := tk + 1 }) ho fun h2 he2 sb => ?_⟩
    have hT2 : h2.get? s.heap.objs.size = some { cls := .type "tuple", data := .seq #[.int i tk, x] } := (sb.2 _ (Nat.ne_of_gt hel)).trans hT
    have nw : ObjOk X.prog X.w (upd H s.heap.objs.size (.frz { cls := .type "tuple", data := .seq #[.int i tk, x] } (.tup [.int (i : Nat), z]))) h2 s.heap.objs.size (.frz { cls := .type "tuple", data := .seq #[.int i tk, x] } (.tup [.int (i : Nat), z])) :=
      ⟨hT2, by show 2 ≤ sizeLine; decide, [.int i tk, x], .cons ⟨_, rfl⟩ (.cons ru .nil), ⟨_, hT2, rfl, _, rfl⟩⟩
    have I1 : L2.Inv X pins σ (upd H s.heap.objs.size (.frz { cls := .type "tuple", data := .seq #[.int i tk, x] } (.tup [.int (i : Nat), z]))) { s with heap := h2, toks := tk + 1 } :=
      I.turnedNew (t' := tk + 1) (ch := [e, it]) (fun b ob hb q => (sb.2 b (fun z => hb (by simp [z]))).trans (hk b ob (fun z => hb (by simp [z])) (fun z => hb (by simp [z])) q)) hf (Nat.le_refl _) nw
    refine ⟨.ref s.heap.objs.size, _, I1, rfl, ⟨_, z, _, rfl, I.hok.fresh (Nat.le_refl _), rfl, rfl, fun ys hy => by rw [I.tuple_inj hy hq]; exact hz⟩, ⟨⟨x, ?_⟩, hst.1.at fun o q => (sb.2 it (Ne.symm hne)).trans q, hne⟩, fun b hb => ?_⟩
    · rw [show ((i + 1 : Nat) : Int) = (i : Int) + 1 by omega]
      exact he2
    · have hb' : b < s.heap.objs.size := by
        have e' : b = e ∨ b = it := by simpa using hb
        rcases e' with z | z
        · subst z; exact hel
        · subst z; exact hil
      rw [upd_ne (Nat.ne_of_lt hb')]
      exact (hf b hb).1
  done := by
    intro X hP hw hK hc i pins s σ H E I hf st hg
    subst hP hw hK
    obtain ⟨⟨old, he⟩, hit, hne⟩ := st
    obtain ⟨zs, hq, hz⟩ := hg
    obtain ⟨its, rv, p, hl⟩ := I.tuple hq
    have p' : s.heap.IsTuple a its.toArray := p
    obtain ⟨f0, f1, f2, f3, f4, f5⟩ := hf it (by simp)
    have hlen := rv.length
    have hai := tup_ne p' hit
    obtain rfl : its.toArray.size = i := by rw [List.size_toArray]; omega
    exact wpAny_pyNext_enum_endD (Draws.tuple (by exact I.ok.hd hc) it a hai its.toArray) he ⟨hit, p'⟩ fun h1 eb => ⟨rfl, I.turned (t' := s.toks) (fun b o hb q => eb b o hb q) f0 f1 f3 f4 f5⟩
  self := fun A i s Q E st h => let ⟨⟨_, he⟩, _⟩ := st; wpAny_pyIter_enum he h
theorem turn_enumL {P : Program} {w : World} {K : PySem.W.Frag} {elts : List Expr} {kk : Nat} {tpos : Pos} (a e it : Addr) :
    Turn P w K (.Tuple elts kk tpos) (ItL K a) [e, it] e (fun i h => (∃ old, IsEnum h e it ((i : Nat) : Int) old) ∧ h.IsListIter it a i ∧ e ≠ it) where
  mem := by simp
  obj := fun i h st b hb => by
    obtain ⟨⟨_, h1⟩, ⟨ob, h2, _, h3⟩, _⟩ := st
    have e' : b = e ∨ b = it := by simpa using hb
    rcases e' with rfl | rfl
    · exact ⟨_, h1, fun v q => nomatch q⟩
    · exact ⟨ob, h2, fun v q => by rw [h3] at q; cases q⟩
  keep := fun i h h' st k => ⟨st.1.imp fun old he => k e (by simp) _ he, st.2.1.at fun o q => k it (by simp) o q, st.2.2⟩
  item := by
    intro X hP hw hK hc i pins s σ H E I hf st hg
    subst hP hw hK
    obtain ⟨⟨old, he⟩, hit, hne⟩ := st
    obtain ⟨zs, z, hq, hz⟩ := hg
    obtain ⟨iv, rv, pl, _⟩ := I.list hq
    obtain ⟨x, hx, ru⟩ := rv.get hz
    have le : e < s.heap.objs.size := Heap.lt_size he
    have li : it < s.heap.objs.size := by obtain ⟨_, q, _⟩ := hit; exact Heap.lt_size q
    refine wpAny_pyNext_enum_item he hit pl.isList (x := x) (by simpa using hx) hne fun h1 ho st1 hT hsz hk => ?_
    refine ⟨_, rfl, wpAny_letOwnedTupleGo_enum (s := { s with heap := h1, toks := s.toks + 1 }) ho fun h2 he2 sb => ?_⟩
    have hT2 : h2.get? s.heap.objs.size = some { cls := .type "tuple", data := .seq #[.int i s.toks, x] } := (sb.2 _ (Nat.ne_of_gt le)).trans hT
    have nw : ObjOk X.prog X.w (upd H s.heap.objs.size (.frz { cls := .type "tuple", data := .seq #[.int i s.toks, x] } (.tup [.int (i : Nat), z]))) h2 s.heap.objs.size (.frz { cls := .type "tuple", data := .seq #[.int i s.toks, x] } (.tup [.int (i : Nat), z])) :=
      ⟨hT2, by show 2 ≤ sizeLine; decide, [.int i s.toks, x], .cons ⟨_, rfl⟩ (.cons ru .nil), ⟨_, hT2, rfl, _, rfl⟩⟩
    have I1 : L2.Inv X pins σ (upd H s.heap.objs.size (.frz { cls := .type "tuple", data := .seq #[.int i s.toks, x] } (.tup [.int (i : Nat), z]))) { s with heap := h2, toks := s.toks + 1 } :=
      I.turnedNew (t' := s.toks + 1) (ch := [e, it]) (fun b ob hb q => (sb.2 b (fun y => hb (by simp [y]))).trans (hk b ob (fun y => hb (by simp [y])) (fun y => hb (by simp [y])) q)) hf (Nat.le_refl _) nw
    refine ⟨.ref s.heap.objs.size, _, I1, rfl, ⟨_, z, _, rfl, I.hok.fresh (Nat.le_refl _), rfl, rfl, fun ys hy => by rw [I.list_inj hy hq]; exact hz⟩, ⟨⟨x, ?_⟩, st1.at fun o q => (sb.2 it (Ne.symm hne)).trans q, hne⟩, fun b hb => ?_⟩
    · rw [show ((i + 1 : Nat) : Int) = (i : Int) + 1 by omega]
      exact he2
    · have lb : b < s.heap.objs.size := by
        have e' : b = e ∨ b = it := by simpa using hb
        rcases e' with rfl | rfl
        · exact le
        · exact li
      rw [upd_ne (Nat.ne_of_lt lb)]
      exact (hf b hb).1
  done := by
    intro X hP hw hK hc i pins s σ H E I hf st hg
    subst hP hw hK
    obtain ⟨⟨old, he⟩, hit, hne⟩ := st
    obtain ⟨zs, hq, hz⟩ := hg
    obtain ⟨iv, rv, pl, _⟩ := I.list hq
    obtain ⟨f0, f1, _, f3, f4, f5⟩ := hf it (by simp)
    have el := rv.length
    exact wpAny_pyNext_enum_end (I.ok.hd hc) he hit pl.isList (by simp; omega) fun h1 eb => ⟨rfl, I.turned (t' := s.toks) (fun b o hb q => eb b o hb q) f0 f1 f3 f4 f5⟩
  self := fun A i s Q E st h => let ⟨⟨_, he⟩, _⟩ := st; wpAny_pyIter_enum he h
def iEnumA (K : PySem.W.Frag) (ta : TA) : TI := fun σ H R => ta σ H fun vs H1 => ∃ a, vs = [.ref a] ∧ ((∃ zs, SqL K H1 a zs) ∧ R (ItL K a) H1 ∨ (∃ zs, SqT K H1 a zs) ∧ R (ItE K a) H1)
theorem pi_enumA {X : Cx} {K : PySem.W.Frag} {e : Expr} {ta : TA} {p pos tpos : Pos} {elts : List Expr} {kk : Nat} (hK : X.K = K) (hg : Gl X "enumerate") (hm : X.mg "enumerate" = none) (ha : PA X [e] ta) (hs : starEach [e] X.env = [(false, eval e X.env)] := by rfl) :
    PI X (.Tuple elts kk tpos) (.Call (.Name "enumerate" p) [e] [] pos) (iEnumA K ta) := by
  subst hK
  constructor
  intro pins s σ H R I h
  refine PyProof.Rows.Call_ (ld_blt I hg hm bt_enumerate (PyProof.Rows.callWith_type1 (thn (ha.run pos pins s σ H _ I h) fun us s1 ⟨vs, H1, I1, r1, q1⟩ => ?_) hs rfl))
  obtain ⟨a, rfl, q⟩ := q1
  cases r1 with
  | cons r rr =>
    cases rr
    cases r
    have two : ∀ b, b ∈ [s1.heap.objs.size + 1, s1.heap.objs.size] → FpOk X pins H1 b := fun b hb => by
      have e' : b = s1.heap.objs.size + 1 ∨ b = s1.heap.objs.size := by simpa using hb
      have hle : s1.heap.objs.size ≤ b := by
        rcases e' with z | z
        · subst z; exact Nat.le_succ _
        · subst z; exact Nat.le_refl _
      exact I1.fpOk hle (I1.hok.fresh hle)
    rcases q with ⟨⟨zs, hq⟩, q⟩ | ⟨⟨zs, hq⟩, q⟩
    · obtain ⟨its, rv, p1, _⟩ := I1.list hq
      refine call_enumerate_list p1.isList fun h1 he hit hsz hk => wpAny_pyIter_enum he ?_
      exact ⟨s1.heap.objs.size + 1, [s1.heap.objs.size + 1, s1.heap.objs.size], _, _, H1, rfl, I1.kept (t' := s1.toks) hk, turn_enumL a (s1.heap.objs.size + 1) s1.heap.objs.size, ⟨⟨.none, he⟩, hit, Nat.succ_ne_self _⟩, two, q⟩
    · obtain ⟨its, rv, p1, _⟩ := I1.tuple hq
      refine call_enumT (show s1.heap.IsTuple a its.toArray from p1) fun h1 he hit hk => wpAny_pyIter_enum he ?_
      exact ⟨s1.heap.objs.size + 1, [s1.heap.objs.size + 1, s1.heap.objs.size], _, _, H1, rfl, I1.kept (t' := s1.toks) hk, turn_enumT a (s1.heap.objs.size + 1) s1.heap.objs.size, ⟨⟨.none, he⟩, hit, Nat.succ_ne_self _⟩, two, q⟩
section
variable {K : PySem.W.Frag} {W : Wd}
theorem walks_enumL {a : Addr} {vs : List V} {ds : List D} (h : SqL K W.P a vs) (r : Reps K W vs ds) : Walks K W (ItL K a) (enumL ds) where
  stop := fun W' H' l w => ⟨vs, w.sqL (l.sqL h), by rw [enumL_len, r.length]; exact Nat.le_refl _⟩
  go := fun i W' H' l w hi => by
    have hv : i < vs.length := by rw [r.length, ← enumL_len]; exact hi
    exact ⟨vs, vs[i], w.sqL (l.sqL h), List.getElem?_eq_getElem hv⟩
  yld := fun i x W' H' v H'' l w hx y => by
    obtain ⟨T, z, ob, rfl, hT, ho, rfl, hy⟩ := y
    obtain ⟨d, hd, rfl⟩ := enumL_get hx
    obtain ⟨u, e, ru⟩ := r.get hd
    have e2 := hy vs (w.sqL (l.sqL h))
    rw [e] at e2
    cases e2
    exact ⟨_, Step.dat w hT, .tup (.inl ⟨ob, upd_same, ho⟩) (.cons (.int _) (.cons (ru.mono (l.trans (Step.dat w hT).le)) .nil))⟩
theorem walks_enumT {a : Addr} {vs : List V} {ds : List D} (h : BqT K W.P a vs) (r : Reps K W vs ds) : Walks K W (ItE K a) (enumL ds) where
  stop := fun W' H' l w => ⟨vs, w.sqT (l.bqT h), by rw [enumL_len, r.length]⟩
  go := fun i W' H' l w hi => by
    have hv : i < vs.length := by rw [r.length, ← enumL_len]; exact hi
    exact ⟨vs, vs[i], w.sqT (l.bqT h), List.getElem?_eq_getElem hv⟩
  yld := fun i x W' H' v H'' l w hx y => by
    obtain ⟨T, z, ob, rfl, hT, ho, rfl, hy⟩ := y
    obtain ⟨d, hd, rfl⟩ := enumL_get hx
    obtain ⟨u, e, ru⟩ := r.get hd
    have e2 := hy vs (w.sqT (l.bqT h))
    rw [e] at e2
    cases e2
    exact ⟨_, Step.dat w hT, .tup (.inl ⟨ob, upd_same, ho⟩) (.cons (.int _) (.cons (ru.mono (l.trans (Step.dat w hT).le)) .nil))⟩
end
section
variable {S : Sx} {ρ : List Sl} {ra : M D} {ta : TE}
theorem si_enum (h : SE S ta ρ ra) : SI S (iEnumA S.K (tCons ta tNil)) ρ (enumM ra) := fun σ H W H0 R e w q => by
  refine h.go e w q (fun _ z => z) fun d v W1 H1 q1 s1 r1 e1 => ?_
  cases r1 with
  | @tup a vs ds hx r => exact ⟨a, rfl, .inr ⟨⟨vs, s1.ok.sqT hx⟩, q1 _ W1 H1 s1 (walks_enumT hx r)⟩⟩
  | @lst a vs ds hx r => exact ⟨a, rfl, .inl ⟨⟨vs, .inl (.inl (s1.ok.sub _ _ hx))⟩, q1 _ W1 H1 s1 (walks_enumL (.inl (.inl hx)) r)⟩⟩
  | _ => exact (show False from q1).elim
end
/-! ### sorted, of tuples of numbers -/
/-- a tuple of numbers in a heap -/
def IsNums (h : Heap) (v : Value) (ns : List Int) : Prop := ∃ a o its n, v = .ref a ∧ h.get? a = some o ∧ o.cls = .type "tuple" ∧ o.data = .seq its n ∧ PyProof.Rows.IntsAre its.toList ns
theorem IsNums.keeps {h h' : Heap} {v : Value} {ns : List Int} (p : IsNums h v ns) (k : ∀ b o, h.get? b = some o → o.cls = .type "tuple" → h'.get? b = some o) : IsNums h' v ns := by
  obtain ⟨a, o, its, n, e, ho, hc, hd, hi⟩ := p
  exact ⟨a, o, its, n, e, k a o ho hc, hc, hd, hi⟩
section
variable {prog : Program} {w : World} {A : Around} {E : Value → Shared → Prop} {s : Shared}
theorem lex_walk : ∀ {xs ys : List Value} {ns ms : List Int} (i : Nat) {r : Bool}, PyProof.Rows.IntsAre xs ns → PyProof.Rows.IntsAre ys ms → r = lexI ns ms →
    PySem.W.KatLex prog w A true (decide (xs.length < ys.length)) (fun b s' => s' = s ∧ b = r) (xs.zip ys) i s
  | _, _, _, _, i, r, .nil, .nil, e => by subst e; exact PySem.W.kat_nil ⟨rfl, rfl⟩
  | _, _, _, _, i, r, .nil, .cons m u k, e => by subst e; exact PySem.W.kat_nil ⟨rfl, by simp [lexI]⟩
  | _, _, _, _, i, r, .cons m u k, .nil, e => by subst e; exact PySem.W.kat_nil ⟨rfl, by simp [lexI]⟩
  | _, _, _, _, i, r, .cons (vs := xs) x t h, .cons (vs := ys) y u k, e => by
    rw [List.zip_cons_cons]
    refine PySem.W.kat_cons (SeqAt.EqAt.int_int x t y u prog w _ _ ?_)
    refine PySem.W.kat_go (fun e1 => ?_) (fun e1 => ?_)
    · have ex : x = y := by simpa using e1
      rw [lexI, if_pos ex] at e
      have h1 := lex_walk (i + 1) h k e
      rw [List.length_cons, List.length_cons, show decide (xs.length + 1 < ys.length + 1) = decide (xs.length < ys.length) from by rw [Bool.eq_iff_iff]; simp]
      exact PySem.W.kat_yes h1
    · have ex : ¬ x = y := by simpa using e1
      rw [lexI, if_neg ex] at e
      exact PySem.W.kat_no (TS.oneLt_ints _ ⟨rfl, e.symm⟩)
theorem nums_cmp {vs : List Value} {k : Value → List Int} (hp : ∀ v ∈ vs, IsNums s.heap v (k v)) : SrtO.Cmp prog w A s (PyProof.Rows.tuples' true) (fun p => p.1 ∈ vs) (SrtO.lt2 fun v u => lexI (k v) (k u)) := by
  intro p q hm hm'
  obtain ⟨a, o, its, n, e, ho, hc, hd, hi⟩ := hp _ hm
  obtain ⟨a', o', its', n', e', ho', hc', hd', hi'⟩ := hp _ hm'
  show wpAny (model prog w) A (PyProof.Rows.keyLt' (PyProof.Rows.tuples' true) p.1 q.1) (fun r s' => s' = s ∧ r = lexI (k p.1) (k q.1)) (fun _ _ => False) s
  generalize k p.1 = ns at hi ⊢
  generalize k q.1 = ms at hi' ⊢
  rw [e, e']
  refine PySem.W.kat_lt ho hd ho' hd' ?_
  have := lex_walk (prog := prog) (w := w) (A := A) (s := s) 0 hi hi' rfl
  rwa [Array.length_toList, Array.length_toList] at this
theorem nums_firsts {h : Heap} {k : Value → List Int} : ∀ {vs : List Value}, (∀ v ∈ vs, IsNums h v (k v) ∧ k v ≠ []) → ∃ fs : List Value, PySem.W.KatTups h vs fs ∧ fs.length = vs.length ∧ ∀ f ∈ fs, ∃ x t, f = Value.int x t
  | [], _ => ⟨[], PySem.W.KatTups.nil, rfl, fun _ hm => by simp at hm⟩
  | v :: vs, hp => by
    obtain ⟨fs, h1, h2, h3⟩ := nums_firsts (vs := vs) fun v' hm => hp v' (List.mem_cons_of_mem _ hm)
    obtain ⟨⟨a, o, its, n, e, ho, hc, hd, hi⟩, hne⟩ := hp v (List.mem_cons_self ..)
    obtain ⟨its⟩ := its
    generalize k v = ns at hi hne
    cases hi with
    | nil => exact absurd rfl hne
    | cons x t r =>
      subst e
      exact ⟨.int x t :: fs, PySem.W.KatTups.cons ho hc hd rfl h1, by rw [List.length_cons, List.length_cons, h2], fun f hm => (List.mem_cons.mp hm).elim (fun e => ⟨x, t, e⟩) (h3 f)⟩
theorem nums_sortable {a : Addr} {vs : List Value} {k : Value → List Int} (h0 : 0 < vs.length) (hp : ∀ v ∈ vs, IsNums s.heap v (k v) ∧ k v ≠ []) (ha : ∀ o, s.heap.get? a = some o → o.cls ≠ .type "tuple") : SrtO.SortableO prog w A s a vs fun v u => lexI (k v) (k u) := by
  intro h1 keep
  have hp' : ∀ v ∈ vs, IsNums h1 v (k v) ∧ k v ≠ [] := fun v hm => ⟨(hp v hm).1.keeps fun b o e c => keep b o (fun z => ha o (by rw [← z]; exact e) c) e, (hp v hm).2⟩
  obtain ⟨fs, g1, g2, g3⟩ := nums_firsts hp'
  refine ⟨PyProof.Rows.tuples' true, fun Q E hq => ?_, nums_cmp fun v hm => (hp' v hm).1⟩
  refine PySem.W.kat_kind (T := .type "int") g1 (by omega) (fun f hm => ?_) rfl ?_
  · obtain ⟨x, t, rfl⟩ := g3 f hm
    exact PySem.W.Looks.now
  · rw [show (Value.type "int" != Value.type "tuple") = true from by decide +kernel]
    exact hq
end
theorem lexK_swo {α : Type} (k : α → List Int) : SrtO.Swo fun v u => lexI (k v) (k u) := ⟨fun _ _ h => lexI_asym _ _ h, fun _ _ _ h1 h2 => lexI_tr _ _ _ h1 h2⟩
inductive AlR (R : V → List Int → Prop) : List V → List (List Int) → Prop
  | nil : AlR R [] []
  | cons {x : V} {l : List Int} {xs : List V} {ls : List (List Int)} : R x l → AlR R xs ls → AlR R (x :: xs) (l :: ls)
theorem AlR.of_map {R : V → List Int → Prop} {k : V → List Int} : ∀ {xs : List V}, (∀ x ∈ xs, R x (k x)) → AlR R xs (xs.map k)
  | [], _ => .nil
  | x :: xs, h => .cons (h x (List.mem_cons_self ..)) (AlR.of_map fun y hy => h y (List.mem_cons_of_mem _ hy))
theorem AlR.to_map {R : V → List Int → Prop} {k : V → List Int} (hk : ∀ x l, R x l → k x = l) : ∀ {xs : List V} {ls : List (List Int)}, AlR R xs ls → xs.map k = ls ∧ ∀ x ∈ xs, R x (k x)
  | _, _, .nil => ⟨rfl, fun _ h => by cases h⟩
  | _, _, .cons h r => by
    obtain ⟨e, g⟩ := AlR.to_map hk r
    have e1 := hk _ _ h
    refine ⟨by rw [List.map_cons, e1, e], fun x hx => ?_⟩
    rcases List.mem_cons.mp hx with rfl | hx
    · rw [e1]; exact h
    · exact g x hx
def rSortN (K : PySem.W.Frag) : List V → Hp → VK → Prop := fun vs H Q => ∃ (a : Addr) (xs : List V) (ls : List (List Int)) (R : V → List Int → Prop), vs = [V.ref a] ∧ SqL K H a xs ∧ AlR R xs ls ∧ (∀ x l, R x l → ∃ t, x = V.ref t ∧ SqT K H t (l.map V.int)) ∧ (ls.length < 2 ∨ ∀ l ∈ ls, l ≠ []) ∧
  ∀ ys p, AlR R ys (sortI ls) → H p = none → Q (.ref p) (upd H p (.lst ys))
theorem int_map_inj : ∀ {a b : List Int}, a.map V.int = b.map V.int → a = b
  | [], [], _ => rfl
  | [], _ :: _, h => by cases h
  | _ :: _, [], h => by cases h
  | x :: a, y :: b, h => by
    rw [List.map_cons, List.map_cons] at h
    obtain ⟨h1, h2⟩ := List.cons.inj h
    rw [V.int.inj h1, int_map_inj h2]
open Classical in
theorem call_sortK {X : Cx} {K : PySem.W.Frag} (hK : X.K = K) : CallR X (.builtin "sorted") (rSortN K) := by
  subst hK
  intro pins s σ H vs us Q I r h
  obtain ⟨a, xs, ls, R, rfl, hs, hal, hR, hne, q⟩ := h
  obtain ⟨its, rv, hl, hz⟩ := I.list hs
  obtain ⟨u, rfl, ru⟩ := vals1 r
  obtain rfl : u = Value.ref a := ru
  let k : V → List Int := fun v => if z : ∃ l, R v l then Classical.choose z else []
  have hk : ∀ x l, R x l → k x = l := fun x l h => by
    have z : ∃ l, R x l := ⟨l, h⟩
    have e : k x = Classical.choose z := dif_pos z
    obtain ⟨t, e1, h1⟩ := hR x l h
    obtain ⟨t', e2, h2⟩ := hR x _ (Classical.choose_spec z)
    rw [e1] at e2
    cases e2
    rw [e]
    exact int_map_inj (I.tuple_inj h2 h1)
  obtain ⟨ek, hx⟩ := hal.to_map hk
  obtain ⟨e1, e2⟩ := refs_back rv fun x m => (hR x _ (hx x m)).imp fun t z => z.1
  have hN : 2 ≤ its.length → ∀ v ∈ its, IsNums s.heap v (k (backV v)) ∧ k (backV v) ≠ [] := fun h2 v hv => by
    have hne : ∀ l ∈ ls, l ≠ [] := hne.elim (fun h => by rw [← ek, List.length_map, rv.length] at h; omega) id
    obtain ⟨t, rfl⟩ := e2 v hv
    have hm : V.ref t ∈ xs := by rw [e1]; exact List.mem_map.mpr ⟨_, hv, rfl⟩
    obtain ⟨t', e, ht⟩ := hR _ _ (hx _ hm)
    cases e
    obtain ⟨us, r2, ⟨o, ho, hc, n, hd⟩, _⟩ := I.tuple ht
    exact ⟨⟨t, o, us.toArray, n, rfl, ho, hc, hd, r2.ints⟩, hne _ (by rw [← ek]; exact List.mem_map.mpr ⟨_, hm, rfl⟩)⟩
  refine SrtO.sorted_ord (lexK_swo fun u => k (backV u)) hl.isList (by rw [← rv.length]; exact hz) (fun h2 h₁ a' ha kk => ?_) fun out h1 h2 => ?_
  · refine nums_sortable (s := { s with heap := h₁ }) (by omega) (fun v hm => ⟨(hN h2 v hm).1.keeps fun b o e _ => (kk b o e).2, (hN h2 v hm).2⟩) fun o e => ?_
    have e' : some o = some _ := e.symm.trans ha
    cases e'
    exact fun c => absurd (Value.type.inj c) (by decide)
  · obtain ⟨ep, he'⟩ := PyProof.Rows.sortedAll_at s.heap its out.toArray
    have h3 : ∀ u ∈ out, ∃ a, u = Value.ref a := fun u hu => e2 u (h2.perm.mem_iff.mp hu)
    have hp : (out.map backV).Perm xs := by rw [e1]; exact h2.perm.map backV
    have hs2 : (out.map backV).map k = sortI ls := by
      refine sortI_eq ?_ (by rw [← ek]; exact hp.map k)
      rw [List.map_map]
      exact List.pairwise_map.mpr h1
    refine ⟨.ref _, upd H (s.heap.objs.size + 1) (.lst (out.map backV)), I.laid (t' := s.toks) (fun _ _ => PyProof.Rows.sortedAll_old) (Nat.le_succ _) ⟨by rw [hp.length_eq]; exact hz, out, ep, vals_back h3, he'⟩, rfl, q _ _ ?_ (I.hok.fresh (Nat.le_succ _))⟩
    rw [← hs2]
    exact AlR.of_map fun y hy => hx y (hp.mem_iff.mp hy)
section
variable {K : PySem.W.Frag} {W : Wd}
theorem nums_rep : ∀ {vs : List V} {ds : List D} {ls : List (List Int)}, Reps K W vs ds → numsL ds = some ls → AlR (fun x l => Rep K W x (.tup (l.map D.int))) vs ls
  | _, _, ls, .nil, e => by
    cases e
    exact .nil
  | _, _, ls, .cons (d := d) (ds := ds) h r, e => by
    rw [numsL, Option.bind_eq_some_iff] at e
    obtain ⟨a, e1, e2⟩ := e
    rw [Option.map_eq_some_iff] at e2
    obtain ⟨t, e3, rfl⟩ := e2
    refine .cons ?_ (nums_rep r e3)
    cases d with
    | tup xs =>
      have e4 : xs = a.map D.int := by
        have key : ∀ (xs : List D) (a : List Int), intsL xs = some a → xs = a.map D.int := by
          intro xs
          induction xs with
          | nil => intro a h; cases h; rfl
          | cons x xs ih =>
            intro a h
            cases x with
            | int i =>
              rw [intsL, Option.map_eq_some_iff] at h
              obtain ⟨b, hb, rfl⟩ := h
              rw [ih b hb]
              rfl
            | _ => exact absurd h (by simp [intsL])
        exact key xs a e1
      rw [← e4]
      exact h
    | _ => cases e1
theorem ints_out : ∀ {vs : List V} {l : List Int}, Reps K W vs (l.map D.int) → vs = l.map V.int
  | _, [], .nil => rfl
  | _, i :: l, .cons h r => by
    rw [Rep.inj_int h, ints_out r]
    rfl
theorem AlR.reps : ∀ {vs : List V} {ls : List (List Int)}, AlR (fun x l => Rep K W x (.tup (l.map D.int))) vs ls → Reps K W vs (ls.map fun l => .tup (l.map D.int))
  | _, _, .nil => .nil
  | _, _, .cons h r => .cons h (AlR.reps r)
theorem co_sort : CaO K (rSortN K) (fo1 D.sortT) := by
  intro W H vs ds Q E w rs h
  obtain ⟨d, rfl, h⟩ := fo1_run h
  obtain ⟨v, rfl, r⟩ := rs.of1
  cases r with
  | @lst a vs ds hx r =>
    obtain ⟨ls, e, h2⟩ := ofO_run h
    obtain ⟨hne, q⟩ := h2
    refine ⟨a, vs, ls, _, rfl, .inl (.inl (w.sub _ _ hx)), nums_rep r e, fun x l hr => ?_, hne, fun ys p hy hp => post_own w q hy.reps p hp⟩
    cases hr with
    | tup ht hr =>
      rw [ints_out hr] at ht
      exact ⟨_, rfl, w.sqT ht⟩
  | _ => exact (show False from h).elim
end
end Ev

namespace Ev
open PySem PySem.Spec L2
variable [Tb]
/-! ### slices of tuples, with a step -/
section
variable {prog : Program} {w : World} {A : Around} {E : Value → Shared → Prop} {s : Shared}
theorem applied_st {c0 : Addr} {v1 v2 v3 : Value} {lo hi : Option Int} {st : Int} {n : Nat} {Q : Int × Int × Nat → Shared → Prop} (hS : s.heap.IsSliceOf c0 v1 v2 v3) (p1 : IsPart v1 lo) (p2 : IsPart v2 hi) (p3 : IsPart v3 (some st)) (h0 : st ≠ 0)
    (hQ : Q ((Builtin.Slice.sliceAdjust lo hi st n).1, st, Builtin.Slice.slicePlaces (Builtin.Slice.sliceAdjust lo hi st n).1 (Builtin.Slice.sliceAdjust lo hi st n).2 st) s) :
    wpAny (model prog w) A (Builtin.Slice.sliceApplied (.ref c0) (pure (n : Int))) Q E s := by
  obtain ⟨o1, ho1, hc1, hd1⟩ := id hS
  unfold Builtin.Slice.sliceApplied Builtin.Slice.sliceFields
  refine wpAny_bind (wpAny_bind (wpAny_field ho1 hd1 (x := v1) rfl (wpAny_bind (wpAny_field ho1 hd1 (x := v2) rfl (wpAny_bind (wpAny_field ho1 hd1 (x := v3) rfl (wpAny_pure ?_)))))))
  refine wpAny_bind (HT.slicePart_ p3 ?_)
  have hz : ¬ ((st == 0) = true) := by simpa using h0
  show wpAny _ _ (if (st == 0) = true then _ else _) _ _ s
  rw [if_neg hz]
  exact wpAny_bind (HT.slicePart_ p1 (wpAny_bind (HT.slicePart_ p2 (wpAny_bind (wpAny_pure (wpAny_pure hQ))))))
theorem getItem_st {t c0 : Addr} {items : Array Value} {v1 v2 v3 : Value} {lo hi : Option Int} {st : Int} {Q : Value → Shared → Prop} (hT : PyProof.Rows.IsTup s.heap t items) (hS : s.heap.IsSliceOf c0 v1 v2 v3) (p1 : IsPart v1 lo) (p2 : IsPart v2 hi) (p3 : IsPart v3 (some st)) (h0 : st ≠ 0)
    (hl : (stepL items.toList lo hi st).length ≤ sizeLine) (q1 : stepL items.toList lo hi st = items.toList → Q (.ref t) s)
    (q2 : Q (.ref s.heap.objs.size) { s with heap := s.heap.push { cls := .type "tuple", data := .seq (stepL items.toList lo hi st).toArray } }) : wpAny (model prog w) A (getItem (.ref t) (.ref c0)) Q E s := by
  obtain ⟨o1, ho1, hc1, hd1⟩ := id hS
  have hTc : s.TypeIs (.ref c0) "slice" := ⟨o1, ho1, hc1⟩
  unfold getItem
  try with_reducible refine wpAny_holding ?_
  first | refine wpAny_bind (wpAny_pure ?_) | skip
  refine wpAny_bind (wpAny_sequenceKey hT.typeIs (by decide) ?_)
  refine wpAny_bind (wpAny_callSpecial?_slot (name := Str.ofString "__getitem__") hT.typeIs PyProof.Rows.slot_tuple_getitem (wpAny_call_entry PyProof.Rows.slot_tuple_getitem hT.typeIs PyProof.Rows.entry_tuple_getitem ?_ (PyProof.Rows.args_tuple_getitem _ _)))
  show wpAny _ _ (Builtin.Tuple.tupleItemsOf (.ref t) >>= _) _ _ s
  refine wpAny_bind (PyProof.Rows.tupleItemsOf_ hT ?_)
  refine wpAny_bind (wpAny_typeOf hTc ?_)
  rw [if_pos (by decide)]
  refine wpAny_bind (applied_st hS p1 p2 p3 h0 ?_)
  have hsz : items.toList.length = items.size := Array.length_toList
  have hpick : ((List.range (Builtin.Slice.slicePlaces (Builtin.Slice.sliceAdjust lo hi st items.size).1 (Builtin.Slice.sliceAdjust lo hi st items.size).2 st)).filterMap fun (k : Nat) => items[((Builtin.Slice.sliceAdjust lo hi st items.size).1 + (k : Int) * st).toNat]?) = stepL items.toList lo hi st := by
    unfold stepL
    rw [hsz]
    congr 1
    funext k
    exact Array.getElem?_toList.symm
  show wpAny _ _ (if ((Builtin.Slice.sliceAdjust lo hi st items.size).1 == 0 && st == 1 && Builtin.Slice.slicePlaces (Builtin.Slice.sliceAdjust lo hi st items.size).1 (Builtin.Slice.sliceAdjust lo hi st items.size).2 st == items.size) = true then _ else _) _ _ s
  by_cases hw : ((Builtin.Slice.sliceAdjust lo hi st items.size).1 == 0 && st == 1 && Builtin.Slice.slicePlaces (Builtin.Slice.sliceAdjust lo hi st items.size).1 (Builtin.Slice.sliceAdjust lo hi st items.size).2 st == items.size) = true
  · rw [if_pos hw]
    refine wpAny_bind ?_
    show wpAny _ _ (typeOf (.ref t) >>= fun T => pure (T == .type "tuple")) _ _ s
    refine wpAny_bind (wpAny_typeOf hT.typeIs (wpAny_pure ?_))
    have hsame : stepL items.toList lo hi st = items.toList := by
      rw [← hpick]
      rw [Bool.and_eq_true, Bool.and_eq_true] at hw
      have e1 : (Builtin.Slice.sliceAdjust lo hi st items.size).1 = 0 := by simpa using hw.1.1
      have e2 : st = 1 := by simpa using hw.1.2
      have e3 := eq_of_beq hw.2
      rw [e3, e1, e2]
      apply List.ext_getElem?
      intro i
      have key : ∀ n : Nat, n ≤ items.size → (List.range n).filterMap (fun k : Nat => items[((0 : Int) + (k : Int) * 1).toNat]?) = items.toList.take n := by
        intro n
        induction n with
        | zero => intro _; rfl
        | succ n ih =>
          intro hn
          rw [List.range_succ, List.filterMap_append, ih (by omega), List.take_add_one]
          have e5 : items.toList[n]? = some items[n] := by rw [Array.getElem?_toList]; exact Array.getElem?_eq_getElem (by omega)
          have e6 : items[((0 : Int) + (n : Int) * 1).toNat]? = some items[n] := by rw [show ((0 : Int) + (n : Int) * 1).toNat = n by omega]; exact Array.getElem?_eq_getElem (by omega)
          congr 1
          simp only [List.filterMap_cons, e5, e6, List.filterMap_nil]
          rfl
      rw [key _ (Nat.le_refl _), ← hsz, List.take_length]
    first
      | rw [if_pos (by decide)]
      | simp only [beq_self_eq_true, if_true]
    first
      | exact wpAny_bind (wpAny_rule (wpAny_pure ⟨_, rfl, wpAny_pure (q1 hsame)⟩))
      | exact wpAny_bind (wpAny_rule (wpAny_bind (wpAny_pure (wpAny_pure ⟨_, rfl, wpAny_pure (q1 hsame)⟩))))
  · rw [if_neg hw, hpick]
    have hk : sizeOk (.seq (stepL items.toList lo hi st).toArray) := by
      show (stepL items.toList lo hi st).toArray.size ≤ sizeLine
      rw [List.size_toArray]
      exact hl
    first
      | exact wpAny_bind (m := Builtin.Tuple.tupleExact _) (wpAny_newObj_type (wpAny_pure ⟨_, rfl, wpAny_pure q2⟩) hk)
      | exact wpAny_bind (m := Builtin.Tuple.tupleExact _) (wpAny_newObj_type (wpAny_bind (wpAny_pure (wpAny_pure ⟨_, rfl, wpAny_pure q2⟩))) hk)
      | exact wpAny_bind (wpAny_bind (m := Builtin.Tuple.tupleExact _) (wpAny_newObj_type (wpAny_pure (wpAny_pure ⟨_, rfl, wpAny_pure q2⟩)) hk))
      | exact wpAny_bind (wpAny_bind (m := Builtin.Tuple.tupleExact _) (wpAny_newObj_type (wpAny_pure ⟨_, rfl, wpAny_pure q2⟩) hk))
end
def rSlS (K : PySem.W.Frag) : V → Option Int → Option Int → Option Int → Hp → VK → Prop := fun x lo hi so H Q => ∃ a xs st, x = .ref a ∧ so = some st ∧ SqT K H a xs ∧ st ≠ 0 ∧ (stepL xs lo hi st).length ≤ sizeLine ∧
  (stepL xs lo hi st = xs → Q (.ref a) H) ∧ NewT H (stepL xs lo hi st) Q
def tSlS (K : PySem.W.Frag) (te : TE) (tl th ts : TO) : TE := fun σ H Q => te σ H fun x H1 => tl σ H1 fun l H2 => th σ H2 fun h H3 => ts σ H3 fun s H4 => rSlS K x l h s H4 Q
theorem stepL_len {α β : Type} {xs : List α} {ys : List β} (h : xs.length = ys.length) (lo hi : Option Int) (st : Int) : (stepL xs lo hi st).length = (stepL ys lo hi st).length := by
  unfold stepL
  rw [h]
  induction (List.range (PySem.Builtin.Slice.slicePlaces (PySem.Builtin.Slice.sliceAdjust lo hi st ys.length).1 (PySem.Builtin.Slice.sliceAdjust lo hi st ys.length).2 st)) with
  | nil => rfl
  | cons k r ih =>
    rw [List.filterMap_cons, List.filterMap_cons]
    cases c1 : xs[((PySem.Builtin.Slice.sliceAdjust lo hi st ys.length).1 + (k : Int) * st).toNat]? with
    | none =>
      cases c2 : ys[((PySem.Builtin.Slice.sliceAdjust lo hi st ys.length).1 + (k : Int) * st).toNat]? with
      | none => exact ih
      | some b =>
        have := (List.getElem?_eq_some_iff.mp c2).1
        rw [List.getElem?_eq_none_iff] at c1
        omega
    | some a =>
      cases c2 : ys[((PySem.Builtin.Slice.sliceAdjust lo hi st ys.length).1 + (k : Int) * st).toNat]? with
      | none =>
        have := (List.getElem?_eq_some_iff.mp c1).1
        rw [List.getElem?_eq_none_iff] at c2
        omega
      | some b => exact congrArg Nat.succ ih
theorem Reps.step {K : PySem.W.Frag} {W : Wd} {vs : List V} {ds : List D} (lo hi : Option Int) (st : Int) (r : Reps K W vs ds) : Reps K W (stepL vs lo hi st) (stepL ds lo hi st) := by
  unfold stepL
  rw [r.length]
  induction (List.range (PySem.Builtin.Slice.slicePlaces (PySem.Builtin.Slice.sliceAdjust lo hi st ds.length).1 (PySem.Builtin.Slice.sliceAdjust lo hi st ds.length).2 st)) with
  | nil => exact .nil
  | cons k t ih =>
    rw [List.filterMap_cons, List.filterMap_cons]
    cases c : ds[((PySem.Builtin.Slice.sliceAdjust lo hi st ds.length).1 + (k : Int) * st).toNat]? with
    | none =>
      have c2 : vs[((PySem.Builtin.Slice.sliceAdjust lo hi st ds.length).1 + (k : Int) * st).toNat]? = none := by
        rw [List.getElem?_eq_none_iff] at c ⊢
        rw [r.length]
        exact c
      rw [c2]
      exact ih
    | some d =>
      obtain ⟨v, c2, rv⟩ := r.get c
      rw [c2]
      exact .cons rv ih
theorem stepL_vals {vs : List V} {us : List Value} (lo hi : Option Int) (st : Int) (r : Vals vs us) : Vals (stepL vs lo hi st) (stepL us lo hi st) := by
  unfold stepL
  have hl : vs.length = us.length := r.length
  rw [hl]
  induction (List.range (PySem.Builtin.Slice.slicePlaces (PySem.Builtin.Slice.sliceAdjust lo hi st us.length).1 (PySem.Builtin.Slice.sliceAdjust lo hi st us.length).2 st)) with
  | nil => exact .nil
  | cons k t ih =>
    rw [List.filterMap_cons, List.filterMap_cons]
    cases c : vs[((PySem.Builtin.Slice.sliceAdjust lo hi st us.length).1 + (k : Int) * st).toNat]? with
    | none =>
      have c2 : us[((PySem.Builtin.Slice.sliceAdjust lo hi st us.length).1 + (k : Int) * st).toNat]? = none := by
        rw [List.getElem?_eq_none_iff] at c ⊢
        omega
      rw [c2]
      exact ih
    | some d =>
      obtain ⟨u, c2, rv⟩ := r.get c
      rw [c2]
      exact .cons rv ih
theorem vals_same : ∀ {vs ws : List V} {us : List Value}, Vals vs us → Vals ws us → (∀ v w u, RelV v u → RelV w u → v = w) → vs = ws
  | _, _, _, .nil, .nil, _ => rfl
  | _, _, _, .cons a b, .cons c d, h => by rw [h _ _ _ a c, vals_same b d h]
def vBack : Value → Option V
  | .none => some .non
  | .bool b => some (.bl b)
  | .int i _ => some (.int i)
  | .str x _ => some (.str x)
  | .bytes b _ => some (.byt b)
  | .float b _ => some (.flt b)
  | .ref a => some (.ref a)
  | .type n => some (.ty n)
  | _ => none
theorem rel_back {v : V} {u : Value} (h : RelV v u) : vBack u = some v := by
  cases v <;> first | (obtain ⟨t, rfl⟩ := h; rfl) | (cases h; rfl)
theorem rel_same : ∀ v w u, RelV v u → RelV w u → v = w := fun v w u h k => Option.some.inj ((rel_back h).symm.trans (rel_back k))
theorem pe_sliceS {X : Cx} {K : PySem.W.Frag} {e : Expr} {te : TE} {lo hi : Option Expr} {es : Expr} {tl th ts : TO} {p2 pos : Pos} (hK : X.K = K) (he : PE X e te) (h1 : PO X lo tl) (h2 : PO X hi th) (h3 : PO X (some es) ts) :
    PE X (.Subscript e (.Slice lo hi (some es) p2) pos) (tSlS K te tl th ts) := by
  subst hK
  constructor
  intro pins s σ H Q I h
  refine PyProof.Rows.Subscript_ (thn (he.run pins s σ H _ I h) fun v s1 ⟨x, H1, I1, r1, q1⟩ => ?_)
  refine wpAny_Slice (thn (h1.run pins s1 σ H1 _ I1 q1) fun vl s2 ⟨l, H2, I2, pl, q2⟩ => thn (h2.run pins s2 σ H2 _ I2 q2) fun vu s3 ⟨u, H3, I3, pu, q3⟩ => thn (h3.run pins s3 σ H3 _ I3 q3) fun vs s4 ⟨so, H4, I4, ps, q4⟩ => ?_)
  obtain ⟨a, xs, st, rfl, rfl, hT, h0, hz, qa, qb⟩ := q4
  cases r1
  have I5 : L2.Inv X pins σ H4 { s4 with heap := s4.heap.push { cls := .type "slice", data := .fields #[vl, vu, vs] } } := I4.kept (t' := s4.toks) fun b ob q => Heap.get?_push_of_some _ q
  obtain ⟨its, r, ht, hs2⟩ := I5.tuple hT
  have hlen := r.length
  show wpAny (model X.prog X.w) X.A (PyProof.Rows.subscriptTail e (.Slice lo hi (some es) p2) (.ref a) (.ref s4.heap.objs.size)) (EP X pins σ Q) X.xe { s4 with heap := s4.heap.push { cls := .type "slice", data := .fields #[vl, vu, vs] } }
  refine PyProof.Rows.tail_any (ops := [.ref a, .ref s4.heap.objs.size]) ht.typeIs PyProof.Rows.slot_tuple_getitem.lookup ?_ (by with_unfolding_all rfl)
  have e1 := stepL_len hlen l u st
  refine getItem_st ht (Heap.IsSliceOf.new _ vl vu vs) pl pu ps h0 (by rw [← e1]; exact hz) (fun e2 => ?_) ?_
  · refine ⟨.ref a, H4, I5, rfl, qa ?_⟩
    have r2 := stepL_vals l u st r
    rw [show stepL its l u st = its from e2] at r2
    exact vals_same r2 r rel_same
  · exact ep_tupP (t' := s4.toks) I5 (stepL_vals l u st r) hz qb
section
variable {S : Sx} {ρ : List Sl} {ra : M D} {ta : TE}
theorem se_sliceS {tl th ts : TO} {rl rh rs : M (Option Int)} (h : SE S ta ρ ra) (hl : SP S tl ρ rl) (hh : SP S th ρ rh) (hs : SP S ts ρ rs) : SE S (tSlS S.K ta tl th ts) ρ (cutSM ra rl rh rs) := fun σ H W H0 Q e w q => by
  refine h.go e w q (fun _ z => z) fun d v W1 H1 q1 s1 r1 e1 => ?_
  refine hl σ H1 W1 H0 _ e1 s1.ok (rl.mono (fun l hl W2 H2 s2 => ?_) (fun _ z => z.after w s1) q1)
  have w2 := s1.trans w s2
  refine hh σ H2 W2 H0 _ (e1.step s2) s2.ok (rh.mono (fun u hu W3 H3 s3 => ?_) (fun _ z => z.after w w2) hl)
  have w3 := w2.trans w s3
  refine hs σ H3 W3 H0 _ ((e1.step s2).step s3) s3.ok (rs.mono (fun c hc W4 H4 s4 => ?_) (fun _ z => z.after w w3) hu)
  have w4 := w3.trans w s4
  cases r1 with
  | @tup a vs ds hx r => cases c with
    | some st =>
      obtain ⟨⟨h0, hz⟩, q5⟩ := hc
      have hx4 := (s2.le.trans (s3.le.trans s4.le)).bqT hx
      have r4 := r.mono (s2.le.trans (s3.le.trans s4.le))
      have q6 : Post S.K Q W4 H4 (.tup (stepL ds l u st)) := Post.after w w4 q5
      refine ⟨a, vs, st, rfl, rfl, s4.ok.sqT hx4, h0, by rw [stepL_len r.length]; exact hz, fun e2 => ?_, post_tup s4.ok q6 (r4.step l u st)⟩
      have r5 := r4.step l u st
      rw [e2] at r5
      exact post_here s4.ok q6 (.tup hx4 r5)
    | none => exact (show False from hc).elim
  | _ => exact (show False from hc).elim
end
/-! ### a tuple so many times -/
section
theorem tuple_mul1 (l : Addr) (items : Array Value) (n : Nat) (dd : Option Addr) (sl : Array (Option Value)) (x : Int) (u : Tok) (c0 : (decide (x < -(2 ^ 63)) || decide (x ≥ 2 ^ 63)) = false) (c1 : (items.isEmpty || x == 1) = true) :
    Meets (Builtin.«tuple.__mul__» ⟨[.ref l, .int x u], []⟩) (fun _ R s0 => s0.heap.get? l = some { cls := .type "tuple", dict := dd, data := .seq items n, slots := sl } ∧ R (.ok (.ret (Value.ref l))) s0) :=
  .of_wp fun pr w1 A1 R1 s1 hh1 => by
    obtain ⟨hq, g1, d1, tk1, os1⟩ := s1
    obtain ⟨hl1, hh1⟩ := hh1
    have f1 := AutoSeq1.idx_int
    wp_walk using wpAny_loadPart' hl1
    repeat (first
      | (refine wpAny_ite_false (decide_eq_false (by rw [c0]; exact Bool.false_ne_true)) ?_; wp_walk using wpAny_loadPart' hl1)
      | (refine wpAny_ite_true (decide_eq_true c1) ?_; wp_walk using wpAny_loadPart' hl1))
    exact ⟨_, rfl, hh1⟩
theorem tuple_mul0 (l : Addr) (items : Array Value) (n : Nat) (dd : Option Addr) (sl : Array (Option Value)) (x : Int) (u : Tok) (c0 : (decide (x < -(2 ^ 63)) || decide (x ≥ 2 ^ 63)) = false) (c1 : (items.isEmpty || x == 1) = false) (c2 : (decide (x ≤ 0) || items.isEmpty) = true) :
    Meets (Builtin.«tuple.__mul__» ⟨[.ref l, .int x u], []⟩) (fun _ R s0 => s0.heap.get? l = some { cls := .type "tuple", dict := dd, data := .seq items n, slots := sl } ∧
      R (.ok (.ret (Value.ref s0.heap.objs.size))) { s0 with heap := s0.heap.push { cls := Value.type "tuple", data := Data.seq #[] }, toks := s0.toks }) :=
  .of_wp fun pr w1 A1 R1 s1 hh1 => by
    obtain ⟨hq, g1, d1, tk1, os1⟩ := s1
    obtain ⟨hl1, hh1⟩ := hh1
    have f1 := AutoSeq1.idx_int
    wp_walk using wpAny_loadPart' hl1
    repeat (first
      | (refine wpAny_ite_false (decide_eq_false (by rw [c0]; exact Bool.false_ne_true)) ?_; wp_walk using wpAny_loadPart' hl1)
      | (refine wpAny_ite_false (decide_eq_false (by rw [c1]; exact Bool.false_ne_true)) ?_; wp_walk using wpAny_loadPart' hl1)
      | (refine wpAny_ite_true (decide_eq_true c2) ?_; wp_walk using wpAny_loadPart' hl1))
    exact ⟨_, rfl, hh1⟩
def rMul1 (K : PySem.W.Frag) : R2 := fun x y H Q => ∃ l k xs, x = .ref l ∧ y = .int k ∧ SqT K H l xs ∧ -(2 ^ 63) ≤ k ∧ k < 2 ^ 63 ∧ (xs = [] ∨ k ≤ 1) ∧ ((xs = [] ∨ k = 1) → Q (.ref l) H) ∧ (xs ≠ [] → k ≤ 0 → NewT H [] Q)
theorem op_mul1 {X : Cx} {K : PySem.W.Frag} (hK : X.K = K) : OpR X (binaryOp .Mult) (rMul1 K) := by
  subst hK
  intro pins s σ H x y v u Q I rx ry h
  obtain ⟨l, k, xs, rfl, rfl, hT, b0, b1, hor, q1, q2⟩ := h
  cases rx
  obtain ⟨t, rfl⟩ := ry
  obtain ⟨its, r, ⟨⟨cls, dd, data, sl⟩, ho, hc, n, hd⟩, hs⟩ := I.tuple hT
  simp only at hc hd
  subst hc hd
  have hle : its.length = xs.length := r.length.symm
  have he : its.toArray.isEmpty = xs.isEmpty := by
    cases its with
    | nil =>
      cases xs with
      | nil => rfl
      | cons a b => cases hle
    | cons a b =>
      cases xs with
      | nil => cases hle
      | cons c d => rfl
  have c0 : (decide (k < -(2 ^ 63)) || decide (k ≥ 2 ^ 63)) = false := by
    rw [decide_eq_false (by omega), decide_eq_false (by omega)]
    rfl
  refine wpAny_binaryOp_repeat_ref (T := "tuple") (U := "int") (by decide) ⟨_, ho, rfl⟩ (fun s' => typeIs_int s' k t) noFill_tuple_mul F.fills_int_mul F.slot_int_rmul repeat_tuple F.slot_int_index.lookup
    (call_meets F.slot_int_rmul (typeIs_int s k t) F.entry_int_rmul (F.args_int_rmul_2 _ _) (int_rmul_tuple k t l its.toArray n dd sl) ⟨ho, rfl, ⟨_, ho, rfl⟩, ?_⟩)
  by_cases hw : xs = [] ∨ k = 1
  · have c1 : (its.toArray.isEmpty || k == 1) = true := by
      rw [he]
      rcases hw with rfl | rfl
      · rfl
      · simp
    exact call_meets F.slot_tuple_mul ⟨_, ho, rfl⟩ F.entry_tuple_mul (F.args_tuple_mul_2 _ _) (tuple_mul1 l its.toArray n dd sl k t c0 c1) ⟨ho, .ref l, H, I, rfl, q1 hw⟩
  · have hx : xs ≠ [] := fun e => hw (.inl e)
    have hk : k ≤ 0 := by
      have : k ≠ 1 := fun e => hw (.inr e)
      rcases hor with e | e
      · exact absurd e hx
      · omega
    have hx2 : xs.isEmpty = false := by
      cases xs with
      | nil => exact absurd rfl hx
      | cons a b => rfl
    have c1 : (its.toArray.isEmpty || k == 1) = false := by
      rw [he, hx2, Bool.false_or]
      exact beq_eq_false_iff_ne.mpr (by omega)
    have c2 : (decide (k ≤ 0) || its.toArray.isEmpty) = true := by rw [decide_eq_true hk]; rfl
    refine call_meets F.slot_tuple_mul ⟨_, ho, rfl⟩ F.entry_tuple_mul (F.args_tuple_mul_2 _ _) (tuple_mul0 l its.toArray n dd sl k t c0 c1 c2) ⟨ho, ?_⟩
    exact ep_tupP (t' := s.toks) (its := []) I .nil (Nat.zero_le _) (q2 hx hk)
def rMulB (K : PySem.W.Frag) : R2 := fun x y H Q => rMulA K x y H Q ∨ rMul1 K x y H Q
theorem op_mulB {X : Cx} {K : PySem.W.Frag} (hK : X.K = K) : OpR X (binaryOp .Mult) (rMulB K) := (op_mulK hK).or (op_mul1 hK)
theorem os_mulB {K : PySem.W.Frag} : OpS K (rMulB K) D.mulA := by
  intro W H x y dx dy Q E w rx ry h
  unfold D.mulA at h
  split at h
  · rename_i xs k
    by_cases c : xs ≠ [] ∧ 2 ≤ k
    · rw [if_pos c] at h
      exact .inl (os_mul W H x y _ _ Q E w rx ry h)
    · rw [if_neg c] at h
      obtain ⟨⟨b0, b1⟩, q⟩ := h
      cases rx with
      | @tup a vs ds hx r => cases ry with
        | int k =>
          have hv : vs = [] ↔ xs = [] := by
            rw [← List.length_eq_zero_iff, ← List.length_eq_zero_iff, r.length]
          refine .inr ⟨a, k, vs, rfl, rfl, w.sqT hx, b0, b1, ?_, fun e => ?_, fun e1 e2 => ?_⟩
          · rw [hv]
            by_cases c2 : xs = []
            · exact .inl c2
            · right
              have : ¬ 2 ≤ k := fun z => c ⟨c2, z⟩
              omega
          · have : rep k xs = xs := by
              rcases e with e | e
              · rw [hv.mp e]
                unfold rep
                rw [List.flatten_replicate_nil]
              · subst e
                unfold rep
                show (List.replicate 1 xs).flatten = xs
                simp
            have q2 : Post K Q W H (.tup (rep k xs)) := q
            rw [this] at q2
            exact post_here w q2 (.tup hx r)
          · have : rep k xs = [] := by
              unfold rep
              rw [show k.toNat = 0 by omega]
              rfl
            have q2 : Post K Q W H (.tup (rep k xs)) := q
            rw [this] at q2
            exact post_tup w q2 .nil
  · exact .inl (os_mul W H x y _ _ Q E w rx ry h)
end
/-! ### in, not in -/
def rInA (K : PySem.W.Frag) : R2 := fun x y H Q => rIn K false x y H Q ∨ rInD K x y H Q
def rNotInA (K : PySem.W.Frag) : R2 := fun x y H Q => rIn K true x y H Q ∨ rNotInD K x y H Q
theorem op_inA {X : Cx} {K : PySem.W.Frag} {k : Nat} (hK : X.K = K) (hr : Room k X.A) : OpR X (compareOp .In) (rInA K) := by subst hK; exact op_in_seq.or (op_inD (by have := hr.un; omega))
theorem op_notinA {X : Cx} {K : PySem.W.Frag} {k : Nat} (hK : X.K = K) (hr : Room k X.A) : OpR X (compareOp .NotIn) (rNotInA K) := by subst hK; exact op_notIn_seq.or (op_notInD (by have := hr.un; omega))
section
variable {K : PySem.W.Frag} {W : Wd} {H : Hp}
theorem inn_ints {vs : List V} {xs : List D} {ns : List Int} (r : Reps K W vs xs) (e : intsL xs = some ns) (i : Int) : vs.all flatV = true ∧ inV (.int i) vs = ns.any fun n => n == i := by
  rw [ints_rep r e]
  unfold inV
  rw [List.all_map, List.any_map]
  exact ⟨List.all_eq_true.mpr fun _ _ => rfl, rfl⟩
theorem inn_run {x d : D} {u v : V} {P : Bool → Prop} {E : Exn → Prop} (w : WOk W H) (rx : Rep K W v x) (ry : Rep K W u d) (h : (innB x d).run P E) :
    ∃ b, P b ∧ ((∃ p xs, u = .ref p ∧ (SqL K H p xs ∨ SqT K H p xs) ∧ flatV v = true ∧ xs.all flatV = true ∧ inV v xs = b) ∨
      (∃ d1 ds, Dp K H v d1 ∧ Dp K H u (.list ds) ∧ SeqAt.shaped d1 = true ∧ SeqAt.shaped (.list ds) = true ∧ (ds.any fun z => PyData.eqv z d1) = b)) := by
  cases ry with
  | @lst a vs xs hx r =>
    obtain ⟨⟨h1, h2⟩, q⟩ := h
    obtain ⟨p1, s1⟩ := cmp_split h1
    obtain ⟨p2, s2⟩ := cmp_split h2
    refine ⟨_, q, .inr ⟨x.py, D.pys xs, rx.dp w p1, ?_, s1, ?_, ?_⟩⟩
    · have := (Rep.lst (K := K) hx r).dp w p2
      rwa [D.py] at this
    · rwa [D.py] at s2
    · rw [D.pys_map, List.any_map]
      rfl
  | @tup a vs xs hx r =>
    cases x with
    | int i =>
      obtain ⟨ns, e, q⟩ := ofO_run h
      obtain ⟨h1, h2⟩ := inn_ints r e i
      cases rx
      exact ⟨_, q, .inl ⟨a, vs, rfl, .inr (w.sqT hx), rfl, h1, h2⟩⟩
    | _ => exact (show False from h).elim
  | _ => exact (show False from h).elim
theorem os_in : OpS K (rInA K) D.innA := by
  intro W H x y dx dy Q E w rx ry h
  obtain ⟨b, q, c⟩ := inn_run w rx ry h
  have q2 := post_here w q (.bl b)
  rcases c with ⟨p, xs, rfl, hq, f1, f2, e⟩ | ⟨d1, ds, c1, c2, c3, c4, e⟩
  · exact .inl ⟨p, xs, rfl, hq, f1, f2, by rw [if_neg (by decide), e]; exact q2⟩
  · exact .inr ⟨d1, ds, c1, c2, c3, c4, by rw [e]; exact q2⟩
theorem os_notin : OpS K (rNotInA K) D.notinA := by
  intro W H x y dx dy Q E w rx ry h
  obtain ⟨b, q, c⟩ := inn_run w rx ry h
  have q2 := post_here w q (.bl (!b))
  rcases c with ⟨p, xs, rfl, hq, f1, f2, e⟩ | ⟨d1, ds, c1, c2, c3, c4, e⟩
  · exact .inl ⟨p, xs, rfl, hq, f1, f2, by rw [if_pos rfl, e]; exact q2⟩
  · exact .inr ⟨d1, ds, c1, c2, c3, c4, by rw [e]; exact q2⟩
end
theorem os_isB {K : PySem.W.Frag} : OpS K rIsB D.isB2 := by
  intro W H x y dx dy Q E w rx ry h
  cases rx with
  | bl i => cases ry with
    | bl j => exact ⟨i, j, rfl, rfl, post_here w h (.bl _)⟩
    | _ => exact (show False from h).elim
  | _ => exact (show False from h).elim
theorem os_notB {K : PySem.W.Frag} : OpS K rNotB D.notB2 := by
  intro W H x y dx dy Q E w rx ry h
  cases rx with
  | bl i => cases ry with
    | bl j => exact ⟨i, j, rfl, rfl, post_here w h (.bl _)⟩
    | _ => exact (show False from h).elim
  | _ => exact (show False from h).elim
/-! ### list(range(..)) -/
theorem reps_rg {K : PySem.W.Frag} {W : Wd} (a b : Int) : Reps K W (rgV a b) (rangeL a b) := by
  unfold rgV rangeL
  induction (List.range (b - a).toNat) with
  | nil => exact .nil
  | cons i r ih => exact .cons (.int _) ih
section
variable {S : Sx} {ρ : List Sl} {ra rb : M D} {ta tb : TE}
theorem so_lrng1 (h : SE S ta ρ ra) : SO S (tLstRg (tRg1 ta)) ρ (lrng1 ra) := fun σ H W H0 Q e w q => by
  refine h.go e w q (fun _ z => z) fun d v W1 H1 q1 s1 r1 e1 => ?_
  cases r1 with
  | int n =>
    refine ⟨n, rfl, q1.1, fun p hp => ?_⟩
    exact q1.2 p _ W1 _ (s1.trans w (Step.raw s1.ok hp)) (s1.free0 w hp) upd_same (nopen s1.ok hp).1 (nopen s1.ok hp).2 (reps_rg 0 n)
  | _ => exact (show False from q1).elim
theorem so_lrng2 (h : SE S ta ρ ra) (h2 : SE S tb ρ rb) : SO S (tLstRg (tRg2 ta tb)) ρ (lrng2 ra rb) := fun σ H W H0 Q e w q => by
  refine h.go e w q (fun _ z => z) fun d v W1 H1 q1 s1 r1 e1 => ?_
  refine h2.go e1 s1.ok q1 (fun _ z => z.after w s1) fun d2 v2 W2 H2 q2 s2 r2 e2 => ?_
  have s3 := s1.trans w s2
  cases r1 with
  | int m => cases r2 with
    | int n =>
      refine ⟨m, n, rfl, rfl, q2.1, fun p hp => ?_⟩
      exact q2.2 p _ W2 _ (s3.trans w (Step.raw s2.ok hp)) (s3.free0 w hp) upd_same (nopen s2.ok hp).1 (nopen s2.ok hp).2 (reps_rg m n)
    | _ => exact (show False from q2).elim
  | _ => exact (show False from q2).elim
end
theorem so_se {S : Sx} {ρ : List Sl} {t : TE} {r : M (List D)} (s : SO S t ρ r) : SE S t ρ (r >>= fun ds => pure (.lst ds)) := s.se
end Ev

namespace Ev
open PySem PySem.Spec L2
variable [Tb]
/-! ### lists of one's own: an element, two at once, one that is dropped -/
section
variable {S : Sx} {own : Bool} {ρ : List Sl} {T L : Type} {enc : T → List Sl} {encL : L → List Sl} {tb : TS}
theorem se_ixO {te : TE} {r : M D} {i : Nat} {ds : List D} (h : ρ[i]? = some (.own ds)) (hi : SE S te ρ r) : SE S (tOp (rIxA S.K) (tVar i) te) ρ (bin D.ix (pure (.lst ds)) r) := fun σ H W H0 Q e w q => by
  obtain ⟨a, vs, h1, h2, h3, h4, h5, h6⟩ := e.owL i ds h
  refine ⟨_, h1, ?_⟩
  refine hi.go e w q (fun _ z => z) fun d v W1 H1 q1 s1 r1 e1 => ?_
  obtain ⟨b, us, g1, g2, g3, g4, g5, g6⟩ := e1.owL i ds h
  rw [h1] at g1
  cases g1
  cases r1 with
  | int j =>
    obtain ⟨d', e2, q2⟩ := ofO_run q1
    obtain ⟨v', e3, r3⟩ := g6.atI e2
    exact .inl ⟨a, us, j, v', rfl, rfl, .inl (.inl g2), e3, q2 v' W1 H1 s1 r3⟩
  | _ => exact (show False from q1).elim
theorem ss_paroo {t1 t2 : TE} {i j : Nat} {r1 r2 : M (List D)} {k : List D → List D → M (Fl T L)} (h1 : SO S t1 ρ r1) (h2 : SO S t2 ρ r2) (hb : ∀ d e, SS S own tb ((ρ.set i (.own d)).set j (.own e)) enc encL (k d e)) :
    SS S own (tSeq (tPar i j (tCons t1 (tCons t2 tNil))) tb) ρ enc encL (r1 >>= fun d => r2 >>= fun e => k d e) := fun Wf W0 H0 W H σ D w n q => by
  refine h1.go n.env n.ok q (xpost w n.st) fun d a vs W1 H1 q1 s1 a0 a1 a2 a3 rr1 e1 => ?_
  refine h2.go e1 s1.ok q1 (xpost w (n.st.trans w s1)) fun e b us W2 H2 q2 s2 b0 b1 b2 b3 rr2 e2 => ?_
  have nn : H1 a ≠ none := by rw [a1]; intro z; cases z
  have ab : a ≠ b := fun z => by subst z; exact nn b0
  have c1 : H2 a = some (.lst vs) := s2.old a _ a1 a3
  have f0 : H0 a = none := n.st.free0 w a0
  have f1 : H0 b = none := (n.st.trans w s1).free0 w b0
  have oa : ∀ {m : Nat} {es : OwnC}, ρ[m]? = some (.ob es) → σ[m]? ≠ some (some (.ref a)) := fun {m es} hm hs => by
    obtain ⟨c, ws, g1, g2, _⟩ := n.env.ow m es hm
    rw [g1] at hs
    cases hs
    rw [a0] at g2
    cases g2
  have ob : ∀ {m : Nat} {es : OwnC}, ρ[m]? = some (.ob es) → σ[m]? ≠ some (some (.ref b)) := fun {m es} hm hs => by
    obtain ⟨c, ws, g1, g2, _⟩ := e1.ow m es hm
    rw [g1] at hs
    cases hs
    rw [b0] at g2
    cases g2
  have e3 := e2.setOwn i c1 ((s2.newP a nn).trans a2) ((s2.newN a nn).trans a3) f0 (rr1.mono s2.le) (fun m es _ hm => oa hm)
  have e4 := e3.setOwn j b1 b2 b3 f1 rr2 (fun m es hjm hm => by
    by_cases hi : i = m
    · subst hi
      by_cases hl : i < σ.length
      · rw [List.getElem?_set_self hl]
        intro z
        cases z
        exact ab rfl
      · rw [List.getElem?_eq_none (by rw [List.length_set]; omega)]
        intro z
        cases z
    · rw [List.getElem?_set_ne hi] at hm ⊢
      exact ob hm)
  exact ⟨_, _, rfl, hb d e Wf W0 H0 W2 H2 _ D w ⟨e4, s2.ok, (n.st.trans w s1).trans w s2, n.fl.trans (s1.le.trans s2.le)⟩ q2⟩
theorem ss_appT {t1 te : TE} {r1 : M (List D)} {re : M D} {k : M (Fl T L)} (h1 : SO S t1 ρ r1) (h : SE S te ρ re) (hb : SS S own tb ρ enc encL k) :
    SS S own (tSeq (tDrop (tBM S.K "list" rAppend t1 (tCons te tNil))) tb) ρ enc encL (r1 >>= fun ds => appM ds re fun _ => k) := fun Wf W0 H0 W H σ D w n q => by
  refine h1.go n.env n.ok q (xpost w n.st) fun ds a vs W1 H1 q1 s1 a0 a1 a2 a3 rr1 e1 => ?_
  refine ⟨.inl ⟨rfl, _, .inl (.inl a1)⟩, ?_⟩
  refine h.go e1 s1.ok q1 (xpost w (n.st.trans w s1)) fun d v W2 H2 q2 s2 r2 e2 => ?_
  have nn : H1 a ≠ none := by rw [a1]; intro z; cases z
  have c1 : H2 a = some (.lst vs) := s2.old a _ a1 a3
  have cP : W2.P a = none := (s2.newP a nn).trans a2
  have cN : W2.N a = none := (s2.newN a nn).trans a3
  refine ⟨a, vs, v, rfl, rfl, c1, by rw [rr1.length]; exact q2.1, ?_⟩
  have s3 := s1.trans n.ok s2
  have nP : ∀ b o, W2.P b = some o → b ≠ a := fun b o e z => by subst z; rw [cP] at e; cases e
  have w2 : WOk W2 (upd H2 a (.lst (vs ++ [v]))) := s3.ok.put cP cN c1
  have s4 : Step W H W2 (upd H2 a (.lst (vs ++ [v]))) := ⟨s3.le, w2, fun b o e hnn => by
    rw [upd_ne (ne_of_none e a0)]
    exact s3.old b o e hnn, s3.newP, s3.newN⟩
  exact hb Wf W0 H0 W2 _ σ D w (n.step w s4) q2.2
/-- x = y where y is a list of one's own and is read no more -/
theorem ss_move {i j : Nat} {ds : List D} {m : M (Fl T L)} (h : ρ[j]? = some (.own ds)) (hij : i ≠ j) (hb : SS S own tb ((ρ.set j .no).set i (.own ds)) enc encL m) :
    SS S own (tSeq (tAsg (tVar j) (gName i)) tb) ρ enc encL m := fun Wf W0 H0 W H σ D w n q => by
  obtain ⟨a, vs, h1, h2, h3, h4, h5, h6⟩ := n.env.owL j ds h
  refine ⟨_, h1, ?_⟩
  refine hb Wf W0 H0 W H _ D w ⟨(n.env.drop j).setOwn i h2 h3 h4 h5 h6 (fun k es _ hk hs => ?_), n.ok, n.st, n.fl⟩ q
  obtain ⟨hjk, hk⟩ := getElem?_set_no hk (by intro z; cases z)
  exact n.env.ap j k _ _ a hjk h hk h1 hs
end
end Ev

namespace Ev
open PySem PySem.Spec L2
variable [Tb]
/-! ### list(range(a, b, c)) -/
def rg3V (a c : Int) (n : Nat) : List V := (List.range n).map fun i : Nat => V.int (a + (i : Int) * c)
theorem rg3_reps {K : PySem.W.Frag} {W : Wd} {a c : Int} : ∀ n, Reps K W (rg3V a c n) (rg3 a c n) := fun n => by
  unfold rg3V rg3
  generalize List.range n = l
  induction l with
  | nil => exact .nil
  | cons x r ih => exact .cons (.int _) ih
def tLst3 (ts : TA) : TE := fun σ H Q => ts σ H fun vs H1 => ∃ (i j c : Int) (n : Nat), vs = [.int i, .int j, .int c] ∧ RgC i j c n ∧ n ≤ 2 ^ 24 ∧ ∀ q, H1 q = none → Q (.ref q) (upd H1 q (.lst (rg3V i c n)))
theorem pe_listRg3 {X : Cx} {a b c : Expr} {ts : TA} {p pos p2 pos2 : Pos} (hc : X.calm = true) (hg : Gl X "list") (hm : X.mg "list" = none) (hg2 : Gl X "range") (hm2 : X.mg "range" = none) (ha : PA X [a, b, c] ts)
    (hs : starEach [a, b, c] X.env = (false, eval a X.env) :: starEach [b, c] X.env := by rfl) (hpl : (backTo pos2 (starEach [b, c] X.env)).any (·.1) = false := by rfl)
    (na : starEach [.Call (.Name "range" p2) [a, b, c] [] pos2] X.env = (false, eval (.Call (.Name "range" p2) [a, b, c] [] pos2) X.env) :: starEach [] X.env := by rfl) :
    PE X (.Call (.Name "list" p) [.Call (.Name "range" p2) [a, b, c] [] pos2] [] pos) (tLst3 ts) := by
  constructor
  intro pins s σ H Q I h
  refine PyProof.Rows.Call_ (ld_blt I hg hm PyProof.Rows.boot_list (PyProof.Rows.callWith_type1 (PyProof.Rows.args_cons ?_ na) na))
  refine PyProof.Rows.Call_ (ld_blt I hg2 hm2 PyProof.Rows.boot_range (PyProof.Rows.callWith_type1 (thn (ha.run pos2 pins s σ H _ I h) ?_) hs hpl))
  rintro us s1 ⟨vs, H1, I1, r1, i, j, k, n, e, ⟨c0, c1, c2, c3⟩, hn, q⟩
  subst e
  match us, r1 with
  | [_, _, _], .cons ⟨t, rfl⟩ (.cons ⟨t', rfl⟩ (.cons ⟨t'', rfl⟩ .nil)) =>
    refine PySem.call_range_3 c0 ?_ (.inl (PyProof.noPylong_small c1))
    refine PyProof.Rows.args_nil ?_
    have I2 : L2.Inv X pins σ H1 { s1 with heap := s1.heap.push { cls := .type "range", data := .fields #[.int i t, .int j t', .int k t''] } } := I1.kept (t' := s1.toks) fun b o e => Heap.get?_push_of_some _ e
    refine PySem.call_list_range (n := n) (I2.ok.hd hc) (IsRange.new ..) c2 c3 hn ?_
    intro h' tk acc c' hk e' hi
    have hl : (rg3V i k n).length = n := by unfold rg3V; rw [List.length_map, List.length_range]
    have hv : L2.Vals (rg3V i k n) acc.toList := by
      have e0 : acc.toList.length = n := by rw [Array.length_toList]; exact hi.1
      unfold rg3V
      rw [← e0]
      refine L2.vals_of_get acc.toList _ fun m u hj => ?_
      obtain ⟨x, rfl⟩ := hi.2 m u (by rw [← hj, Array.getElem?_toList])
      exact ⟨x, rfl⟩
    refine ⟨.ref _, upd H1 _ (.lst (rg3V i k n)), I2.laid hk (Nat.le_refl _) (show ObjOk X.prog X.w _ _ _ (.lst (rg3V i k n)) from ⟨by rw [hl, sizeLine_eq]; omega, acc.toList, c', hv, by rw [Array.toArray_toList]; exact e'⟩), rfl, q _ (I2.hok.fresh (Nat.le_refl _))⟩
theorem rg3_small {a b c : Int} (h : rg3Ok a b c) : RgC a b c (rg3N a b c) ∧ rg3N a b c ≤ 2 ^ 24 := by
  obtain ⟨a0, a1, b0, b1, c0, c1⟩ := h
  have d0 : a < b → 0 ≤ (b - a - 1) / c ∧ (b - a - 1) / c ≤ b - a - 1 := fun h => ⟨Int.ediv_nonneg (by omega) (by omega), Int.ediv_le_self _ (by omega)⟩
  have hz : Builtin.Range.rangeSize a b c = (rg3N a b c : Nat) := by
    unfold Builtin.Range.rangeSize rg3N
    rw [if_pos (by omega)]
    by_cases e : a < b
    · rw [if_pos e, if_pos e]
      have := d0 e
      omega
    · rw [if_neg e, if_neg e]
      rfl
  have hn : rg3N a b c ≤ 1000001 := by
    unfold rg3N
    by_cases e : a < b
    · rw [if_pos e]
      have := d0 e
      omega
    · rw [if_neg e]
      omega
  refine ⟨⟨by omega, by omega, ?_, hz⟩, by omega⟩
  unfold Builtin.Range.small
  rw [hz]
  have hc : c > 0 := by omega
  simp only [Builtin.Range.rangeFitsLong, Bool.and_eq_true, Bool.or_eq_true, decide_eq_true_eq, beq_iff_eq, if_pos hc]
  omega
theorem so_lrng3 {S : Sx} {ρ : List Sl} {ts : TA} {rs : List (M D)} (h : SA S ts ρ rs) : SO S (tLst3 ts) ρ (lrng3 rs) := fun σ H W H0 Q e w q => by
  refine h.go e w q (fun _ z => z) fun ds vs W1 H1 q1 s1 r1 e1 => ?_
  match ds, r1, q1 with
  | [.int a, .int b, .int c], r1, q1 =>
    obtain ⟨u, v, z, rfl, g1, g2, g3⟩ := r1.of3
    cases g1; cases g2; cases g3
    obtain ⟨ok, q1⟩ := q1
    obtain ⟨g1, g2⟩ := rg3_small ok
    refine ⟨a, b, c, rg3N a b c, rfl, g1, g2, fun p hp => ?_⟩
    exact q1 p _ W1 _ (s1.trans w (Step.raw s1.ok hp)) (s1.free0 w hp) upd_same (nopen s1.ok hp).1 (nopen s1.ok hp).2 (rg3_reps _)
/-! ### sets of numbers -/
theorem ddI_snoc (ns : List Int) (x : Int) : ddI (ns ++ [x]) = if (ddI ns).any (· == x) then ddI ns else ddI ns ++ [x] := by
  unfold ddI
  rw [List.foldl_append]
  rfl
theorem ddI_ok (ns : List Int) : (ddI ns).Nodup ∧ ∀ x, x ∈ ddI ns ↔ x ∈ ns := by
  have key : ∀ n, ∀ ns : List Int, ns.length = n → (ddI ns).Nodup ∧ ∀ x, x ∈ ddI ns ↔ x ∈ ns := fun n => by
    induction n with
    | zero =>
      intro ns h
      rw [List.length_eq_zero_iff.mp h]
      exact ⟨List.nodup_nil, fun x => Iff.rfl⟩
    | succ n ih =>
      intro ns h
      obtain ⟨ms, a, rfl⟩ : ∃ ms a, ns = ms ++ [a] := ⟨ns.dropLast, ns.getLast (fun z => by rw [z] at h; cases h), (List.dropLast_concat_getLast _).symm⟩
      obtain ⟨h1, h2⟩ := ih ms (by rw [List.length_append, List.length_singleton] at h; omega)
      rw [ddI_snoc]
      by_cases c : (ddI ms).any (· == a) = true
      · rw [if_pos c]
        obtain ⟨y, hy, ey⟩ := List.any_eq_true.mp c
        have : a ∈ ms := by rw [← eq_of_beq ey]; exact (h2 y).mp hy
        refine ⟨h1, fun x => ?_⟩
        rw [h2, List.mem_append, List.mem_singleton]
        exact ⟨.inl, fun z => z.elim id fun z => z ▸ this⟩
      · rw [if_neg c]
        have na : a ∉ ddI ms := fun z => c (List.any_eq_true.mpr ⟨a, z, beq_self_eq_true a⟩)
        refine ⟨?_, fun x => ?_⟩
        · rw [List.nodup_append]
          refine ⟨h1, by simp, fun x hx y hy e => ?_⟩
          rw [List.mem_singleton.mp hy] at e
          exact na (e ▸ hx)
        · rw [List.mem_append, List.mem_append, h2]
  exact key _ ns rfl
theorem same_len {l m : List Int} (h1 : l.Nodup) (h2 : m.Nodup) (h : ∀ x, x ∈ l ↔ x ∈ m) : l.length = m.length := ((List.perm_ext_iff_of_nodup h1 h2).mpr h).length_eq
theorem setR_count {w : World} {h : Heap} {a : Addr} {S : Int → Bool} {n : Nat} {ns : List Int} (R : SetR w h a S n) (hS : ∀ k, S k = true ↔ k ∈ ns) : n = (ddI ns).length := by
  obtain ⟨o, es, ep, t, ho, hex, hd, g, nd, hm, hb, hf, hn, _⟩ := R
  rw [← hn, ← Array.length_toList, ← List.length_map (as := es.toList) (f := keyOf)]
  exact same_len nd (ddI_ok ns).1 fun x => by rw [← hm x, hS x, (ddI_ok ns).2 x]
theorem firstMet_dd (ns : List Int) : PyProof.Rows.firstMet (fun i => ns.getD i 0) ns.length = ddI ns := by
  have e : (List.range ns.length).map (fun i => ns.getD i 0) = ns := by
    apply List.ext_getElem
    · simp
    · intro i h1 h2
      simp [List.getD_eq_getElem?_getD, h2]
  unfold PyProof.Rows.firstMet ddI
  rw [e]
  rfl
/-- set(x), x a tuple of numbers: a set of as many as are unlike -/
def rSetN (K : PySem.W.Frag) (w : World) : List V → Hp → VK → Prop := fun xs H Q => ∃ (l : Addr) (ns : List Int), xs = [.ref l] ∧ SqT K H l (ns.map V.int) ∧ ns.length ≤ 4000 ∧
  ∀ (a : Addr) (S : Int → Bool), H a = none → (∀ k, S k = true ↔ k ∈ ns) → Q (.ref a) (upd H a (SetO w a S (ddI ns).length))
theorem call_setN {X : Cx} {K : PySem.W.Frag} {w : World} (hK : X.K = K) (hw : X.w = w) (hc : X.calm = true) : CallR X (.type "set") (rSetN K w) := by
  subst hK hw
  intro pins s σ H xs us Q I r h
  obtain ⟨l, ns, rfl, hs, hn, q⟩ := h
  obtain ⟨u, rfl, ru⟩ := vals1 r
  cases ru
  obtain ⟨its, rv, pt, hz⟩ := I.tuple hs
  refine call_set_tupI ns (I.ok.hd hc) (show s.heap.IsTuple l its.toArray from pt) (ints_of_vals rv) (by unfold scanBound; omega) fun h' tk c R hcn k => ?_
  have e := setR_count (ns := ns) R fun k => by rw [decide_eq_true_eq]
  subst e
  exact ⟨.ref s.heap.objs.size, upd H s.heap.objs.size (SetO X.w s.heap.objs.size (fun j => decide (j ∈ ns)) (ddI ns).length), I.laid (t' := tk) k (Nat.le_refl _) (setO_new R), rfl, q _ _ (I.hok.fresh (Nat.le_refl _)) fun k => by rw [decide_eq_true_eq]⟩
/-- len(set(x)), x a list or a tuple of numbers -/
def tLenSet (K : PySem.W.Frag) (ta : TE) : TE := fun σ H Q => ta σ H fun x H1 => ∃ (l : Addr) (ns : List Int), x = .ref l ∧ (SqL K H1 l (ns.map V.int) ∨ SqT K H1 l (ns.map V.int)) ∧ ns.length ≤ 4000 ∧ Q (.int ((ddI ns).length : Nat)) H1
theorem pe_lenSet2 {X : Cx} {K : PySem.W.Frag} {a : Expr} {ta : TE} {p p2 q pos : Pos} (hK : X.K = K) (hg : Gl X "len") (hm : X.mg "len" = none) (hg2 : Gl X "set") (hm2 : X.mg "set" = none) (ha : PE X a ta) (hc : X.calm = true := by rfl)
    (na : starEach [a] X.env = (false, eval a X.env) :: starEach [] X.env := by rfl) : PE X (.Call (.Name "len" p) [.Call (.Name "set" p2) [a] [] q] [] pos) (tLenSet K ta) := by
  subst hK
  constructor
  intro pins s σ H Q I h
  refine PyProof.Rows.Call_ (ld_blt I hg hm PySem.boot_len ?_)
  refine PyProof.Rows.callWith_builtin1 (PyProof.Rows.args_cons ?_ rfl) rfl rfl
  refine PyProof.Rows.Call_ (ld_blt I hg2 hm2 PyProof.Rows.boot_set ?_)
  refine PyProof.Rows.callWith_type1 (PyProof.Rows.args_cons (thn (ha.run pins s σ H _ I h) ?_) na) na rfl
  rintro v s1 ⟨x, H1, I1, r1, l, ns, rfl, hq, hl, q1⟩
  refine PyProof.Rows.args_nil ?_
  cases r1
  rcases hq with hq | hq
  · obtain ⟨its, rv, pl, hz⟩ := I1.list hq
    have hlen : its.toArray.size = ns.length := by rw [List.size_toArray, ← rv.length, List.length_map]
    refine PySem.call_set_list (I1.ok.hd hc) pl.isList (ns := ns) (by simpa using ints_of_vals rv) (by rw [hlen]; unfold scanBound; omega) fun h' tk hS hk => ?_
    rw [hlen, firstMet_dd] at hS
    refine PyProof.Rows.args_nil ?_
    obtain ⟨o, es, ep, t, ho, hex, hd, _, _, hb, hf, hn⟩ := hS
    have I2 : L2.Inv X pins σ H1 { s1 with heap := h', toks := tk } := I1.kept fun b o e => hk b o (Heap.lt_size e) e
    exact call_len_set ho hex hd hf (by rw [hn]; unfold scanBound at hb; omega) ⟨.int (ddI ns).length, H1, I2.tok _, ⟨_, by rw [hn]⟩, q1⟩
  · obtain ⟨its, rv, pt, hz⟩ := I1.tuple hq
    refine call_set_tupI ns (I1.ok.hd hc) (show s1.heap.IsTuple l its.toArray from pt) (ints_of_vals rv) (by unfold scanBound; omega) fun h' tk c R hcn k => ?_
    have e := setR_count (ns := ns) R fun k => by rw [decide_eq_true_eq]
    subst e
    refine PyProof.Rows.args_nil ?_
    obtain ⟨o, es, ep, t, ho, hex, hd, _, _, _, hb, hf, hn, _⟩ := R
    have I2 : L2.Inv X pins σ H1 { s1 with heap := h', toks := tk } := I1.kept k
    exact call_len_set ho hex hd hf (by rw [hn]; omega) ⟨.int (ddI ns).length, H1, I2.tok _, ⟨_, by rw [hn]⟩, q1⟩
theorem numsOf_rep {K : PySem.W.Frag} {W : Wd} {H : Hp} {v : V} {d : D} {ns : List Int} (w : WOk W H) (r : Rep K W v d) (h : numsOf d = some ns) : ∃ l, v = .ref l ∧ (SqL K H l (ns.map V.int) ∨ SqT K H l (ns.map V.int)) := by
  cases r with
  | @tup a vs ds hx r =>
    rw [← ints_rep r h]
    exact ⟨a, rfl, .inr (w.sqT hx)⟩
  | @lst a vs ds hx r =>
    rw [← ints_rep r h]
    exact ⟨a, rfl, .inl (.inl (.inl (w.sub _ _ hx)))⟩
  | _ => cases h
section
variable {S : Sx} {ρ : List Sl} {ta : TE} {ra : M D}
theorem se_lenSet (h : SE S ta ρ ra) : SE S (tLenSet S.K ta) ρ (ra >>= lenSet) := fun σ H W H0 Q e w q => by
  refine h.go e w q (fun _ z => z) fun d v W1 H1 q1 s1 r1 e1 => ?_
  obtain ⟨ns, hn, q2⟩ := ofO_run q1
  obtain ⟨l, rfl, hl⟩ := numsOf_rep s1.ok r1 hn
  exact ⟨l, ns, rfl, hl, q2.1, q2.2 _ W1 H1 s1 (.int _)⟩
/-! sorted(set(x)), x a tuple of numbers -/
theorem putZ_perm (x : Int) : ∀ r, (putZ x r).Perm (x :: r)
  | [] => .refl _
  | y :: r => by
    rw [putZ]
    split
    · exact .refl _
    · exact ((putZ_perm x r).cons y).trans (.swap x y r)
theorem sortZ_perm : ∀ r, (sortZ r).Perm r
  | [] => .refl _
  | x :: r => (putZ_perm x _).trans ((sortZ_perm r).cons x)
theorem putZ_sorted (x : Int) : ∀ r : List Int, r.Pairwise (· ≤ ·) → (putZ x r).Pairwise (· ≤ ·)
  | [], _ => List.pairwise_singleton _ _
  | y :: r, h => by
    have h' := List.pairwise_cons.mp h
    rw [putZ]
    split
    · rename_i c
      refine List.pairwise_cons.mpr ⟨fun z hz => ?_, h⟩
      rcases List.mem_cons.mp hz with rfl | m
      · omega
      · have := h'.1 z m
        omega
    · rename_i c
      refine List.pairwise_cons.mpr ⟨fun z hz => ?_, putZ_sorted x r h'.2⟩
      rcases List.mem_cons.mp ((putZ_perm x r).mem_iff.mp hz) with rfl | m
      · omega
      · exact h'.1 z m
theorem sortZ_sorted : ∀ r : List Int, (sortZ r).Pairwise (· ≤ ·)
  | [] => List.Pairwise.nil
  | x :: r => putZ_sorted x _ (sortZ_sorted r)
theorem sortZ_of {ns ms : List Int} (h1 : ns.Pairwise (· < ·)) (h2 : ms.Nodup) (h : ∀ k, k ∈ ns ↔ k ∈ ms) : ns = sortZ ms := by
  have nd : ns.Nodup := h1.imp fun h => by omega
  have p : ns.Perm (sortZ ms) := ((List.perm_ext_iff_of_nodup nd h2).mpr h).trans (sortZ_perm ms).symm
  exact p.eq_of_pairwise (le := (· ≤ ·)) (fun a b _ _ x y => by omega) (h1.imp fun h => by omega) (sortZ_sorted ms)
theorem reps_ints {K : PySem.W.Frag} {W : Wd} : ∀ ns : List Int, Reps K W (ns.map V.int) (ns.map D.int)
  | [] => .nil
  | n :: r => .cons (.int n) (reps_ints r)
theorem so_sortSet {w : World} (h : SE S ta ρ ra) : SO S (tCB (rSortedSet w) (tCons (tCB (rSetN S.K w) (tCons ta tNil)) tNil)) ρ (ra >>= sortSet) := fun σ H W H0 Q e wk q => by
  refine h.go e wk q (fun _ z => z) fun d v W1 H1 q1 s1 r1 e1 => ?_
  cases r1 with
  | @tup a vs ds hx r =>
    obtain ⟨ns, hn, ⟨q2, q3⟩, q4⟩ := ofO_run q1
    have ev := ints_rep r hn
    refine ⟨a, ns, rfl, by rw [← ev]; exact s1.ok.sqT hx, q2, fun b S' hb hS => ?_⟩
    refine ⟨b, S', _, rfl, upd_same, q3, fun ms p h1 h2 h3 hp => ?_⟩
    have e2 : ms = sortZ (ddI ns) := sortZ_of h1 (ddI_ok ns).1 fun k => by rw [h2, hS, (ddI_ok ns).2]
    subst e2
    have s2 := Step.raw s1.ok (o := SetO w b S' (ddI ns).length) hb
    have s3 := Step.raw s2.ok (o := .lst ((sortZ (ddI ns)).map V.int)) hp
    have np := nopen s2.ok hp
    exact q4 p _ W1 _ ((s1.trans wk s2).trans wk s3) (s1.free0 wk (s2.free0 s1.ok hp)) upd_same np.1 np.2 (reps_ints _)
  | _ => exact (show False from q1).elim
end
section
variable {S : Sx} {ρ : List Sl} {ta : TE} {ra : M D}
/-! ### str of a number -/
theorem cs_strI {K : PySem.W.Frag} : CaS K (fun xs H Q => ∃ i, xs = [.int i] ∧ i.natAbs.log2 < 1920 ∧ Q (.str (toString i)) H) (f1 D.strI) := by
  intro W H vs ds Q E w rs h
  obtain ⟨d, rfl, h⟩ := f1_run h
  obtain ⟨v, rfl, r⟩ := rs.of1
  cases r with
  | int i => exact ⟨i, rfl, h.1, post_here w h.2 (.str _)⟩
  | _ => exact (show False from h).elim
theorem scal_reps {K : PySem.W.Frag} {W W' : Wd} : ∀ {vs : List V} {ds : List D}, (∀ d ∈ ds, d.scal) → Reps K W vs ds → Reps K W' vs ds
  | _, _, _, .nil => .nil
  | _, _, h, .cons a r => .cons (scal_rep (h _ List.mem_cons_self) a) (scal_reps (fun d hd => h d (List.mem_cons_of_mem _ hd)) r)
/-- a new list of plain things, made while a list of one's own is read -/
theorem so_lend {t : TE} {r : M (List D)} {i : Nat} {ds : List D} (h : ρ[i]? = some (.own ds)) (s : SO S t (ρ.set i (.val (.lst ds))) r) : SO S t ρ (r >>= fun xs => guard (∀ d ∈ xs, d.scal) >>= fun _ => pure xs) := fun σ H W H0 Q e w q => by
  obtain ⟨W1, e1, w1, old, back⟩ := lent e w h
  refine s σ H W1 H0 Q e1 w1 (r.mono (fun xs hd a vs W' H' st h0 g1 g2 g3 rp => ?_) (fun x hx cv dx W' H' st rp => xpost_lend w old back st hx rp) q)
  refine hd.2 a vs _ H' (back W' H' st) h0 g1 ?_ (nopen w h0).2 (scal_reps hd.1 rp)
  rw [backW_new (nopen w h0).1 h0]
  unfold tupP
  rw [g2]
end
/-! ### a def that has another name at the top -/
def DfA (K : PySem.W.Frag) (mg : Str → Option Value) (x y : Str) (st : Stmt) (ps : List Str) : Prop := ∃ f fd, L2.Fun K y y st f fd ∧ mg x = some (.ref f) ∧ Binds K fd ps [] ∧ ∀ (s : Shared) (us : List Value), us.length = ps.length → BindsTo s fd ⟨us, []⟩ (ps.zip us)
section
variable {P : Program} {w : World} {K : PySem.W.Frag} {mg : Str → Option Value} {base : Heap}
theorem dfA_mk {h : Heap} {x y : Str} {st : Stmt} {ps : List Str} {f : Addr} {oc : Value} {od an : Option Addr} {osl : Array (Option Value)} {kV doc pm cdv ct : Value} (X : K.In h) (G : h.Ns mainGlobals mg)
    (a : PySem.W.nsIn K mainGlobals x = some (some (.ref f)))
    (l : K.lookup f = some ⟨oc, od, .func (PySem.W.fnOf y y (defArgs st) (defBody st) (defScope st) .none kV doc pm an cdv ct), osl⟩)
    (c : PySem.W.codeIn K cdv y = true) (k : PySem.W.keepIn K (.ref f) = true)
    (b : ∀ (kV doc pm : Value) (an : Option Addr) (cdv ct : Value) (us : List Value), us.length = ps.length → bindArgs (PySem.W.fnOf y y (defArgs st) (defBody st) (defScope st) .none kV doc pm an cdv ct) ⟨us, []⟩ = pure (ps.zip us)) : DfA K mg x y st ps := by
  have F := fun_mk l c k
  exact ⟨f, _, F, PySem.W.mg_of X G a, F.binds b, fun _ us hl => .of_eq (b kV doc pm an cdv ct us hl)⟩
theorem cdA_of {qg : Bool} {x y : Str} {st : Stmt} {N ps : List Str} {k : Nat} (own : Bool) {F : List D → M (Fl Unit Empty)} (d : DfA K mg x y st ps) (sc : FnScope N ps (defScope st))
    (hbody : ∀ (f : Addr) (cdv : Value) (A : Around) (outer : List Env) (s : Shared) (H : Hp) (E : XK),
      Room k (A.deeper (PyProof.Rows.envOfC y (defScope st) s.heap.objs.size f cdv)) → (qg = true → (A.deeper (PyProof.Rows.envOfC y (defScope st) s.heap.objs.size f cdv)).guards = some []) →
        ∃ t, PSs (cxOf (L2.CX P w) P w K mg base N y (defScope st) f cdv A outer s H E) (defBody st) t ∧
          ∀ ds, ds.length = ps.length → SS ⟨K, mg, E⟩ own t (startS N.length ds) (enc0 N.length) noE (F ds)) :
    Cd qg P w K mg base x (k + 1) ps (spD K mg own ps.length (fun ds => endB own (F ds))) := by
  obtain ⟨f, fd, Fn, g, b, _⟩ := d
  exact ⟨f, fd, g, Fn.kp, b, g_of own Fn sc fun cdv A outer s H E _ => hbody f cdv A outer s H E⟩
end
end Ev

namespace Ev
open PySem PySem.Spec L2
variable [Tb]
/-! ### x or y, by truth -/
section
variable {S : Sx} {ρ : List Sl} {ta tb : TE} {ra rb : M D}
theorem tru_rep {K : PySem.W.Frag} {W : Wd} {H : Hp} (w : WOk W H) {v : V} {d : D} {k : Bool} (r : Rep K W v d) (h : d.tru = some k) : TruV K v H k := by
  cases r with
  | non => cases h; rfl
  | bl b => cases h; rfl
  | int i => cases h; rfl
  | str x => cases h
  | tup hx rs =>
    cases h
    refine .inr (.inl ⟨_, w.sqT hx, ?_⟩)
    cases rs <;> rfl
  | lst hx rs =>
    cases h
    refine .inl ⟨_, .inl (.inl (w.sub _ _ hx)), ?_⟩
    cases rs <;> rfl
  | dct _ _ => cases h
  | pen _ => cases h
  | scr _ => cases h
  | mem _ _ => cases h
  | obj _ _ => cases h
  | fn _ _ => cases h
  | raw _ => cases h
theorem se_orT (h : SE S ta ρ ra) (h2 : SE S tb ρ rb) : SE S (tOrT S.K ta tb) ρ (orT ra rb) := fun σ H W H0 Q en w q => by
  refine h.go en w q (fun _ z => z) fun d v W1 H1 q1 s1 r1 e1 => ?_
  change (match d.tru with | some k => if k then pure d else rb | none => fail : M D).run _ _ at q1
  rcases e : d.tru with _ | k
  · rw [e] at q1
    exact (show False from q1).elim
  rw [e] at q1
  have hk := e
  refine ⟨k, tru_rep s1.ok r1 hk, ?_⟩
  cases k with
  | false => exact iteF (h2.go e1 s1.ok q1 (fun _ z => z.after w s1) fun d v W2 H2 q2 s2 r2 _ => q2 v W2 H2 (s1.trans w s2) r2)
  | true => exact iteT (q1 _ W1 H1 s1 r1)
end
/-! ### a list backward -/
section
variable {S : Sx} {ρ : List Sl} {ra : M D} {ta : TE}
theorem se_revL (h : SE S ta ρ ra) : SE S (tRevL S.K ta) ρ (ra >>= revLM) := fun σ H W H0 Q e w q => by
  refine h.go e w q (fun _ z => z) fun d v W1 H1 q1 s1 r1 e1 => ?_
  cases r1 with
  | @lst a vs ds hx r => exact ⟨a, vs, rfl, .inl (.inl (s1.ok.sub _ _ hx)), post_lst s1.ok (Post.after w s1 q1) r.reverse⟩
  | _ => exact (show False from q1).elim
end
end Ev

namespace Ev
open PySem PySem.Spec L2 PySem.W
variable [Tb]
/-! ### min of tuples of numbers: one of them -/
theorem alike_ints : ∀ a b : List Int, alikeAll (D.pys (a.map D.int)) (D.pys (b.map D.int)) = true
  | [], b => by simp [D.pys, alikeAll]
  | _ :: _, [] => by simp [D.pys, alikeAll]
  | x :: a, y :: b => by simp [D.pys, D.py, alikeAll, alike, alike_ints a b]
theorem pys_tups (ls : List (List Int)) : D.pys (ls.map fun l => D.tup (l.map D.int)) = ls.map fun l => PyData.tuple (D.pys (l.map D.int)) := by
  induction ls with
  | nil => simp [D.pys]
  | cons l r ih => simp [D.pys, D.py, ih]
theorem depth_ints (l : List Int) : PyData.depthAll (D.pys (l.map D.int)) = 0 := by
  induction l with
  | nil => simp [D.pys, PyData.depthAll]
  | cons x r ih => simp [D.pys, D.py, PyData.depthAll, PyData.depth, ih]
theorem depth_tups (ls : List (List Int)) : PyData.depthAll (D.pys (ls.map fun l => D.tup (l.map D.int))) ≤ 1 := by
  induction ls with
  | nil => simp [D.pys, PyData.depthAll]
  | cons x r ih =>
    rw [List.map_cons, D.pys, D.py, PyData.depthAll, PyData.depth, depth_ints]
    omega
theorem plain_ints (l : List Int) : D.plains true (l.map D.int) = true := by
  rw [D.plains_all, List.all_eq_true]
  intro x hx
  obtain ⟨i, _, rfl⟩ := List.mem_map.mp hx
  rfl
def rMinT (K : PySem.W.Frag) : List V → Hp → VK → Prop := fun vs H Q => ∃ a us W ls, vs = [.ref a] ∧ SqL K H a us ∧ WOk W H ∧ Reps K W us (ls.map fun l : List Int => D.tup (l.map D.int)) ∧ ls ≠ [] ∧ ∀ u ∈ us, Q u H
theorem call_minT {X : Cx} {K : PySem.W.Frag} (hK : X.K = K) (hc : X.calm = true) (hu : X.A.units + 64 < cLine) : CallR X (.builtin "min") (rMinT K) := by
  subst hK
  intro pins s σ H vs us Q I r h
  obtain ⟨a, ws, W, ls, rfl, hs, w, rp, hne, q⟩ := h
  obtain ⟨its, rv, hl, hz⟩ := I.list hs
  obtain ⟨u, rfl, ru⟩ := vals1 r
  obtain rfl : u = Value.ref a := ru
  have hp : D.plains true (ls.map fun l => D.tup (l.map D.int)) = true := by
    rw [D.plains_all, List.all_eq_true]
    intro x hx
    obtain ⟨l, _, rfl⟩ := List.mem_map.mp hx
    rw [D.plain]
    exact plain_ints l
  obtain ⟨as, rs, _⟩ := Reps.reads I w rp rv hp
  have hd := depth_tups ls
  have ha : AlikeAll (D.pys (ls.map fun l => D.tup (l.map D.int))) := by
    rw [pys_tups]
    refine ⟨fun x hx y hy => ?_, fun x hx => ?_⟩
    · obtain ⟨l, _, rfl⟩ := List.mem_map.mp hx
      obtain ⟨m, _, rfl⟩ := List.mem_map.mp hy
      rw [alike]
      exact alike_ints l m
    · obtain ⟨l, _, rfl⟩ := List.mem_map.mp hx
      exact fun z => by cases z
  cases ls with
  | nil => exact absurd rfl hne
  | cons l0 lr =>
    rw [List.map_cons, D.pys] at rs hd ha
    refine min_list_data (I.ok.hd hc) hl.isList (by simpa using rs) ha (by omega) fun i v h' tk bs hi _ hk => ?_
    have hi' : its[i]? = some v := by simpa using hi
    have hlt := (List.getElem?_eq_some_iff.mp hi').1
    have hw : ws[i]? = some (ws[i]'(by rw [rv.length]; exact hlt)) := List.getElem?_eq_getElem _
    obtain ⟨u', e1, r1⟩ := rv.get hw
    rw [hi'] at e1
    cases e1
    exact ⟨_, H, I.kept hk, r1, q _ (List.getElem_mem _)⟩
theorem numsL_tups {xs : List D} {ls : List (List Int)} (h : numsL xs = some ls) : xs = ls.map fun l => D.tup (l.map D.int) := by
  have key : ∀ (xs : List D) (a : List Int), intsL xs = some a → xs = a.map D.int := by
    intro xs
    induction xs with
    | nil => intro a h; cases h; rfl
    | cons x xs ih =>
      intro a h
      cases x with
      | int i =>
        rw [intsL, Option.map_eq_some_iff] at h
        obtain ⟨b, hb, rfl⟩ := h
        rw [ih b hb]
        rfl
      | _ => exact absurd h (by simp [intsL])
  induction xs generalizing ls with
  | nil => cases h; rfl
  | cons x r ih =>
    rw [numsL, Option.bind_eq_some_iff] at h
    obtain ⟨a, e1, e2⟩ := h
    rw [Option.map_eq_some_iff] at e2
    obtain ⟨t, e3, rfl⟩ := e2
    rw [List.map_cons, ← ih e3]
    cases x with
    | tup xs => rw [key xs a e1]
    | _ => cases e1
theorem cs_minT {K : PySem.W.Frag} : CaS K (rMinT K) (f1 D.minT) := by
  intro W H vs ds Q E w rs h
  obtain ⟨d, rfl, h⟩ := f1_run h
  obtain ⟨v, rfl, r⟩ := rs.of1
  cases r with
  | @lst a vs ds hx r =>
    obtain ⟨⟨ls, e, hne⟩, q⟩ := h
    have e2 := numsL_tups e
    subst e2
    refine ⟨a, vs, W, ls, rfl, .inl (.inl (w.sub _ _ hx)), w, r, hne, fun u hu => ?_⟩
    obtain ⟨i, hi⟩ := List.mem_iff_getElem?.mp hu
    obtain ⟨d, e1, r1⟩ := r.get' hi
    exact post_here w (q d (List.mem_of_getElem? e1)) r1
  | _ => exact (show False from h).elim
/-! ### sorted of a tuple of numbers -/
section
open PyProof.Rows
variable {prog : Program} {w : World} {A : Around} {E : Value → Shared → Prop} {s : Shared}
theorem collect_tup {l : Addr} {vs : List Value} {Q : List Value → Shared → Prop} (hl : s.heap.IsTuple l vs.toArray)
    (h : Q vs { s with heap := (s.heap.push (seqObj "list" #[] 0)).update s.heap.objs.size (Obj.mapSeq (· ++ vs.toArray)) }) (hsz : vs.length ≤ sizeLine) :
    wpAny (model prog w) A (collect (.ref l)) Q E s := by
  obtain ⟨o, ho, hc, n, hd⟩ := id hl
  unfold collect
  refine wpAny_bind (wpAny_runValue (codeAny_builtin entry_proto_collect' ?_))
  show wpAny _ _ (do again (.builtin "list.__iadd__" ⟨[← newList [], .ref l], []⟩)) _ _ s
  refine wpAny_bind (wpAny_newList (wpAny_pure ⟨Code.quiet_builtin _ (by decide +kernel), codeAny_builtin entry_list_iadd' ?_⟩))
  show wpAny _ _ (Builtin.List.listExtendWith (.ref s.heap.objs.size) (.ref l) (.ref s.heap.objs.size)) _ _ { s with heap := s.heap.push (seqObj "list" #[] 0) }
  unfold Builtin.List.listExtendWith
  have ho' : (s.heap.push (seqObj "list" #[] 0)).get? l = some o := Heap.get?_push_of_some _ ho
  refine wpAny_bind (wpAny_typeOf (T := "tuple") ⟨o, ho', hc⟩ ?_)
  have ht : (Value.type "tuple" == Value.type "tuple") = true := by rfl
  rw [if_pos (by rw [ht]; simp)]
  refine wpAny_bind (listItems_at ho' hd ?_)
  refine wpAny_bind (listItems_at (xs := #[]) (n := 0) (Heap.get?_push_size _ rfl) rfl ?_)
  rw [if_neg (by simp)]
  refine wpAny_bind (listUpdate_at (xs := #[]) (n := 0) (Heap.get?_push_size _ rfl) rfl ?_ (Nat.zero_le _) (by show (#[] ++ vs.toArray).size ≤ sizeLine + 1; simp only [Array.size_append, List.size_toArray, List.length_nil]; omega))
  refine wpAny_pure ?_
  show wpAny (model prog w) A (do
      let o ← load s.heap.objs.size
      match o.data with
      | .seq xs _ => pure xs.toList
      | _ => unsupported "internal:collect") Q E { s with heap := (s.heap.push (seqObj "list" #[] 0)).update s.heap.objs.size (Obj.mapSeq (· ++ vs.toArray)) }
  refine wpAny_bind (wpAny_load (get?_update_seq (Heap.get?_push_size _ rfl) _) ?_)
  show wpAny _ _ (pure ((#[] : Array Value) ++ vs.toArray).toList) Q E _
  rw [show ((#[] : Array Value) ++ vs.toArray).toList = vs by simp]
  exact wpAny_pure h
theorem sorted_tup {l : Addr} {vs : List Value} {ltv : Value → Value → Bool} {Q : Value → Shared → Prop} (O : SrtO.Swo ltv) (hl : s.heap.IsTuple l vs.toArray) (hz : vs.length ≤ sizeLine)
    (hS : 2 ≤ vs.length → ∀ (h₁ : Heap) (a : Addr), h₁.get? a = some (seqObj "list" vs.toArray 0) → (∀ b o, s.heap.get? b = some o → b ≠ a ∧ h₁.get? b = some o) → SrtO.SortableO prog w A.in1.in1 { s with heap := h₁ } a vs ltv)
    (h : ∀ out : List Value, SrtO.Srtd ltv out → SrtO.Stb ltv out vs → Q (.ref (s.heap.objs.size + 1)) { s with heap := sortedAll s.heap vs out.toArray }) :
    wpAny (model prog w) A (call (.builtin "sorted") [.ref l]) Q E s := by
  refine Calls.call_function_entry kind_sorted plain_sorted entry_sorted (args_sorted1 _) ?_
  unfold Builtin.«sorted»
  refine wpAny_bind (m := checkCount "sorted" 1 1 _) (wpAny_pure ?_)
  refine wpAny_bind (collect_tup hl ?_ hz)
  refine wpAny_bind (wpAny_newList ?_ hz)
  have hsz : ((s.heap.push (seqObj "list" #[] 0)).update s.heap.objs.size (Obj.mapSeq (· ++ vs.toArray))).objs.size = s.heap.objs.size + 1 := by
    rw [Heap.size_update, size_push']
  have hoL : (((s.heap.push (seqObj "list" #[] 0)).update s.heap.objs.size (Obj.mapSeq (· ++ vs.toArray))).push (seqObj "list" vs.toArray 0)).get? (s.heap.objs.size + 1) = some (seqObj "list" vs.toArray 0) := by
    rw [← hsz]; exact Heap.get?_push_size _ rfl
  have keep : ∀ b o, s.heap.get? b = some o → b ≠ s.heap.objs.size + 1 ∧ (((s.heap.push (seqObj "list" #[] 0)).update s.heap.objs.size (Obj.mapSeq (· ++ vs.toArray))).push (seqObj "list" vs.toArray 0)).get? b = some o := fun b o q => by
    have hlt : b < s.heap.objs.size := Heap.lt_size q
    refine ⟨Nat.ne_of_lt (Nat.lt_succ_of_lt hlt), Heap.get?_push_of_some _ ?_⟩
    rw [Heap.get?_update_ne _ _ _ _ (Nat.ne_of_lt hlt)]
    exact Heap.get?_push_of_some _ q
  show wpAny _ _ _ _ _ { s with heap := ((s.heap.push (seqObj "list" #[] 0)).update s.heap.objs.size (Obj.mapSeq (· ++ vs.toArray))).push (seqObj "list" vs.toArray 0) }
  rw [hsz]
  refine wpAny_bind (wpAny_holding (wpAny_call_entry slot_list_sort ⟨_, hoL, rfl⟩ entry_list_sort (SrtO.list_sort_ord O hoL hz (fun h2 => hS h2 _ _ hoL keep) fun out hs hb => ⟨_, rfl, ?_⟩) (args_list_sort _)))
  exact wpAny_pure ⟨_, rfl, h out hs hb⟩
end
def rSortTI (K : PySem.W.Frag) : List V → Hp → VK → Prop := fun vs H Q => ∃ (a : Addr) (ns : List Int), vs = [V.ref a] ∧ SqT K H a (ns.map V.int) ∧ ∀ p, H p = none → Q (.ref p) (upd H p (.lst ((sortZ ns).map V.int)))
theorem sortZ_eq {ns ms : List Int} (h1 : ms.Perm ns) (h2 : ms.Pairwise (· ≤ ·)) : ms = sortZ ns :=
  (h1.trans (sortZ_perm ns).symm).eq_of_pairwise (le := (· ≤ ·)) (fun a b _ _ x y => by omega) h2 (sortZ_sorted ns)
theorem call_sortTI {X : Cx} : CallR X (.builtin "sorted") (rSortTI X.K) := by
  intro pins s σ H vs us Q I r h
  obtain ⟨a, ns, rfl, hs, q⟩ := h
  obtain ⟨its, rv, hl, hz⟩ := I.tuple hs
  obtain ⟨u, rfl, ru⟩ := vals1 r
  obtain rfl : u = Value.ref a := ru
  have hi := rv.ints
  have hz' : its.length ≤ sizeLine := by rw [← rv.length]; exact hz
  refine sorted_tup SrtO.swo_int hl hz' (fun h2 h₁ a' _ _ => SrtO.ints_sortable hi h2) fun out h1 h2 => ?_
  obtain ⟨k1, k2, k3⟩ := SrtO.ints_out hi h1 h2
  obtain ⟨ep, he'⟩ := PyProof.Rows.sortedAll_at s.heap its out.toArray
  have hlen : ((out.map SrtO.iv).map V.int).length ≤ sizeLine := by
    rw [List.length_map, k2.length_eq]
    rw [List.length_map] at hz
    exact hz
  refine ⟨.ref _, upd H (s.heap.objs.size + 1) (.lst ((out.map SrtO.iv).map V.int)), I.laid (t' := s.toks) (fun _ _ => PyProof.Rows.sortedAll_old) (Nat.le_succ _) ⟨hlen, out, ep, vals_of_ints k1, he'⟩, rfl, ?_⟩
  rw [sortZ_eq k2 k3]
  exact q _ (I.hok.fresh (Nat.le_succ _))
def rSortA (K : PySem.W.Frag) : List V → Hp → VK → Prop := fun vs H Q => rSortN K vs H Q ∨ rSortTI K vs H Q
theorem call_sortA {X : Cx} {K : PySem.W.Frag} (hK : X.K = K) : CallR X (.builtin "sorted") (rSortA K) := by
  intro pins s σ H vs us Q I r h
  rcases h with h | h
  · exact call_sortK hK pins s σ H vs us Q I r h
  · subst hK
    exact call_sortTI pins s σ H vs us Q I r h
theorem ints_reps {K : PySem.W.Frag} {W : Wd} : ∀ ns : List Int, Reps K W (ns.map V.int) (ns.map D.int)
  | [] => .nil
  | i :: r => .cons (.int i) (ints_reps r)
theorem co_sortA {K : PySem.W.Frag} : CaO K (rSortA K) (fo1 D.sortA) := by
  intro W H vs ds Q E w rs h
  obtain ⟨d, rfl, h⟩ := fo1_run h
  cases d with
  | tup xs =>
    obtain ⟨v, rfl, r⟩ := rs.of1
    cases r with
    | @tup a us ds hx r =>
      obtain ⟨ns, e, q⟩ := ofO_run h
      have ev := ints_rep r e
      refine .inr ⟨a, ns, rfl, by rw [← ev]; exact w.sqT hx, fun p hp => post_own w q (ints_reps _) p hp⟩
  | lst xs => exact .inl (co_sort W H vs [.lst xs] Q E w rs h)
  | _ => exact (show False from h).elim
end Ev

namespace Ev
open PySem PySem.Spec L2 PySem.W
variable [Tb]
/-! ### min of alike data -/
def rMinG (K : PySem.W.Frag) : List V → Hp → VK → Prop := fun vs H Q => ∃ a us W ds x r, vs = [.ref a] ∧ SqL K H a us ∧ WOk W H ∧ Reps K W us ds ∧ D.pys ds = x :: r ∧ AlikeAll (x :: r) ∧ PyData.depthAll (x :: r) ≤ 60 ∧ D.plains true ds = true ∧ ∀ (i : Nat) (u : V) (d : D), us[i]? = some u → ds[i]? = some d → d.py = minD x r → Q u H
theorem call_minG {X : Cx} {K : PySem.W.Frag} (hK : X.K = K) (hc : X.calm = true) (hu : X.A.units + 64 < cLine) : CallR X (.builtin "min") (rMinG K) := by
  subst hK
  intro pins s σ H vs us Q I r h
  obtain ⟨a, ws, W, ds, x, rr, rfl, hs, w, rp, hpy, ha, hd, hp, q⟩ := h
  obtain ⟨its, rv, hl, hz⟩ := I.list hs
  obtain ⟨u, rfl, ru⟩ := vals1 r
  obtain rfl : u = Value.ref a := ru
  obtain ⟨as, rs, _⟩ := Reps.reads I w rp rv hp
  rw [hpy] at rs
  refine min_list_data (I.ok.hd hc) hl.isList (by simpa using rs) ha (by omega) fun i v h' tk bs hi hr hk => ?_
  have hi' : its[i]? = some v := by simpa using hi
  have hlt := (List.getElem?_eq_some_iff.mp hi').1
  have hw : ws[i]? = some (ws[i]'(by rw [rv.length]; exact hlt)) := List.getElem?_eq_getElem _
  obtain ⟨u', e1, r1⟩ := rv.get hw
  rw [hi'] at e1
  cases e1
  obtain ⟨d, e2, _⟩ := rp.get' hw
  obtain ⟨cs, g1, g2, _⟩ := readsAll_at rs i v hi'
  have e3 : (x :: rr).getD i .none = d.py := by
    rw [← hpy, D.pys_map, List.getD_eq_getElem?_getD, List.getElem?_map, e2]
    rfl
  rw [e3] at g1
  have e4 := (Reads.unique (reads_keeps hk g1) _ _ hr).1
  exact ⟨_, H, I.kept hk, r1, q i _ d hw e2 e4⟩
theorem cs_minG {K : PySem.W.Frag} : CaS K (rMinG K) (f1 D.minG) := by
  intro W H vs ds Q E w rs h
  obtain ⟨d, rfl, h⟩ := f1_run h
  obtain ⟨v, rfl, r⟩ := rs.of1
  cases r with
  | @lst a vs ds hx r =>
    obtain ⟨x, rr, e1, e2, e3, e4, q⟩ := h
    refine ⟨a, vs, W, ds, x, rr, rfl, .inl (.inl (w.sub _ _ hx)), w, r, e1, e2, e3, e4, fun i u d hu hd e => ?_⟩
    obtain ⟨d', f1, f2⟩ := r.get' hu
    rw [hd] at f1
    cases f1
    exact post_here w (q d (List.mem_of_getElem? hd) e) f2
  | _ => exact (show False from h).elim
/-! ### bits -/
theorem os_shl {K : PySem.W.Frag} : OpS K (rI CPow fun i j => .int (i * 2 ^ j.toNat)) D.shl := by
  intro W H x y dx dy Q E w rx ry h
  cases rx with
  | int i => cases ry with
    | int j => exact ⟨i, j, rfl, rfl, h.1, post_here w h.2 (.int _)⟩
    | _ => exact (show False from h).elim
  | _ => exact (show False from h).elim
theorem os_shr {K : PySem.W.Frag} : OpS K (rI (fun _ j => 0 ≤ j) fun i j => .int (i / 2 ^ j.toNat)) D.shr := by
  intro W H x y dx dy Q E w rx ry h
  cases rx with
  | int i => cases ry with
    | int j => exact ⟨i, j, rfl, rfl, h.1, post_here w h.2 (.int _)⟩
    | _ => exact (show False from h).elim
  | _ => exact (show False from h).elim
theorem bitAnd_nat {i j : Int} (h : 0 ≤ i) (h' : 0 ≤ j) : Builtin.bitAnd i j = ((i.toNat &&& j.toNat : Nat) : Int) := by
  simp only [Builtin.bitAnd, h, h', decide_true]
theorem os_and {K : PySem.W.Frag} : OpS K (rI0 fun i j => .int (Builtin.bitAnd i j)) D.band := by
  intro W H x y dx dy Q E w rx ry h
  cases rx with
  | int i => cases ry with
    | int j =>
      refine ⟨i, j, rfl, rfl, ?_⟩
      show Q (.int (Builtin.bitAnd i j)) H
      rw [bitAnd_nat h.1.1 h.1.2]
      exact post_here w h.2 (.int _)
    | _ => exact (show False from h).elim
  | _ => exact (show False from h).elim
end Ev

namespace Ev
open PySem PySem.Spec PyProof.Rows L2
variable [Tb]

/-! ### a lambda is made: a table grows, a code object is new -/
def TurnsT (H H1 : Hp) : Prop := H1 = H ∨ ∃ (B N : Addr) (q : Str) (ps : Array Value), (∃ ps0, H B = some (.tbl ps0)) ∧ H N = none ∧ H1 = upd (upd H B (.tbl ps)) N (LamX.CodeO N q)
theorem step_turns {W : Wd} {H H1 : Hp} (w : WOk W H) (h : TurnsT H H1) (t : LamX.Tabs Tb.T H1) : Step W H W H1 := by
  rcases h with rfl | ⟨B, N, q, ps, ⟨ps0, hB⟩, hN, rfl⟩
  · exact Step.refl w
  · obtain ⟨b1, q0, b2⟩ := w.tb B ps0 hB
    have nBN : B ≠ N := ne_of_none hB hN
    have far : ∀ b u, H b = some u → W.N b ≠ some Kind.tab → upd (upd H B (.tbl ps)) N (LamX.CodeO N q) b = some u := fun b u e n => by
      rw [upd_ne (ne_of_none e hN), upd_ne (fun z => n (by rw [z]; exact b1))]
      exact e
    have pB : W.P B = none := (w.pen B _ b1).1
    refine ⟨Le.refl W, ⟨fun b u e => far b u (w.sub b u e) (fun z => ?_), fun b φ e => ?_, t, fun b ps' e => ?_⟩, fun b u e n => far b u e (fun z => by rw [n] at z; cases z), fun _ _ => rfl, fun _ _ => rfl⟩
    · rw [(w.pen b _ z).1] at e
      cases e
    · obtain ⟨p1, o, p2, p3⟩ := w.pen b φ e
      refine ⟨p1, ?_⟩
      by_cases hb : b = B
      · subst hb
        rw [b1] at e
        cases e
        exact ⟨_, by rw [upd_ne nBN, upd_same], _, rfl⟩
      · exact ⟨o, by rw [upd_ne (ne_of_none p2 hN), upd_ne hb]; exact p2, p3⟩
    · by_cases hb : b = N
      · subst hb
        rw [upd_same] at e
        exact absurd (Option.some.inj e) (LamX.codeO_ne ps')
      · rw [upd_ne hb] at e
        by_cases hb2 : b = B
        · subst hb2
          exact ⟨b1, q0, b2⟩
        · rw [upd_ne hb2] at e
          exact w.tb b ps' e
section
variable {X : Cx} {pins : List (Addr × Obj)} {σ : L2.St} {H : Hp} {s : Shared}
/-- the making, with what it changes told in full -/
theorem make_lam {T : List (Addr × Str)} {c B : Addr} {pa : Arguments} {bo : Expr} {sc : Scope} {pos : Pos} {E Q : Value → Shared → Prop} (I : L2.Inv X pins σ H s) (tB : LamX.TabB X.base X.mg c B) (hcode : X.env.code = .ref c)
    (hm : (B, X.env.qual ++ "<lambda>") ∈ T) (hu : ∀ p ∈ T, p.1 = B → p.2 = X.env.qual ++ "<lambda>") (hT : LamX.Tabs T H) (hdef : defaultsOf pa X.env = ([], [])) (hfree : ∀ y ∈ sc.names, y.2 = .free → ∃ c, X.env.cells.lookup y.1 = some c)
    (h : ∀ (f N : Addr) (pm ct : Value) (H1 : Hp) (s' : Shared), L2.Inv X pins σ H1 s' → TurnsT H H1 → LamX.Tabs T H1 →
      s'.heap.get? f = some (PySem.W.kla_obj "<lambda>" (X.env.qual ++ "<lambda>") pa bo sc (cloFrom X.env.cells sc.names []) pm N ct) → H1 f = none → f ∉ frs X.stack → H1 N = some (LamX.CodeO N (X.env.qual ++ "<lambda>")) → Q (.ref f) s') :
    wpAny (model X.prog X.w) X.A (eval (.Lambda pa bo sc pos) X.env) Q E s := by
  obtain ⟨ps, hB, triples, named⟩ := hT _ hm
  have hB0 : s.heap.get? B = some { cls := .none, data := .fields ps } := I.hok B _ hB
  have outside : ∀ f, s.heap.objs.size ≤ f → f ∉ frs X.stack := by
    intro f hf z
    cases List.mem_cons.mp (I.stkSub _ z) with
    | inl e => exact absurd (Nat.lt_of_lt_of_le I.lt (by rw [← e]; exact hf)) (Nat.lt_irrefl _)
    | inr e => exact I.nofs hf e
  apply PySem.W.kla_eval hdef
  match hc : codeAmong pos ps.toList with
  | some cv =>
    obtain ⟨N, rfl, hco⟩ := named pos cv hc
    apply PySem.W.kla_makeFunctionHit (mg := X.mg) (c := c) (P := B) (ps := ps) (closure_ok hfree) I.ok.glob (I.mod.glob.keeps I.bk) hcode (tB.code.keeps I.bk) hB0 triples hc (tB.bm.keeps I.bk)
    intro ct h' tk hx hsz
    exact h h'.objs.size N ((X.mg "__name__").getD .none) ct H _ (I.kept fun b o e => Heap.get?_push_of_some _ (hx b o e)) (.inl rfl) hT (Heap.get?_push_size _ rfl) (I.hok.fresh hsz) (outside _ hsz) hco
  | none =>
    apply PySem.W.kla_makeFunction (mg := X.mg) (c := c) (P := B) (ps := ps) (closure_ok hfree) I.ok.glob (I.mod.glob.keeps I.bk) hcode (tB.code.keeps I.bk) hB0 triples hc tB.gP (tB.bm.keeps I.bk)
    intro N ct h' tk hx hge hlt hrec htb
    obtain ⟨N', oc, vs, t, eN, hoc, hd, hv⟩ := hrec
    cases eN
    have nN : H N = none := I.hok.fresh hge
    have nBN : B ≠ N := ne_of_none hB nN
    have size_le : s.heap.objs.size ≤ h'.objs.size := Nat.le_trans hge (Nat.le_of_lt hlt)
    let lamO := PySem.W.kla_obj "<lambda>" (X.env.qual ++ "<lambda>") pa bo sc (cloFrom X.env.cells sc.names []) ((X.mg "__name__").getD .none) N ct
    have J := LamX.inv_table (t' := tk) (more := #[rawInt pos.line, rawInt pos.col, .ref N]) (h' := h'.push lamO) I hB (fun b o hb e => Heap.get?_push_of_some _ (hx b o hb e)) (Heap.get?_push_of_some _ htb) hge
      ⟨oc, vs, t, Heap.get?_push_of_some _ hoc, hd, hv⟩
    have stay : ∀ b o, H b = some o → b ≠ B → upd (upd H B (.tbl (ps ++ #[rawInt pos.line, rawInt pos.col, .ref N]))) N (LamX.CodeO N (X.env.qual ++ "<lambda>")) b = some o := by
      intro b o e nb
      rw [upd_ne (ne_of_none e nN), upd_ne nb]
      exact e
    have listed : (ps ++ #[rawInt pos.line, rawInt pos.col, .ref N]).toList = ps.toList ++ [rawInt pos.line, rawInt pos.col, .ref N] := by simp
    refine h h'.objs.size N ((X.mg "__name__").getD .none) ct _ _ J (.inr ⟨B, N, _, _, ⟨ps, hB⟩, nN, rfl⟩) (fun p hp => ?_) (Heap.get?_push_size _ rfl) ?_ (outside _ size_le) upd_same
    · have coded : ∀ c0 q0, H c0 = some (LamX.CodeO c0 q0) → c0 ≠ B := fun c0 q0 e z => by
        rw [z, hB] at e
        exact LamX.codeO_ne ps (Option.some.inj e).symm
      by_cases hb : p.1 = B
      · rw [hu p hp hb, hb]
        refine ⟨_, by rw [upd_ne nBN, upd_same], by rw [listed]; exact PySem.TriplesOk_snoc _ _ _ _ triples, ?_⟩
        intro p' cv hcv
        rw [listed] at hcv
        cases LamX.among_app _ triples hcv with
        | inl z =>
          obtain ⟨c0, e1, e2⟩ := named p' cv z
          exact ⟨c0, e1, stay _ _ e2 (coded _ _ e2)⟩
        | inr z => exact ⟨N, z, upd_same⟩
      · obtain ⟨ps', a1, a2, a3⟩ := hT p hp
        refine ⟨ps', stay _ _ a1 hb, a2, ?_⟩
        intro p' cv hcv
        obtain ⟨c0, e1, e2⟩ := a3 p' cv hcv
        exact ⟨c0, e1, stay _ _ e2 (coded _ _ e2)⟩
    · have n1 : h'.objs.size ≠ N := Nat.ne_of_gt hlt
      have n2 : h'.objs.size ≠ B := Nat.ne_of_gt (Nat.lt_of_lt_of_le (Heap.lt_size hB0) size_le)
      rw [upd_ne n1, upd_ne n2]
      exact I.hok.fresh size_le
end
/-- x(lambda: body): what is read of it -/
def tLm (TT : (XK → Hp → VK → Prop) → Hp → VK → Prop) (t : XK → TE) : TE := fun σ H Q => LamX.Tabs Tb.T H ∧ ∀ H1, TurnsT H H1 → LamX.Tabs Tb.T H1 → TT (fun E H' Q' => t E σ H' Q') H1 Q
/-- the def x takes a lambda and reads it as TT says -/
def Gv (P : Program) (w : World) (K : PySem.W.Frag) (mg : Str → Option Value) (base : Heap) (x : Str) (TT : (XK → Hp → VK → Prop) → Hp → VK → Prop) : Prop :=
  ∀ (X : Cx) {c B : Addr} {k : Nat} {pa : Arguments} {bo : Expr} {sc : Scope} {t : XK → TE} {p lpos pos : Pos}, X.prog = P → X.w = w → X.K = K → X.mg = mg → X.base = base → Gl X x → LamX.TabB X.base X.mg c B → X.env.code = .ref c →
    (B, X.env.qual ++ "<lambda>") ∈ Tb.T → (∀ p ∈ Tb.T, p.1 = B → p.2 = X.env.qual ++ "<lambda>") → Room (k + 4) X.A → LamX.LamS X.env.scope sc → defaultsOf pa X.env = ([], []) →
    (∀ (q : Str) (cl : List (Str × Addr)) (pm cv ctv : Value), bindArgs (PySem.W.kla_fn "<lambda>" q pa bo sc cl pm cv ctv) ⟨[], []⟩ = pure []) →
    (∀ (A : Around) (outer : List Env) (s : Shared) (H : Hp) (E : XK) (f N : Addr), Room k (A.deeper (LamX.lamEnv X sc s.heap.objs.size f N)) → PE (LamX.lamCx X A outer s H E sc f N) bo (t E)) →
    PE X (.Call (.Name x p) [.Lambda pa bo sc lpos] [] pos) (tLm TT t)
/-- what is asked of the body of such a def: it never raises -/
def GivesR (P : Program) (w : World) (K : PySem.W.Frag) (mg : Str → Option Value) (base : Heap) (Ng : List Str) (x : Str) (sg : Scope) (bg : List Stmt) (a : Str) (TT : (XK → Hp → VK → Prop) → Hp → VK → Prop) : Prop :=
  ∀ (X : Cx) (g : Addr) (cdg : Value) (q : Str) (s : Shared) (H0 : Hp), X.prog = P → X.w = w → X.K = K → X.mg = mg → X.base = base → Room 3 (X.A.deeper (envOfC x sg s.heap.objs.size g cdg)) →
    ∀ (f N : Addr) (Q : VK) (tl : XK → Hp → VK → Prop),
      (∀ (W : WX) (pn : List (Addr × Obj)) (xe : Value → Shared → Prop) (E : XK) (p1 p2 : Pos), Takes ((cxOf C8.CX0 X.prog X.w X.K X.mg X.base Ng x sg g cdg X.A X.stack s H0 C8.E0).tr pn xe) W → (∀ cls d σ' H', E cls d H' → W cls d σ' H') →
        PE ((cxOf C8.CX0 X.prog X.w X.K X.mg X.base Ng x sg g cdg X.A X.stack s H0 C8.E0).tr pn xe) (.Call (.Name a p1) [] [] p2) (fun σZ HZ Q => σZ[0]? = some (some (.ref f)) ∧ HZ N = some (LamX.CodeO N q) ∧ tl E HZ Q)) →
      H0 N = some (LamX.CodeO N q) → TT tl H0 Q →
      ∃ t, PSs (cxOf C8.CX0 X.prog X.w X.K X.mg X.base Ng x sg g cdg X.A X.stack s H0 C8.E0).nox bg t ∧ t { nx := fun _ H' => Q .non H', rt := Q } (L2.start Ng [.ref f]) H0
theorem gv_of {P : Program} {w : World} {K : PySem.W.Frag} {mg : Str → Option Value} {base : Heap} {x a : Str} {st : Stmt} {Ng : List Str} {TT : (XK → Hp → VK → Prop) → Hp → VK → Prop} (d : Df K mg x st [a]) (sc : FnScope Ng [a] (defScope st)) (hNg : Ng[0]? = some a) (hva : Vis (defScope st) a)
    (G : GivesR P w K mg base Ng x (defScope st) (defBody st) a TT) (hdb : (x == ("__debug__" : Str)) = false := by decide) (hd : (a == ("__debug__" : Str)) = false := by decide) (hcd : (a == ("__classdict__" : Str)) = false := by decide) : Gv P w K mg base x TT := by
  intro X c B k pa bo scl t p lpos pos hP hw hK hmg hbase hgl tB hcode hmT hu hr L hdef hbind hbody
  subst hP hw hK hmg hbase
  obtain ⟨g, fd, Fn, hm, hb, _⟩ := d
  obtain ⟨oc, od, kV, doc, pm, an, cdv, ct, osl, rfl, lk, hcg⟩ := Fn.ex
  constructor
  intro pins s σ H Q I h
  obtain ⟨hT, h⟩ := h
  apply wpAny_Call_Name_kw
  refine ld_glob I hgl hm (PySem.W.callWith_K (h₀ := X.base) I.ok.mod.kin Fn.kp ?_ (by rfl) (by rfl)) hdb
  show wpAny _ _ (spliced ((false, eval (.Lambda pa bo scl lpos) X.env) :: backTo pos (starEach [] X.env))) _ _ s
  apply Calls.spliced_cons
  apply make_lam I tB hcode hmT hu hT hdef (L.has I.ok)
  intro f N pm' ctv H1 s' J turns T1 hf hfn hfr hco
  refine Calls.spliced_nil ⟨J.kIn, ?_⟩
  apply wpAny_call
  have ran : codeAny (model X.prog X.w) X.A (.call (.ref g) ⟨[.ref f], []⟩) (CR C8.CX0 X.stack X.prog X.w H1 s' Q C8.E0) s' := by
    apply LamX.run_ofS (N := Ng) (ps := [a]) (us := [.ref f]) (vs := [.ref f]) (k := k + 3) lk hcg sc hr J.env0 (hb s' [.ref f] J.kIn rfl) (.cons rfl .nil) rfl
    intro hr'
    obtain ⟨t', ht', hq'⟩ := G X g cdv (X.env.qual ++ "<lambda>") s' H1 rfl rfl rfl rfl rfl (hr'.mono (by omega)) f N Q (fun E H' Q' => t E σ H' Q')
      (fun W pn xe E p1 p2 tk hW => LamX.pe_act (k := k) (i := 0) J L hf hfn hfr (hbind _ _ _ _ _) tk hW (hr'.mono (by omega)) (fun A outer s H hr2 => hbody A outer s H E f N hr2) hNg hva hd hcd) hco (h H1 turns T1)
    exact ⟨t', ht'.nox, hq'⟩
  refine codeAny_mono ran ?_
  intro r s2 hq
  match r, hq with
  | .error e, hq => exact (show False from hq).elim
  | .ok (.ret u), hq => exact J.after hq
  | .ok .next, hq => exact False.elim hq
  | .ok .brk, hq => exact False.elim hq
  | .ok .cont, hq => exact False.elim hq
end Ev

namespace Ev
open PySem PySem.Spec PyProof.Rows L2
variable [Tb]

/-! ### count and index of truths -/
section
variable {X : Cx} {K : PySem.W.Frag}
def rCntB (K : PySem.W.Frag) : V → List V → Hp → VK → Prop := fun x xs H Q => ∃ (p : Addr) (bs : List Bool) (b : Bool), x = .ref p ∧ xs = [.bl b] ∧ SqL K H p (bs.map V.bl) ∧ Q (.int (bs.count b : Nat)) H
theorem flat_bools (bs : List Bool) : (bs.map V.bl).all flatV = true := by
  rw [List.all_map, List.all_eq_true]
  exact fun _ _ => rfl
theorem countP_bools {b : Bool} : ∀ {us : List Value} {bs : List Bool}, Vals (bs.map V.bl) us → us.countP (eqU (.bl b)) = bs.count b
  | [], [], _ => rfl
  | [], _ :: _, h => nomatch h
  | _ :: _, [], h => nomatch h
  | u :: us, c :: bs, .cons r t => by
    rw [List.countP_cons, List.count_cons, countP_bools t, eqU_of r rfl] <;> rfl
theorem mt_countB (hK : X.K = K) : MtR X "list.count" (rCntB K) := by
  subst hK
  intro pins s σ H x xs v us Q I rx rxs h
  obtain ⟨p, bs, b, rfl, rfl, hs, q⟩ := h
  cases rx
  obtain ⟨u, rfl, ru⟩ := rxs.one
  obtain ⟨its, rv, ⟨⟨cls, dd, data, sl⟩, n, ho, hc, hdn, hd⟩, hlen⟩ := I.list hs
  simp only at hc hd
  subst hc hd
  refine call_meets PySem.F.slot_list_count ⟨_, ho, rfl⟩ PySem.F.entry_list_count (PySem.F.args_list_count_2 _ _)
    (SeqAt.list_countAt p its.toArray n dd sl u (eqU (.bl b))) ⟨ho, fun y hy => mem_eqAt ru rfl rv (flat_bools bs) y (by simpa using hy), .int (bs.count b : Nat), H, I.tok _, ⟨s.toks, ?_⟩, q⟩
  have e : its.toArray.toList.countP (eqU (.bl b)) = bs.count b := countP_bools rv
  show Value.int ((its.toArray.toList.countP (eqU (.bl b)) : Nat) : Int) s.toks = _
  rw [e]
theorem mt_indexK (hK : X.K = K) : MtR X "list.index" (rIndex K) := by subst hK; exact mt_index
theorem me_countB : MeS K (rCntB K) cntB := by
  intro W H a us xs vs ds Q E w ha rx rs h
  match ds, rs, h with
  | [d], rs, h =>
    obtain ⟨v, rfl, r⟩ := rs.of1
    cases r with
    | bl b =>
      obtain ⟨bs, e, q⟩ := ofO_run h
      exact ⟨a, bs, b, rfl, rfl, by rw [← bools_rep rx e]; exact .inl (.inl (w.sub _ _ ha)), post_here w q (.int _)⟩
    | _ => exact (show False from h).elim
  | [], _, h => exact (show False from h).elim
  | d :: e :: t, _, h => cases d <;> exact (show False from h).elim
theorem me_indexB : MeS K (rIndex K) idxB := by
  intro W H a us xs vs ds Q E w ha rx rs h
  match ds, rs, h with
  | [d], rs, h =>
    obtain ⟨v, rfl, r⟩ := rs.of1
    cases r with
    | bl b =>
      obtain ⟨bs, e, h⟩ := ofO_run h
      obtain ⟨j, e2, q⟩ := ofO_run h
      have eu := bools_rep rx e
      subst eu
      obtain ⟨h1, h2, h3⟩ := List.findIdx?_eq_some_iff_getElem.mp e2
      refine ⟨a, _, .bl b, j, .bl bs[j], rfl, rfl, .inl (.inl (w.sub _ _ ha)), rfl, flat_bools bs, by rw [List.getElem?_map, List.getElem?_eq_getElem h1]; rfl, h2, fun m z' hm hz => ?_, post_here w q (.int _)⟩
      rw [List.getElem?_map, List.getElem?_eq_getElem (Nat.lt_trans hm h1)] at hz
      cases hz
      have := h3 m hm
      exact Bool.eq_false_iff.mpr this
    | _ => exact (show False from h).elim
  | [], _, h => exact (show False from h).elim
  | d :: e :: t, _, h => cases d <;> exact (show False from h).elim
end

/-! ### defs that are called in an except suite, with what is caught -/
section
variable (P : Program) (w : World) (K : PySem.W.Frag) (mg : Str → Option Value) (base : Heap)
structure Hk (k : Nat) (f : Addr) (fd : FuncData) (ps : List Str) (sp : Addr → Value → List V → Hp → VK → Prop) : Prop where
  len : ∀ a cls vs H Q, sp a cls vs H Q → vs.length = ps.length
  run : ∀ (A : Around) (outer : List Env) (s : Shared) (H : Hp) (args : Args) (us : List Value) (vs : List V) (Q : VK) (p : Addr × Obj) (cls : Value) (dd : Option Addr),
    L2H.RoomH k A → L2H.PinOk outer H s p → Zc cls dd p.2 → (∀ d, dd = some d → ∃ od, s.heap.get? d = some od) → (∃ fs, p.2.data = .fields fs) → Env0 P w K mg base A outer s H → BindsTo s fd args (ps.zip us) → Vals vs us → sp p.1 cls vs H Q →
      codeAny (model P w) A (.call (.ref f) args) (CR C8.CX0 outer P w H s Q C8.E0) s
end
section
variable {P : Program} {w : World} {K : PySem.W.Frag} {mg : Str → Option Value} {base : Heap}
theorem h_fn {x qual : Str} {st : Stmt} {f : Addr} {fd : FuncData} {N ps : List Str} {k : Nat} {sp : Addr → Value → List V → Hp → VK → Prop} (F : L2.Fun K x qual st f fd) (sc : FnScope N ps (defScope st)) (len : ∀ a cls vs H Q, sp a cls vs H Q → vs.length = ps.length)
    (hbody : ∀ (cdv : Value) (A : Around) (outer : List Env) (s : Shared) (H : Hp) (vs : List V) (Q : VK) (p : Addr × Obj) (cls : Value) (dd : Option Addr), L2H.RoomH k (A.deeper (envOfC qual (defScope st) s.heap.objs.size f cdv)) → Zc cls dd p.2 → (∀ d, dd = some d → ∃ od, s.heap.get? d = some od) → (∃ fs, p.2.data = .fields fs) → sp p.1 cls vs H Q →
        ∃ t, PSs (L2H.cxH C8.CX0 P w K mg base N qual (defScope st) f cdv A outer s H C8.E0 p) (defBody st) t ∧ t { nx := fun _ H' => Q .non H', rt := Q } (L2.start N vs) H) :
    Hk P w K mg base (k + 1) f fd ps sp := by
  obtain ⟨oc, od, kV, doc, pm, an, cdv, ct, osl, rfl, lk, hcd⟩ := F.ex
  constructor
  · exact len
  intro A outer s H args us vs Q p cls dd hr hpin hz hdd hf e0 hb r hsp
  have KX : K.In s.heap := e0.mod.kin.keeps (fun b o e => (e0.bs b o e).1)
  have hkind : ∀ y ∈ ps.zip us, (defScope st).names.lookup y.1 = some .local ∨ ((defScope st).names.lookup y.1 = some .cell ∧ ((cellsFrom (s.heap.objs.size + 1) (defScope st).names []).lookup y.1).isSome = true) := by
    rintro ⟨n, v⟩ hy
    cases sc.par n (List.of_mem_zip hy).1 with
    | inl q => exact .inl q
    | inr q => exact .inr ⟨q, PySem.W.cellsFrom_some _ _ _ (.inl q)⟩
  apply codeAny_call_function hr.depth (KX _ _ lk) rfl sc.co sc.gen rfl (PySem.W.codeRec_of KX hcd)
  apply hb
  apply wpAny_newFunctionEnv_cells sc.kind hkind
  rintro env rfl s1 x1
  obtain ⟨t, ht, hq⟩ := hbody cdv A outer s H vs Q p cls dd (hr.deeper _) hz hdd hf hsp
  have I : L2.Inv (L2H.cxH C8.CX0 P w K mg base N qual (defScope st) f cdv A outer s H C8.E0 p) [] (L2.start N vs) H s1 :=
    L2H.inv_startH sc hpin e0 (len _ _ _ _ _ hsp) r x1
  have lim : s.heap.NoLimit := e0.mod.nolimit.keeps (fun b o e => (e0.bs b o e).1)
  refine ⟨lim.keeps x1.toInCall.keep, codeAny_func (wpAny_mono (ht.run [] s1 (L2.start N vs) H _ I hq) ?_ (fun _ _ z => z))⟩
  intro fl s' hs
  match fl, hs with
  | .ret u, ⟨v, σ', H', J, rv, q⟩ => exact ⟨v, H', J.os, J.bare, J.base, J.hok, rv, q⟩
  | .next, ⟨σ', H', J, q⟩ => exact ⟨V.non, H', J.os, J.bare, J.base, J.hok, rfl, q⟩
  | .brk, ⟨_, _, _, q⟩ => exact q.elim
  | .cont, ⟨_, _, _, q⟩ => exact q.elim
end
section
variable {X : Cx} {k : Nat} {f a : Addr} {oe : Obj} {cls : Value} {dd : Option Addr} {fd : FuncData} {ps : List Str} {sp : Addr → Value → List V → Hp → VK → Prop} {x : Str} {p pos : Pos} {e : Expr} {es : List Expr} {t : TA}
def tCallH (sp : Addr → Value → List V → Hp → VK → Prop) (a : Addr) (cls : Value) (dd : Option Addr) (t : TA) : TE := fun σ H Q => t σ H fun vs H1 => sp a cls vs H1 Q ∧ ∀ d, dd = some d → ∃ fs, H1 d = some (.xd fs)
/-- its call -/
theorem pe_hk (G : Hk X.prog X.w X.K X.mg X.base k f fd ps sp) (hr : L2H.RoomH k X.A) (hp : (a, oe) ∈ X.pn) (hz : Zc cls dd oe) (hf : ∃ fs, oe.data = .fields fs) (hgl : Gl X x) (hm : X.mg x = some (.ref f)) (hk : PySem.W.keepIn X.K (.ref f) = true) (hb : Binds X.K fd ps [])
    (ha : PA X (e :: es) t) (hdb : (x == ("__debug__" : Str)) = false := by decide) (he : starEach (e :: es) X.env = (false, eval e X.env) :: starEach es X.env := by rfl) (hpl : (backTo pos (starEach es X.env)).any (·.1) = false := by rfl) :
    PE X (.Call (.Name x p) (e :: es) [] pos) (tCallH sp a cls dd t) := by
  constructor
  intro pins s σ H Q I h
  apply wpAny_Call_Name_kw
  refine ld_glob I hgl hm (PySem.W.callWith_K (h₀ := X.base) I.ok.mod.kin hk (thn (ha.run pos pins s σ H _ I h) ?_) he hpl) hdb
  rintro us s1 ⟨vs, H1, J, r, q, qd⟩
  have hl : (us ++ []).length = ps.length := by
    rw [List.append_nil, ← r.length]
    exact G.len _ _ _ _ _ q
  have hdd : ∀ d, dd = some d → ∃ od, s1.heap.get? d = some od := fun d e => by
    obtain ⟨fs, e2⟩ := qd d e
    have hx : ObjOk X.prog X.w H1 s1.heap d (.xd fs) := J.hok d _ e2
    obtain ⟨mA, hns, _⟩ := hx
    obtain ⟨od, ho, _⟩ := lookIn_ns hns
    exact ⟨od, ho⟩
  have b2 := hb s1 us J.kIn hl
  rw [List.append_nil] at b2
  obtain ⟨p1, p2, p3, p4, p5⟩ := J.pin (a, oe) (List.mem_append_left _ hp)
  have pin : L2H.PinOk X.stack H1 s1 (a, oe) := ⟨p1, p2, fun z => by
    cases List.mem_cons.mp (J.stkSub a z) with
    | inl y => exact p3 y
    | inr y => exact p4 y, p5⟩
  refine ⟨J.kIn, wpAny_call (codeAny_mono (G.run X.A X.stack s1 H1 ⟨us, []⟩ us vs Q (a, oe) cls dd hr pin hz hdd hf J.env0 b2 r q) ?_)⟩
  intro r' s' hq
  match r', hq with
  | .error e, hq => exact (show False from hq).elim
  | .ok (.ret u), hq => exact J.after hq
  | .ok .next, hq => exact False.elim hq
  | .ok .brk, hq => exact False.elim hq
  | .ok .cont, hq => exact False.elim hq
/-- isinstance of what is caught, anywhere where it is held -/
theorem call_isH {D : Addr} (C : ExcC X.K D) (hz : Zc (.ref D) dd oe) (hdd : ∀ d, dd = some d → ∃ od, X.s_0.heap.get? d = some od) (hex : X.ex = []) (hf : ∃ fs, oe.data = .fields fs) (hp : (a, oe) ∈ X.pn) : CallR X (.builtin "isinstance") (rIsE X.K D a) := by
  intro pins s σ H xs us Q I r h
  obtain ⟨c, cv, b, rfl, hcv, e, q⟩ := h
  match us, r with
  | [_, _], .cons rx (.cons rt .nil) =>
    cases rx
    have ec := hcv _ rt
    subst ec
    obtain ⟨fs, hv⟩ := hf
    have at_ : ∃ od, PySem.W.InstAt s.heap a oe D od := by
      have hget := (I.pin (a, oe) (List.mem_append_left _ hp)).1
      have nc : PySem.W.notCls oe = true := by
        unfold PySem.W.notCls
        rw [hv]
      cases dd with
      | none => exact ⟨none, hget, hz.1, nc, by rw [hz.2]; trivial⟩
      | some d =>
        obtain ⟨od, ho⟩ := hdd d rfl
        obtain ⟨o2, ho2⟩ := I.base.there d od ho (by rw [hex]; exact fun z => nomatch z)
        exact ⟨some o2, hget, hz.1, nc, by rw [hz.2]; exact ho2⟩
    obtain ⟨od, at_⟩ := at_
    have hcl : (PySem.W.clsIn X.K D).isSome = true := by
      have h0 := C.hd
      unfold PySem.W.hasDictIn at h0
      cases h1 : PySem.W.clsIn X.K D with
      | none => rw [h1] at h0; exact h0
      | some _ => rfl
    exact PySem.W.kia_one (PySem.W.kitx_exc hcl C.hg C.hk C.hs C.ha C.hn C.ht C.hm) I.kIn at_ e (fun z => nomatch z) fun tk => ⟨.bl b, H, I.kept (t' := tk) fun _ _ z => z, rfl, q⟩
end
theorem L2H_units {k : Nat} {A : Around} (r : L2H.RoomH k A) : A.units + 64 < cLine := by
  have := r.un
  omega
/-! ### classes of errors -/
/-- what is known of the error class x, at C: how it stands to the classes ns -/
structure Kc (K : PySem.W.Frag) (mg : Str → Option Value) (ns : List Str) (x : Str) (C : Addr) : Prop where
  g : mg x = some (.ref C)
  c : ExcC K C
  own : ∀ n ∈ ns, ∀ N, mg n = some (.ref N) → PySem.W.kitOne K (.ref C) (.ref N) = some (decide (x = n))
  ve : PySem.W.kitOne K (.ref C) (.type "ValueError") = some true
  top : ∀ T, mg "HueError" = some (.ref T) → PySem.W.exmOne K (.ref C) (.ref T) = some true
def Kcs (K : PySem.W.Frag) (mg : Str → Option Value) (ns xs : List Str) : Prop := ∀ x ∈ xs, ∃ C, Kc K mg ns x C
def spK (K : PySem.W.Frag) (mg : Str → Option Value) (xs : List Str) (F : Str → List D → M D) : Addr → Value → List V → Hp → VK → Prop := fun a cls vs H Q =>
  ∃ W x C, WOk W H ∧ vs = [.ref a] ∧ x ∈ xs ∧ mg x = some (.ref C) ∧ cls = .ref C ∧ (F x [.opq (2 * a + 1)]).run (fun d => ∀ W' H' v, Step W H W' H' → Rep K W' v d → Q v H') (fun _ => False)
/-- what is called by the name y within a suite -/
def CdH (P : Program) (w : World) (K : PySem.W.Frag) (mg : Str → Option Value) (base : Heap) (y : Str) (k : Nat) (ps : List Str) (sp : Addr → Value → List V → Hp → VK → Prop) : Prop :=
  ∃ f fd, mg y = some (.ref f) ∧ PySem.W.keepIn K (.ref f) = true ∧ Binds K fd ps [] ∧ Hk P w K mg base k f fd ps sp
section
variable {P : Program} {w : World} {K : PySem.W.Frag} {mg : Str → Option Value} {base : Heap}
theorem cdH_of {y p : Str} {st : Stmt} {N : List Str} {k : Nat} {ns xs : List Str} {F : Str → List D → M (Fl Unit Empty)} (d : Df K mg y st [p]) (sc : FnScope N [p] (defScope st)) (kc : Kcs K mg ns xs)
    (hbody : ∀ (f : Addr) (cdv : Value) (A : Around) (outer : List Env) (s : Shared) (H : Hp) (e : Addr × Obj) (x : Str) (C : Addr), ∀ dd : Option Addr, L2H.RoomH k (A.deeper (envOfC y (defScope st) s.heap.objs.size f cdv)) → Kc K mg ns x C → Zc (.ref C) dd e.2 → (∀ d, dd = some d → ∃ od, s.heap.get? d = some od) → (∃ fs, e.2.data = .fields fs) →
      ∃ t, PSs (L2H.cxH C8.CX0 P w K mg base N y (defScope st) f cdv A outer s H C8.E0 e) (defBody st) t ∧
        SS ⟨K, mg, C8.E0⟩ false t (startS N.length [.opq (2 * e.1 + 1)]) (enc0 N.length) noE (F x [.opq (2 * e.1 + 1)])) :
    CdH P w K mg base y (k + 1) [p] (spK K mg xs fun x ds => endB false (F x ds)) := by
  obtain ⟨f, fd, Fn, g, b, _⟩ := d
  refine ⟨f, fd, g, Fn.kp, b, h_fn Fn sc ?_ ?_⟩
  · rintro a cls vs H Q ⟨W, x, C, _, rfl, _⟩
    rfl
  · rintro cdv A outer s H vs Q e cls dd hr hz hdd hf ⟨W, x, C, wk, rfl, hx, hC, rfl, q⟩
    obtain ⟨C', kx⟩ := kc x hx
    have eC := kx.g
    rw [hC] at eC
    cases eC
    obtain ⟨t, p, sem⟩ := hbody f cdv A outer s H e x C dd hr kx hz hdd hf
    refine ⟨t, p, sem W W H W H (L2.start N [.ref e.1]) _ wk ⟨env_start (.cons (.raw e.1) .nil), wk, Step.refl wk, Le.refl W⟩ ((F x _).mono (fun fl hfl => ?_) (fun _ z => z.elim) q)⟩
    cases fl with
    | nx _ => exact fun W' H' σ n => hfl W' H' .non n.st .non
    | rt d => exact hfl
    | bk e => exact e.elim
    | ct e => exact e.elim
end
section
variable {X : Cx} {k j : Nat} {a : Addr} {oe : Obj} {cls : Value} {dd : Option Addr} {ps : List Str} {sp : Addr → Value → List V → Hp → VK → Prop} {x : Str} {p pos : Pos} {e : Expr} {es : List Expr} {t : TA}
theorem pe_cdH (c : CdH X.prog X.w X.K X.mg X.base x j ps sp) (hr : L2H.RoomH k X.A) (hjk : j ≤ k) (hp : (a, oe) ∈ X.pn) (hz : Zc cls dd oe) (hf : ∃ fs, oe.data = .fields fs) (hgl : Gl X x) (ha : PA X (e :: es) t)
    (hdb : (x == ("__debug__" : Str)) = false := by decide) (he : starEach (e :: es) X.env = (false, eval e X.env) :: starEach es X.env := by rfl) (hpl : (backTo pos (starEach es X.env)).any (·.1) = false := by rfl) :
    PE X (.Call (.Name x p) (e :: es) [] pos) (tCallH sp a cls dd t) := by
  obtain ⟨f, fd, g, kp, b, G⟩ := c
  exact pe_hk ⟨G.len, fun A outer s H args us vs Q p cls dd hr => G.run A outer s H args us vs Q p cls dd (hr.mono hjk)⟩ hr hp hz hf hgl g kp b ha hdb he hpl
theorem call_isHK {K : PySem.W.Frag} {D : Addr} (hK : X.K = K) (C : ExcC K D) (hz : Zc (.ref D) dd oe) (hdd : ∀ d, dd = some d → ∃ od, X.s_0.heap.get? d = some od) (hex : X.ex = []) (hf : ∃ fs, oe.data = .fields fs) (hp : (a, oe) ∈ X.pn) : CallR X (.builtin "isinstance") (rIsE K D a) := by
  subst hK
  exact call_isH C hz hdd hex hf hp
end
section
variable {S : Sx} {ρ : List Sl}
theorem raw_rep {K : PySem.W.Frag} {W : Wd} {v : V} {a : Addr} (r : Rep K W v (.opq (2 * a + 1))) : v = .ref a := by
  generalize hd : D.opq (2 * a + 1) = d at r
  cases r with
  | fn i _ => exact absurd (D.opq.inj hd) (by omega)
  | mem _ _ => exact absurd (D.opq.inj hd) (by omega)
  | obj _ _ => exact absurd (D.opq.inj hd) (by omega)
  | raw b =>
    have e : 2 * b + 1 = 2 * a + 1 := (D.opq.inj hd).symm
    exact congrArg V.ref (Nat.eq_of_mul_eq_mul_left (by decide) (Nat.succ.inj e))
  | _ => cases hd
theorem se_isH {i : Nat} {a C : Addr} {c : V} {cv : Value} {b : Bool} (h : ρ[i]? = some (.val (.opq (2 * a + 1)))) (hcv : ∀ u, RelV c u → u = cv) (e : PySem.W.kitOne S.K (.ref C) cv = some b) : SE S (tCB (rIsE S.K C a) (tCons (tVar i) (tCons (tC c) tNil))) ρ (pure (.bl b)) := fun σ H W H0 Q en w q => by
  obtain ⟨v, hv, rv⟩ := en.dat i _ h
  have ev := raw_rep rv
  subst ev
  exact ⟨_, hv, c, cv, b, rfl, hcv, e, q _ _ _ (Step.refl w) (.bl b)⟩
end
/-! ### try: return call() / except HueError as e: return kind(e) -/
def TTgot (K : PySem.W.Frag) (mg : Str → Option Value) (xs : List Str) (F : Str → List D → M D) : (XK → Hp → VK → Prop) → Hp → VK → Prop := fun tl H Q =>
  tl (fun cls d H' => (∀ x, d = some x → ∃ fs, H' x = some (.xd fs)) ∧ ∃ W x C, WOk W H' ∧ x ∈ xs ∧ mg x = some (.ref C) ∧ cls = .ref C ∧ ∀ a : Addr, (F x [.opq (2 * a + 1)]).run (fun dd => ∀ W'' H'' v, Step W H' W'' H'' → Rep K W'' v dd → Q v H'') (fun _ => False)) H Q
section
variable {S : Sx} {ρ : List Sl} {r : M D} {t : XK → TE} {xs : List Str} {F : Str → List D → M D}
theorem se_got (h : ∀ E, SE ⟨S.K, S.mg, E⟩ (t E) ρ r) : SE S (tLm (TTgot S.K S.mg xs F) t) ρ (gotM xs F r) := fun σ H W H0 Q en w q => by
  refine ⟨w.tab, fun H1 tn t1 => ?_⟩
  have st := step_turns w tn t1
  refine h _ σ H1 W H0 Q (en.step st) st.ok (r.mono (fun d hd => hd.after w st) (fun e he => ?_) q)
  rintro cv dx W' H' s' ⟨C, hC, rfl, hx⟩
  obtain ⟨e2, e3⟩ := he
  refine ⟨fun x ex => ?_, W', e.cls, C, s'.ok, e2, hC, rfl, fun a => (F _ _).mono (fun dd hd W'' H'' v s'' rv => hd v W'' H'' ((st.trans w s').trans w s'') rv) (fun _ z => z) (e3 a)⟩
  subst ex
  cases ea : e.args with
  | none =>
    rw [ea] at hx
    cases hx
  | some mn =>
    rw [ea] at hx
    obtain ⟨d, fs, e4, e5, _⟩ := hx
    cases e4
    exact ⟨fs, s'.ok.sub _ _ e5⟩
end
section
variable {P : Program} {w : World} {K : PySem.W.Frag} {mg : Str → Option Value} {base : Heap}
theorem got_gr {x kd a e : Str} {st : Stmt} {ns xs : List Str} {F : Str → List D → M D} {j : Nat} {p1 p2 p3 p4 p5 p6 p7 p8 p9 p10 : Pos} {pk : Str} {CS : Addr} (d : Df K mg x st [a]) (sc : FnScope [a, e] [a] (defScope st)) (kc : Kcs K mg ns xs) (hCS : mg "HueError" = some (.ref CS))
    (ck : CdH P w K mg base kd 1 [pk] (spK K mg xs F)) (hj : j = 0)
    (hb : defBody st = [.Try [.Return (some (.Call (.Name a p1) [] [] p2)) p3] [.ExceptHandler (some (.Name "HueError" p4)) (some e) [.Return (some (.Call (.Name kd p5) [.Name e p6] [] p7)) p8] p9] [] [] p10])
    (hva : Vis (defScope st) a) (hge : (defScope st).names.lookup ("HueError" : Str) = some NameKind.globalImplicit) (hgk : (defScope st).names.lookup kd = some NameKind.globalImplicit) (hle : (defScope st).names.lookup e = some NameKind.local)
    (hdb : (x == ("__debug__" : Str)) = false := by decide) (hda : (a == ("__debug__" : Str)) = false := by decide) (hca : (a == ("__classdict__" : Str)) = false := by decide) (hdk : (kd == ("__debug__" : Str)) = false := by decide)
    (hde : (e == ("__debug__" : Str)) = false := by decide) (hce : (e == ("__classdict__" : Str)) = false := by decide) : GivesR P w K mg base [a, e] x (defScope st) (defBody st) a (TTgot K mg xs F) := by
  rw [hb]
  intro X g cdg q s H0 hP hw hK hmg hbase hr f N Q tl act hN h
  subst hP hw hK hmg hbase
  refine ⟨_, pss_one (ps_try_as (X := (cxOf C8.CX0 X.prog X.w X.K X.mg X.base [a, e] x (defScope st) g cdg X.A X.stack s H0 C8.E0).nox) (i := 1) (c := .ref CS) (Wout := fun _ _ _ _ => False)
      (tb := fun W D σ H => ∃ Ech : XK, (∀ cls d σ' H', Ech cls d H' → W cls d σ' H') ∧ σ[0]? = some (some (.ref f)) ∧ H N = some (LamX.CodeO N q) ∧ tl Ech H D.rt)
      (ts := fun b cls d D σ H => (∀ x, d = some x → ∃ fs, H x = some (.xd fs)) ∧ (σ.length = 2 → σ[1]? = some (some (.ref b))) ∧ spK X.K X.mg xs F b cls [.ref b] H D.rt)
      rfl rfl sc.nd rfl hle ⟨hge, by decide, .inl hCS⟩ LamX.takes0 (fun W pn xe tk _ => ?_) (fun b oe cls dd pn hz hf => ?_)), ?_⟩
  · constructor
    intro pins s' σ H' D I h'
    obtain ⟨Ech, hW, h1, h2, h3⟩ := h'
    exact (pss_one (ps_ret (act W pn xe Ech p1 p2 tk hW))).run pins s' σ H' D I ⟨h1, h2, h3⟩
  · constructor
    intro pins s' σ H' D I h'
    obtain ⟨h0, h1, h2⟩ := h'
    have hl : σ.length = 2 := I.len
    have pv : PE ((cxOf C8.CX0 X.prog X.w X.K X.mg X.base [a, e] x (defScope st) g cdg X.A X.stack s H0 C8.E0).nox.suite b ((b, oe) :: pn)) (.Name e p6) (tVar 1) := pe_var (i := 1) rfl (.inl hle) hde hce
    have pc : PE ((cxOf C8.CX0 X.prog X.w X.K X.mg X.base [a, e] x (defScope st) g cdg X.A X.stack s H0 C8.E0).nox.suite b ((b, oe) :: pn)) (.Call (.Name kd p5) [.Name e p6] [] p7) (tCallH (spK X.K X.mg xs F) b cls dd (tCons (tVar 1) tNil)) :=
      pe_cdH (k := 3) ck ⟨hr.dp, hr.un⟩ (by decide) List.mem_cons_self hz hf hgk (pa_cons pv pa_nil) hdk
    exact (pss_one (ps_ret pc)).run pins s' σ H' D I ⟨_, h1 hl, h2, h0⟩
  · refine ⟨fun cls d H' => (∀ x, d = some x → ∃ fs, H' x = some (.xd fs)) ∧ ∃ W x C, WOk W H' ∧ x ∈ xs ∧ X.mg x = some (.ref C) ∧ cls = .ref C ∧ ∀ a : Addr, (F x [.opq (2 * a + 1)]).run (fun dd => ∀ W'' H'' v, Step W H' W'' H'' → Rep X.K W'' v dd → Q v H'') (fun _ => False), ?_, rfl, hN, h⟩
    rintro cls d σ' H' ⟨h0, W, y, C, wk, hy, hC, rfl, hF⟩
    obtain ⟨C', ky⟩ := kc y hy
    have eC := ky.g
    rw [hC] at eC
    cases eC
    refine ⟨true, ky.top CS hCS, fun _ b _ => ⟨h0, fun hl => ?_, W, y, C, wk, rfl, hy, hC, rfl, hF b⟩, fun z => nomatch z⟩
    rw [List.length_set] at hl
    exact List.getElem?_set_self (by omega)
theorem got_gv {x kd a e : Str} {st : Stmt} {ns xs : List Str} {F : Str → List D → M D} {j : Nat} {p1 p2 p3 p4 p5 p6 p7 p8 p9 p10 : Pos} {pk : Str} {CS : Addr} (d : Df K mg x st [a]) (sc : FnScope [a, e] [a] (defScope st)) (kc : Kcs K mg ns xs) (hCS : mg "HueError" = some (.ref CS))
    (ck : CdH P w K mg base kd 1 [pk] (spK K mg xs F)) (hj : j = 0)
    (hb : defBody st = [.Try [.Return (some (.Call (.Name a p1) [] [] p2)) p3] [.ExceptHandler (some (.Name "HueError" p4)) (some e) [.Return (some (.Call (.Name kd p5) [.Name e p6] [] p7)) p8] p9] [] [] p10])
    (hva : Vis (defScope st) a) (hge : (defScope st).names.lookup ("HueError" : Str) = some NameKind.globalImplicit) (hgk : (defScope st).names.lookup kd = some NameKind.globalImplicit) (hle : (defScope st).names.lookup e = some NameKind.local)
    (hdb : (x == ("__debug__" : Str)) = false := by decide) (hda : (a == ("__debug__" : Str)) = false := by decide) (hca : (a == ("__classdict__" : Str)) = false := by decide) (hdk : (kd == ("__debug__" : Str)) = false := by decide)
    (hde : (e == ("__debug__" : Str)) = false := by decide) (hce : (e == ("__classdict__" : Str)) = false := by decide) : Gv P w K mg base x (TTgot K mg xs F) :=
  gv_of d sc rfl hva (got_gr d sc kc hCS ck hj hb hva hge hgk hle hdb hda hca hdk hde hce) hdb hda hca
theorem pe_gv {X : Cx} {x : Str} {TT : (XK → Hp → VK → Prop) → Hp → VK → Prop} {c B : Addr} {k : Nat} {pa : Arguments} {bo : Expr} {sc : Scope} {t : XK → TE} {p lpos pos : Pos} (G : Gv X.prog X.w X.K X.mg X.base x TT) (hgl : Gl X x) (tB : LamX.TabB X.base X.mg c B) (hcode : X.env.code = .ref c)
    (hmT : (B, X.env.qual ++ "<lambda>") ∈ Tb.T) (hu : ∀ p ∈ Tb.T, p.1 = B → p.2 = X.env.qual ++ "<lambda>") (hr : Room (k + 4) X.A) (L : LamX.LamS X.env.scope sc) (hdef : defaultsOf pa X.env = ([], []))
    (hbind : ∀ (q : Str) (cl : List (Str × Addr)) (pm cv ctv : Value), bindArgs (PySem.W.kla_fn "<lambda>" q pa bo sc cl pm cv ctv) ⟨[], []⟩ = pure [])
    (hbody : ∀ (A : Around) (outer : List Env) (s : Shared) (H : Hp) (E : XK) (f N : Addr), Room k (A.deeper (LamX.lamEnv X sc s.heap.objs.size f N)) → PE (LamX.lamCx X A outer s H E sc f N) bo (t E)) :
    PE X (.Call (.Name x p) [.Lambda pa bo sc lpos] [] pos) (tLm TT t) := G X rfl rfl rfl rfl rfl hgl tB hcode hmT hu hr L hdef hbind hbody
/-- a def that makes lambdas: its code object is known -/
def DfC (K : PySem.W.Frag) (mg : Str → Option Value) (x : Str) (st : Stmt) (ps : List Str) (c : Addr) : Prop := ∃ f fd, L2.Fun K x x st f fd ∧ mg x = some (.ref f) ∧ Binds K fd ps [] ∧ fd.code = .ref c
theorem cdC_of {qg : Bool} {x : Str} {st : Stmt} {N ps : List Str} {k : Nat} {c : Addr} (own : Bool) {F : List D → M (Fl Unit Empty)} (d : DfC K mg x st ps c) (sc : FnScope N ps (defScope st))
    (hbody : ∀ (f : Addr) (A : Around) (outer : List Env) (s : Shared) (H : Hp) (E : XK),
      Room k (A.deeper (envOfC x (defScope st) s.heap.objs.size f (.ref c))) → (qg = true → (A.deeper (envOfC x (defScope st) s.heap.objs.size f (.ref c))).guards = some []) →
        ∃ t, PSs (cxOf (L2.CX P w) P w K mg base N x (defScope st) f (.ref c) A outer s H E) (defBody st) t ∧
          ∀ ds, ds.length = ps.length → SS ⟨K, mg, E⟩ own t (startS N.length ds) (enc0 N.length) noE (F ds)) :
    Cd qg P w K mg base x (k + 1) ps (spD K mg own ps.length (fun ds => endB own (F ds))) := by
  obtain ⟨f, fd, Fn, g, b, hc⟩ := d
  refine ⟨f, fd, g, Fn.kp, b, g_of own Fn sc fun cdv A outer s H E hcd => ?_⟩
  rw [hc] at hcd
  subst hcd
  exact hbody f A outer s H E
/-- .. with its code's value -/
theorem dfE_mk {h : Heap} {x : Str} {st : Stmt} {ps : List Str} {f : Addr} {oc : Value} {od an : Option Addr} {osl : Array (Option Value)} {kV doc pm cdv ct : Value} (X : K.In h) (G : h.Ns mainGlobals mg)
    (a : PySem.W.nsIn K mainGlobals x = some (some (.ref f)))
    (l : K.lookup f = some ⟨oc, od, .func (PySem.W.fnOf x x (defArgs st) (defBody st) (defScope st) .none kV doc pm an cdv ct), osl⟩)
    (c : PySem.W.codeIn K cdv x = true) (k : PySem.W.keepIn K (.ref f) = true)
    (b : ∀ (kV doc pm : Value) (an : Option Addr) (cdv ct : Value) (us : List Value), us.length = ps.length → bindArgs (PySem.W.fnOf x x (defArgs st) (defBody st) (defScope st) .none kV doc pm an cdv ct) ⟨us, []⟩ = pure (ps.zip us)) :
    ∃ f fd, L2.Fun K x x st f fd ∧ mg x = some (.ref f) ∧ Binds K fd ps [] ∧ (∀ (s : Shared) (us : List Value), us.length = ps.length → BindsTo s fd ⟨us, []⟩ (ps.zip us)) ∧ fd.code = cdv :=
  have F := fun_mk l c k
  ⟨f, _, F, PySem.W.mg_of X G a, F.binds b, fun _ us hl => .of_eq (b kV doc pm an cdv ct us hl), rfl⟩
theorem dfC_of {x : Str} {st : Stmt} {ps : List Str} {cdv : Value} {c : Addr} (d : ∃ f fd, L2.Fun K x x st f fd ∧ mg x = some (.ref f) ∧ Binds K fd ps [] ∧ (∀ (s : Shared) (us : List Value), us.length = ps.length → BindsTo s fd ⟨us, []⟩ (ps.zip us)) ∧ fd.code = cdv) (h : cdv = .ref c) : DfC K mg x st ps c := by
  obtain ⟨f, fd, F, g, b, _, e⟩ := d
  exact ⟨f, fd, F, g, b, e.trans h⟩
abbrev lamQ (x : Str) : Str := x ++ ".<locals>." ++ "<lambda>"
def tabP (o : Obj) : Option Addr := match o.data with
  | .fields vs => (match (vs[11]? : Option Value) with
    | some (.ref B) => some B
    | _ => none)
  | _ => none
def isClsO (o : Obj) : Bool := match o.data with
  | .cls _ => true
  | _ => false
theorem tb_uniq : ∀ {T : List (Addr × Str)} {B : Addr} {q : Str}, (T.map (·.1)).Nodup → (B, q) ∈ T → ∀ p ∈ T, p.1 = B → p.2 = q
  | [], _, _, _, h => nomatch h
  | x :: r, B, q, nd, h => by
    intro p hp e
    rw [List.map_cons, List.nodup_cons] at nd
    rcases List.mem_cons.mp h with rfl | h2
    · rcases List.mem_cons.mp hp with rfl | hp
      · rfl
      · exact absurd (List.mem_map.mpr ⟨p, hp, e⟩) nd.1
    · rcases List.mem_cons.mp hp with rfl | hp
      · exact (nd.1 (List.mem_map.mpr ⟨(B, q), h2, e.symm⟩)).elim
      · exact tb_uniq nd.2 h2 p hp e
theorem kc_mk {ns : List Str} {x : Str} {C T : Addr} (g : mg x = some (.ref C)) (c : ExcC K C)
    (own : ∀ n ∈ ns, ∃ N o, mg n = some (.ref N) ∧ K.lookup N = some o ∧ isClsO o = true ∧ PySem.W.typeIn K (.ref N) = some (.type "type") ∧ PySem.W.subIn K (.ref C) (.ref N) = some (decide (x = n)))
    (self : PySem.W.subIn K (.ref C) (.ref C) = some true) (ve : PySem.W.subIn K (.ref C) (.type "ValueError") = some true)
    (gT : mg "HueError" = some (.ref T)) (bT : PySem.W.subIn K (.ref T) (.type "BaseException") = some true) (dT : PySem.W.hasDictIn K T = true) (tT : PySem.W.typeIn K (.ref T) = some (.type "type")) (sT : PySem.W.subIn K (.ref C) (.ref T) = some true) : Kc K mg ns x C where
  g := g
  c := c
  own := fun n hn N hN => by
    obtain ⟨N', o, g2, lk, io, ty, su⟩ := own n hn
    rw [hN] at g2
    cases g2
    unfold PySem.W.kitOne
    by_cases e : (Value.ref C == Value.ref N) = true
    · rw [if_pos e]
      have e2 : C = N := Value.ref.inj (beq_iff_eq.mp e)
      subst e2
      rw [self] at su
      exact su
    · rw [if_neg e]
      have hc : (PySem.W.clsIn K N).isSome = true := by
        unfold PySem.W.clsIn
        rw [lk]
        obtain ⟨a, b, d, sl⟩ := o
        cases d <;> first | rfl | exact absurd (show false = true from io) (by decide)
      show (if ((PySem.W.clsIn K N).isSome && PySem.W.typeIn K (.ref N) == some (.type "type")) = true then PySem.W.subIn K (.ref C) (.ref N) else none) = _
      rw [hc, ty, if_pos (by rfl)]
      exact su
  ve := by
    unfold PySem.W.kitOne
    rw [if_neg (fun z => by cases (beq_iff_eq.mp z))]
    show (if PySem.W.kitMeta "ValueError" = true then PySem.W.subIn K (.ref C) (.type "ValueError") else none) = some true
    rw [if_pos (by decide +kernel)]
    exact ve
  top := fun T' h => by
    rw [gT] at h
    cases h
    exact PySem.W.exm_ref bT dT tT sT
theorem pass_lam {X : Cx} {A : Around} {outer : List Env} {s : Shared} {H : Hp} {E : XK} {sc : Scope} {f N : Addr} : Passes (L2.CX X.prog X.w) (LamX.lamCx X A outer s H E sc f N) E :=
  passes_call (takes_of (E := E) rfl rfl rfl rfl) fun _ _ _ _ z => z
/-- a call within a lambda's body -/
theorem pe_cdl {X : Cx} {A : Around} {outer : List Env} {s : Shared} {H : Hp} {E : XK} {sc : Scope} {f N : Addr} {qg : Bool} {k j : Nat} {ps : List Str} {sp : Sp} {x : Str} {p pos : Pos} {e : Expr} {es : List Expr} {t : TA} (c : Cd qg X.prog X.w X.K X.mg X.base x j ps sp) (hr : Room k (A.deeper (LamX.lamEnv X sc s.heap.objs.size f N)))
    (hg : qg = true → (A.deeper (LamX.lamEnv X sc s.heap.objs.size f N)).guards = some []) (ha : PA (LamX.lamCx X A outer s H E sc f N) (e :: es) t) (hjk : j ≤ k := by decide) (hgl : Gl (LamX.lamCx X A outer s H E sc f N) x := by exact rfl)
    (hdb : (x == ("__debug__" : Str)) = false := by decide) (he : starEach (e :: es) (LamX.lamCx X A outer s H E sc f N).env = (false, eval e (LamX.lamCx X A outer s H E sc f N).env) :: starEach es (LamX.lamCx X A outer s H E sc f N).env := by rfl) (hpl : (backTo pos (starEach es (LamX.lamCx X A outer s H E sc f N).env)).any (·.1) = false := by rfl) :
    PE (LamX.lamCx X A outer s H E sc f N) (.Call (.Name x p) (e :: es) [] pos) (tCallG sp E t) :=
  pe_cd (X := LamX.lamCx X A outer s H E sc f N) c hr hg (pass_lam (X := X)) ha hjk hgl hdb he hpl
end
/-! ### try: call() / except HueError as e: w = kind(e); return (w, e.many, e.most) if w == "great" else w / return "told" -/
def TTsaid (K : PySem.W.Frag) (mg : Str → Option Value) (xs : List Str) (F : Str → List D → M D) : (XK → Hp → VK → Prop) → Hp → VK → Prop := fun tl H Q =>
  tl (fun cls d H' => (∀ x, d = some x → ∃ fs, H' x = some (.xd fs)) ∧ ∃ W x C, WOk W H' ∧ x ∈ xs ∧ mg x = some (.ref C) ∧ cls = .ref C ∧ ∀ a : Addr, (F x [.opq (2 * a + 1)]).run (fun dd => ∃ w : Str, dd = .str w ∧
    ((w ≠ "great" ∧ ∀ W'' H'' v, Step W H' W'' H'' → Rep K W'' v dd → Q v H'') ∨
      (w = "great" ∧ x = "TooGreat" ∧ ∃ (i j : Int) (dx : Addr) (fs : List (Str × V)), d = some dx ∧ W.P dx = some (.xd fs) ∧ fs.lookup ("many" : Str) = some (V.int i) ∧ fs.lookup ("most" : Str) = some (V.int j) ∧ ∀ W'' H'' v, Step W H' W'' H'' → Rep K W'' v (.tup [.str "great", .int i, .int j]) → Q v H''))) (fun _ => False)) H fun _ H' => Q (.str "told") H'
section
variable {S : Sx} {ρ : List Sl} {r : M D} {t : XK → TE} {xs : List Str} {F : Str → List D → M D}
theorem xrep_dict {mg : Str → Option Value} {e : Exn} {C : Addr} {d : Option Addr} {W : Wd} {H : Hp} (w : WOk W H) (hx : match e.args with
    | none => d = none
    | some (m, n) => ∃ (dx : Addr) (fs : List (Str × V)), d = some dx ∧ W.P dx = some (.xd fs) ∧ fs.lookup ("many" : Str) = some (V.int m) ∧ fs.lookup ("most" : Str) = some (V.int n)) : ∀ x, d = some x → ∃ fs, H x = some (.xd fs) := fun x ex => by
  subst ex
  cases ea : e.args with
  | none =>
    rw [ea] at hx
    cases hx
  | some mn =>
    rw [ea] at hx
    obtain ⟨d, fs, e4, e5, _⟩ := hx
    cases e4
    exact ⟨fs, w.sub _ _ e5⟩
theorem se_said (h : ∀ E, SE ⟨S.K, S.mg, E⟩ (t E) ρ r) : SE S (tLm (TTsaid S.K S.mg xs F) t) ρ (saidM xs F r) := fun σ H W H0 Q en w q => by
  refine ⟨w.tab, fun H1 tn t1 => ?_⟩
  have st := step_turns w tn t1
  refine h _ σ H1 W H0 _ (en.step st) st.ok (r.mono (fun d hd => ?_) (fun e he => ?_) q)
  · intro v W' H' s' _
    exact hd _ _ _ (st.trans w s') (.str _)
  · rintro cv dx W' H' s' ⟨C, hC, rfl, hx⟩
    obtain ⟨e2, e3⟩ := he
    refine ⟨xrep_dict (mg := S.mg) (C := C) s'.ok hx, W', e.cls, C, s'.ok, e2, hC, rfl, fun a => (F _ _).mono (fun dd ⟨w1, hd1, hd2⟩ => ⟨w1, hd1, hd2.imp (fun z => ⟨z.1, fun W'' H'' v s'' rv => z.2 v W'' H'' ((st.trans w s').trans w s'') rv⟩) (fun ⟨i, j, z1, z2, z3, z4⟩ => ?_)⟩) (fun _ z => z) (e3 a)⟩
    rw [z3] at hx
    obtain ⟨d, fs, f1, f2, f3, f4⟩ := hx
    exact ⟨z1, z2, i, j, d, fs, f1, f2, f3, f4, fun W'' H'' v s'' rv => z4 v W'' H'' ((st.trans w s').trans w s'') rv⟩
end
section
variable {P : Program} {w : World} {K : PySem.W.Frag} {mg : Str → Option Value} {base : Heap}
theorem said_gr {x kd a e wn : Str} {st : Stmt} {ns xs : List Str} {F : Str → List D → M D} {j1 j2 j3 : Nat} {p1 p2 p3 p4 p5 p6 p7 p8 p9 p10 p11 p12 p13 p14 p15 p16 p17 p18 p19 p20 p21 p22 p23 p24 p25 : Pos} {pk : Str} {CS G : Addr} (d : Df K mg x st [a]) (sc : FnScope [a, e, wn] [a] (defScope st)) (kc : Kcs K mg ns xs) (hCS : mg "HueError" = some (.ref CS))
    (ck : CdH P w K mg base kd 1 [pk] (spK K mg xs F)) (hG : mg "TooGreat" = some (.ref G)) (xf : XfC K G) (hm1 : PySem.W.findIn K (.ref G) "many" = some none) (hm2 : PySem.W.findIn K (.ref G) "most" = some none)
    (hb : defBody st = [.Try [.Expr (.Call (.Name a p1) [] [] p2) p3] [.ExceptHandler (some (.Name "HueError" p4)) (some e) [.Assign [.Name wn p5] (.Call (.Name kd p6) [.Name e p7] [] p8) p9,
      .Return (some (.IfExp (.Compare (.Name wn p10) [.Eq] [.Constant (.str "great") j1 p11] p12) (.Tuple [.Name wn p13, .Attribute (.Name e p14) "many" p15, .Attribute (.Name e p16) "most" p17] j3 p18) (.Name wn p19) p20)) p21] p22] [] [] p23, .Return (some (.Constant (.str "told") j2 p24)) p25])
    (hva : Vis (defScope st) a) (hge : (defScope st).names.lookup ("HueError" : Str) = some NameKind.globalImplicit) (hgk : (defScope st).names.lookup kd = some NameKind.globalImplicit) (hle : (defScope st).names.lookup e = some NameKind.local) (hlw : (defScope st).names.lookup wn = some NameKind.local)
    (hdb : (x == ("__debug__" : Str)) = false := by decide) (hda : (a == ("__debug__" : Str)) = false := by decide) (hca : (a == ("__classdict__" : Str)) = false := by decide) (hdk : (kd == ("__debug__" : Str)) = false := by decide)
    (hde : (e == ("__debug__" : Str)) = false := by decide) (hce : (e == ("__classdict__" : Str)) = false := by decide) (hdw : (wn == ("__debug__" : Str)) = false := by decide) (hcw : (wn == ("__classdict__" : Str)) = false := by decide) : GivesR P w K mg base [a, e, wn] x (defScope st) (defBody st) a (TTsaid K mg xs F) := by
  rw [hb]
  intro X g cdg q s H0 hP hw hK hmg hbase hr f N Q tl act hN h
  subst hP hw hK hmg hbase
  refine ⟨_, pss_cons (ps_try_as (X := (cxOf C8.CX0 X.prog X.w X.K X.mg X.base [a, e, wn] x (defScope st) g cdg X.A X.stack s H0 C8.E0).nox) (i := 1) (c := .ref CS) (Wout := fun _ _ _ _ => False)
      (tb := fun W D σ H => ∃ Ech : XK, (∀ cls d σ' H', Ech cls d H' → W cls d σ' H') ∧ σ[0]? = some (some (.ref f)) ∧ H N = some (LamX.CodeO N q) ∧ tl Ech H fun _ H' => D.nx σ H')
      (ts := fun b cls d D σ H => (∀ x, d = some x → ∃ fs, H x = some (.xd fs)) ∧ (σ.length = 3 → σ[1]? = some (some (.ref b))) ∧ spK X.K X.mg xs F b cls [.ref b] H fun v H' => ∃ w : Str, v = .str w ∧ ((w ≠ "great" ∧ D.rt (.str w) H') ∨
        (w = "great" ∧ cls = .ref G ∧ ∃ (i j : Int) (dx : Addr) (fs : List (Str × V)), d = some dx ∧ H' dx = some (.xd fs) ∧ fs.lookup ("many" : Str) = some (V.int i) ∧ fs.lookup ("most" : Str) = some (V.int j) ∧ NewT H' [.str "great", .int i, .int j] D.rt)))
      rfl rfl sc.nd rfl hle ⟨hge, by decide, .inl hCS⟩ LamX.takes0 (fun W pn xe tk _ => ?_) (fun b oe cls dd pn hz hf => ?_)) (pss_one (ps_ret pe_str)), ?_⟩
  · constructor
    intro pins s' σ H' D I h'
    obtain ⟨Ech, hW, h1, h2, h3⟩ := h'
    exact (pss_one (ps_expr (act W pn xe Ech p1 p2 tk hW))).run pins s' σ H' D I ⟨h1, h2, h3⟩
  · constructor
    intro pins s' σ H' D I h'
    obtain ⟨h0, h1, h2⟩ := h'
    have hl : σ.length = 3 := I.len
    have pv1 : ∀ p, PE ((cxOf C8.CX0 X.prog X.w X.K X.mg X.base [a, e, wn] x (defScope st) g cdg X.A X.stack s H0 C8.E0).nox.suite b ((b, oe) :: pn)) (.Name e p) (tVar 1) := fun p => pe_var (i := 1) rfl (.inl hle) hde hce
    have pv2 : ∀ p, PE ((cxOf C8.CX0 X.prog X.w X.K X.mg X.base [a, e, wn] x (defScope st) g cdg X.A X.stack s H0 C8.E0).nox.suite b ((b, oe) :: pn)) (.Name wn p) (tVar 2) := fun p => pe_var (i := 2) rfl (.inl hlw) hdw hcw
    have pc : PE ((cxOf C8.CX0 X.prog X.w X.K X.mg X.base [a, e, wn] x (defScope st) g cdg X.A X.stack s H0 C8.E0).nox.suite b ((b, oe) :: pn)) (.Call (.Name kd p6) [.Name e p7] [] p8) (tCallH (spK X.K X.mg xs F) b cls dd (tCons (tVar 1) tNil)) :=
      pe_cdH (k := 3) ck ⟨hr.dp, hr.un⟩ (by decide) List.mem_cons_self hz hf hgk (pa_cons (pv1 _) pa_nil) hdk
    have body : PSs ((cxOf C8.CX0 X.prog X.w X.K X.mg X.base [a, e, wn] x (defScope st) g cdg X.A X.stack s H0 C8.E0).nox.suite b ((b, oe) :: pn)) [.Assign [.Name wn p5] (.Call (.Name kd p6) [.Name e p7] [] p8) p9,
      .Return (some (.IfExp (.Compare (.Name wn p10) [.Eq] [.Constant (.str "great") j1 p11] p12) (.Tuple [.Name wn p13, .Attribute (.Name e p14) "many" p15, .Attribute (.Name e p16) "most" p17] j3 p18) (.Name wn p19) p20)) p21] _ :=
      pss_cons (ps_set (i := 2) sc.nd rfl (.inl hlw) pc) (pss_one (ps_ret (pe_ifExp (pt_cmpR op_eq (pv2 p10) pe_str (nomark _)) (pe_tupB (pa_cons (pv2 p13) (pa_cons (pe_xf (n := "many") xf hm1 hz hf (pv1 p14)) (pa_cons (pe_xf (n := "most") xf hm2 hz hf (pv1 p16)) pa_nil)))) (pv2 p19))))
    refine body.run pins s' σ H' D I ⟨_, h1 hl, ?_, h0⟩
    obtain ⟨W, y, C, wk, e1, hy, hC, ec, hF⟩ := h2
    refine ⟨W, y, C, wk, e1, hy, hC, ec, (F y _).mono (fun dd2 hd W' H'' v st rv => ?_) (fun _ z => z) hF⟩
    obtain ⟨w, rfl, ⟨ne, fin⟩ | ⟨rfl, ecl, i, j, dx, fs, f1, f2, f3, f4, fin⟩⟩ := hd W' H'' v st rv
    · refine ⟨_, List.getElem?_set_self (by omega), rfl, _, rfl, ?_⟩
      rw [show decide (V.str w = V.str "great") = false from decide_eq_false fun z => ne (V.str.inj z)]
      exact ⟨_, List.getElem?_set_self (by omega), fin⟩
    · refine ⟨_, List.getElem?_set_self (by omega), rfl, _, rfl, ?_⟩
      rw [show decide (V.str "great" = V.str "great") = true from decide_eq_true rfl]
      have g1 : (σ.set 2 (some (V.str "great")))[1]? = some (some (.ref b)) := by rw [List.getElem?_set_ne (by decide)]; exact h1 hl
      exact ⟨_, List.getElem?_set_self (by omega), ⟨_, g1, rfl, ecl, dx, fs, _, f1, f2, f3, ⟨_, g1, rfl, ecl, dx, fs, _, f1, f2, f4, Nat.le_of_lt (small1000 (Nat.le_of_ble_eq_true rfl)), fun p ob hp ho => fin p ob hp ho⟩⟩⟩
  · refine ⟨fun cls d H' => (∀ x, d = some x → ∃ fs, H' x = some (.xd fs)) ∧ ∃ W x C, WOk W H' ∧ x ∈ xs ∧ X.mg x = some (.ref C) ∧ cls = .ref C ∧ ∀ a : Addr, (F x [.opq (2 * a + 1)]).run (fun dd => ∃ w : Str, dd = .str w ∧
      ((w ≠ "great" ∧ ∀ W'' H'' v, Step W H' W'' H'' → Rep X.K W'' v dd → Q v H'') ∨
        (w = "great" ∧ x = "TooGreat" ∧ ∃ (i j : Int) (dx : Addr) (fs : List (Str × V)), d = some dx ∧ W.P dx = some (.xd fs) ∧ fs.lookup ("many" : Str) = some (V.int i) ∧ fs.lookup ("most" : Str) = some (V.int j) ∧ ∀ W'' H'' v, Step W H' W'' H'' → Rep X.K W'' v (.tup [.str "great", .int i, .int j]) → Q v H''))) (fun _ => False), ?_, rfl, hN, h⟩
    rintro cls d σ' H' ⟨h0, W, y, C, wk, hy, hC, rfl, hF⟩
    obtain ⟨C', ky⟩ := kc y hy
    have eC := ky.g
    rw [hC] at eC
    cases eC
    refine ⟨true, ky.top CS hCS, fun _ b _ => ⟨h0, fun hl => ?_, W, y, C, wk, rfl, hy, hC, rfl, (F y _).mono (fun dd hd W'' H'' v st rv => ?_) (fun _ z => z) (hF b)⟩, fun z => nomatch z⟩
    · rw [List.length_set] at hl
      exact List.getElem?_set_self (by omega)
    · obtain ⟨w, rfl, ⟨ne, q⟩ | ⟨rfl, ey, i, j, dx, fs, f1, f2, f3, f4, q⟩⟩ := hd
      · have q2 := q W'' H'' v st rv
        cases rv
        exact ⟨w, rfl, .inl ⟨ne, q2⟩⟩
      · cases rv
        refine ⟨_, rfl, .inr ⟨rfl, ?_, i, j, dx, fs, f1, st.ok.sub _ _ (st.le.p _ _ f2), f3, f4, fun p ob hp ho => ?_⟩⟩
        · subst ey
          rw [hG] at hC
          cases hC
          rfl
        · have sd := Step.dat (o := .frz ob (.tup [.str "great", .int i, .int j])) st.ok hp
          exact q _ _ _ (st.trans wk sd) (.tup (.inl ⟨ob, upd_same, ho⟩) (.cons (.str _) (.cons (.int _) (.cons (.int _) .nil))))
theorem said_gv {x kd a e wn : Str} {st : Stmt} {ns xs : List Str} {F : Str → List D → M D} {j1 j2 j3 : Nat} {p1 p2 p3 p4 p5 p6 p7 p8 p9 p10 p11 p12 p13 p14 p15 p16 p17 p18 p19 p20 p21 p22 p23 p24 p25 : Pos} {pk : Str} {CS G : Addr} (d : Df K mg x st [a]) (sc : FnScope [a, e, wn] [a] (defScope st)) (kc : Kcs K mg ns xs) (hCS : mg "HueError" = some (.ref CS))
    (ck : CdH P w K mg base kd 1 [pk] (spK K mg xs F)) (hG : mg "TooGreat" = some (.ref G)) (xf : XfC K G) (hm1 : PySem.W.findIn K (.ref G) "many" = some none) (hm2 : PySem.W.findIn K (.ref G) "most" = some none)
    (hb : defBody st = [.Try [.Expr (.Call (.Name a p1) [] [] p2) p3] [.ExceptHandler (some (.Name "HueError" p4)) (some e) [.Assign [.Name wn p5] (.Call (.Name kd p6) [.Name e p7] [] p8) p9,
      .Return (some (.IfExp (.Compare (.Name wn p10) [.Eq] [.Constant (.str "great") j1 p11] p12) (.Tuple [.Name wn p13, .Attribute (.Name e p14) "many" p15, .Attribute (.Name e p16) "most" p17] j3 p18) (.Name wn p19) p20)) p21] p22] [] [] p23, .Return (some (.Constant (.str "told") j2 p24)) p25])
    (hva : Vis (defScope st) a) (hge : (defScope st).names.lookup ("HueError" : Str) = some NameKind.globalImplicit) (hgk : (defScope st).names.lookup kd = some NameKind.globalImplicit) (hle : (defScope st).names.lookup e = some NameKind.local) (hlw : (defScope st).names.lookup wn = some NameKind.local)
    (hdb : (x == ("__debug__" : Str)) = false := by decide) (hda : (a == ("__debug__" : Str)) = false := by decide) (hca : (a == ("__classdict__" : Str)) = false := by decide) (hdk : (kd == ("__debug__" : Str)) = false := by decide)
    (hde : (e == ("__debug__" : Str)) = false := by decide) (hce : (e == ("__classdict__" : Str)) = false := by decide) (hdw : (wn == ("__debug__" : Str)) = false := by decide) (hcw : (wn == ("__classdict__" : Str)) = false := by decide) : Gv P w K mg base x (TTsaid K mg xs F) :=
  gv_of d sc rfl hva (said_gr d sc kc hCS ck hG xf hm1 hm2 hb hva hge hgk hle hlw hdb hda hca hdk hde hce hdw hcw) hdb hda hca
end
/-! ### tuples of numbers that stand in the module -/
def valInts : List Value → Option (List Int)
  | [] => some []
  | .int i _ :: r => (valInts r).map (i :: ·)
  | _ :: _ => none
def tupInts (o : Obj) : Option (List Int) := match o with
  | ⟨.type "tuple", none, .seq vs _, _⟩ => if vs.size ≤ 1000 then valInts vs.toList else none
  | _ => none
def GTup (K : PySem.W.Frag) (a : Addr) (ns : List Int) : Prop := ∃ o, K.lookup a = some o ∧ tupInts o = some ns
theorem valInts_vals : ∀ {vs : List Value} {ns : List Int}, valInts vs = some ns → Vals (ns.map V.int) vs
  | [], _, h => by
    cases h
    exact .nil
  | v :: r, ns, h => by
    cases v with
    | int i t =>
      rw [valInts, Option.map_eq_some_iff] at h
      obtain ⟨ms, e, rfl⟩ := h
      exact .cons ⟨t, rfl⟩ (valInts_vals e)
    | _ => cases h
theorem gtup_sq {K : PySem.W.Frag} {a : Addr} {ns : List Int} {H : Hp} (h : GTup K a ns) : BqT K H a (ns.map V.int) := by
  obtain ⟨o, lk, e⟩ := h
  unfold tupInts at e
  split at e
  · rename_i vs n sl
    split at e
    · rename_i hz
      have r := valInts_vals e
      exact .inr ⟨_, vs, _, lk, rfl, rfl, rfl, Nat.le_trans hz (by decide), r⟩
    · cases e
  · cases e
section
variable {S : Sx} {ρ : List Sl}
theorem se_gtup {a : Addr} {ns : List Int} (h : GTup S.K a ns) : SE S (tC (.ref a)) ρ (pure (.tup (ns.map D.int))) := fun σ H W H0 Q en w q => by
  exact q _ _ _ (Step.refl w) (.tup (gtup_sq h) (reps_ints ns))
end
end Ev

namespace Ev
open PySem PySem.Spec PyProof.Rows L2
variable [Tb]
/-! ### methods of tuples -/
section
variable {X : Cx} {pins : List (Addr × Obj)} {σ : L2.St} {H : Hp} {s : Shared}
theorem bqT_at {a : Addr} {xs : List V} (I : L2.Inv X pins σ H s) (h : BqT X.K H a xs) : s.TypeIs (.ref a) "tuple" ∧ ∀ b, Value.ref a = .ref b → ∃ ob, s.heap.get? b = some ob ∧ ob.dict = none := by
  rcases h with ⟨o, h, e⟩ | ⟨o, its, n, h1, h2, h3, _⟩
  · obtain ⟨g, _, iv, _, ⟨o2, g2, c2, _⟩⟩ := (show ObjOk X.prog X.w H s.heap a (.frz o (.tup xs)) from I.hok a _ h)
    rw [g] at g2
    cases g2
    exact ⟨⟨o, g, c2⟩, fun b eb => by cases eb; exact ⟨o, g, e⟩⟩
  · exact ⟨⟨o, I.kIn a o h1, h2⟩, fun b eb => by cases eb; exact ⟨o, I.kIn _ o h1, h3⟩⟩
end
def tBMT (K : PySem.W.Frag) (r : V → List V → Hp → VK → Prop) (to : TE) (t : TA) : TE := fun σ H Q => to σ H fun x H1 => (∃ a xs, x = .ref a ∧ BqT K H1 a xs) ∧ t σ H1 fun xs H2 => r x xs H2 Q
theorem pe_bmT {X : Cx} {K : PySem.W.Frag} {o e : Expr} {es : List Expr} {to : TE} {t : TA} {name : Str} {apos cpos : Pos} {id : String} {r : V → List V → Hp → VK → Prop} (hK : X.K = K) (slot : Slot "tuple" name id) (hty : typeOf (.builtin id) = pure (.type "method_descriptor")) (hm : MtR X id r) (ho : PE X o to) (ha : PA X (e :: es) t)
    (hb : attributeBase o name X.env (eval o X.env) = eval o X.env := by rfl)
    (hf : ((backTo cpos (starEach (e :: es) X.env)).all (fun x => !x.1) && (backToKw cpos (keywordEach [] X.env)).all (fun x => x.1.isSome) && decide ((e :: es).length + ([] : List Keyword).length + (if ([] : List Keyword).isEmpty then 0 else 1) < 30)) = true := by rfl)
    (hl : (apos.endLine == cpos.line) = true := by rfl) (hs : starEach (e :: es) X.env = (false, eval e X.env) :: starEach es X.env := by rfl) (hp : (backTo cpos (starEach es X.env)).any (·.1) = false := by rfl) :
    PE X (.Call (.Attribute o name apos) (e :: es) [] cpos) (tBMT K r to t) := by
  subst hK
  constructor
  intro pins s σ H Q I h
  refine wpAny_Call_method_late hb hf hl rfl (thn (ho.run pins s σ H _ I h) ?_)
  rintro v s1 ⟨x, H1, J, rx, ⟨a, xs, rfl, bq⟩, q⟩
  cases rx
  obtain ⟨h1, h2⟩ := bqT_at J bq
  refine ⟨"tuple", id, PySem.F.plainAttrs_tuple, slot, hty, h1, h2, ?_⟩
  have run := ha.run cpos pins s1 σ H1 _ J q
  rw [hs] at run ⊢
  refine Calls.callWith_builtin (by show (false || (backTo cpos (starEach es X.env)).any (·.1)) = false; rw [hp]; rfl) (Calls.evalArgs_plain (thn run ?_))
  rintro us s2 ⟨vs, H2, J2, rs, q2⟩
  exact hm pins s2 σ H2 (.ref a) vs (.ref a) us Q J2 rfl rs q2
section
variable {X : Cx} {K : PySem.W.Frag}
theorem countP_ints {k : Int} {t : Tok} : ∀ {us : List Value} {ns : List Int}, Vals (ns.map V.int) us → us.countP (eqU (.int k)) = ns.count k
  | [], [], _ => rfl
  | [], _ :: _, h => nomatch h
  | _ :: _, [], h => nomatch h
  | u :: us, c :: ns, .cons r tl => by
    obtain ⟨t', rfl⟩ := r
    rw [List.countP_cons, List.count_cons, countP_ints (t := t) tl]
    rfl
theorem flat_ints (ns : List Int) : (ns.map V.int).all flatV = true := by
  rw [List.all_map, List.all_eq_true]
  exact fun _ _ => rfl
def rCntT (K : PySem.W.Frag) : V → List V → Hp → VK → Prop := fun x xs H Q => ∃ (p : Addr) (ns : List Int) (k : Int), x = .ref p ∧ xs = [.int k] ∧ SqT K H p (ns.map V.int) ∧ Q (.int (ns.count k : Nat)) H
theorem mt_tcount (hK : X.K = K) : MtR X "tuple.count" (rCntT K) := by
  subst hK
  rintro pins s σ H x xs v us Q I rx rxs ⟨p, ns, k, rfl, rfl, hs, q⟩
  cases rx
  obtain ⟨u, rfl, ru⟩ := rxs.one
  obtain ⟨t, rfl⟩ := ru
  obtain ⟨its, rv, ⟨⟨cls, dd, data, sl⟩, ho, hc, n, hd⟩, _⟩ := I.tuple hs
  simp only at hc hd
  subst hc hd
  refine call_meets PySem.F.slot_tuple_count ⟨_, ho, rfl⟩ PySem.F.entry_tuple_count (PySem.F.args_tuple_count_2 _ _)
    (SeqAt.tuple_countAt p its.toArray n dd sl (.int k t) (eqU (.int k))) ⟨ho, fun y hy => mem_eqAt (x := V.int k) ⟨t, rfl⟩ rfl rv (flat_ints ns) y (by simpa using hy), .int (ns.count k : Nat), H, I.tok _, ⟨s.toks, ?_⟩, q⟩
  have e : its.toArray.toList.countP (eqU (.int k)) = ns.count k := countP_ints (t := t) rv
  show Value.int ((its.toArray.toList.countP (eqU (.int k)) : Nat) : Int) s.toks = _
  rw [e]
def rIdxT (K : PySem.W.Frag) : V → List V → Hp → VK → Prop := fun x xs H Q => ∃ (p : Addr) (ns : List Int) (k : Int) (j : Nat), x = .ref p ∧ xs = [.int k] ∧ SqT K H p (ns.map V.int) ∧ ns[j]? = some k ∧ (∀ m, m < j → ns[m]? ≠ some k) ∧ Q (.int (j : Nat)) H
theorem mt_tindex (hK : X.K = K) : MtR X "tuple.index" (rIdxT K) := by
  subst hK
  rintro pins s σ H x xs v us Q I rx rxs ⟨p, ns, k, j, rfl, rfl, hs, hj, hno, q⟩
  cases rx
  obtain ⟨u, rfl, ru⟩ := rxs.one
  obtain ⟨t, rfl⟩ := ru
  obtain ⟨its, rv, ⟨⟨cls, dd, data, sl⟩, ho, hc, n, hd⟩, _⟩ := I.tuple hs
  simp only at hc hd
  subst hc hd
  have el : its.length = ns.length := by rw [← rv.length, List.length_map]
  have at' : ∀ (m : Nat) (z : Int), ns[m]? = some z → ∃ t', its[m]? = some (Value.int z t') := fun m z e => by
    obtain ⟨w, e1, t', e2⟩ := rv.get (i := m) (x := .int z) (by rw [List.getElem?_map, e]; rfl)
    subst e2
    exact ⟨t', e1⟩
  have jl : j < its.toArray.size := by
    rw [List.size_toArray, el]
    exact (List.getElem?_eq_some_iff.mp hj).1
  refine call_meets PySem.F.slot_tuple_index ⟨_, ho, rfl⟩ PySem.F.entry_tuple_index (PySem.F.args_tuple_index_2 _ _) (TI.tuple_indexAt p its.toArray n dd sl (.int k t) (eqU (.int k)) j jl ?_ ?_)
    ⟨ho, fun y hy => mem_eqAt (x := V.int k) ⟨t, rfl⟩ rfl rv (flat_ints ns) y (by simpa using hy), .int (j : Nat), H, I.tok _, ⟨s.toks, rfl⟩, q⟩
  · obtain ⟨t', e⟩ := at' j k hj
    have e2 : its.toArray[j] = Value.int k t' := by
      rw [List.getElem_toArray]
      exact (List.getElem?_eq_some_iff.mp e).2
    rw [e2]
    show (k == k) = true
    exact beq_self_eq_true k
  · intro m hm lt
    have hm' : m < ns.length := by rw [List.size_toArray, el] at hm; exact hm
    obtain ⟨t', e⟩ := at' m _ (List.getElem?_eq_getElem hm')
    have e2 : its.toArray[m] = Value.int ns[m] t' := by
      rw [List.getElem_toArray]
      exact (List.getElem?_eq_some_iff.mp e).2
    rw [e2]
    show (ns[m] == k) = false
    exact beq_eq_false_iff_ne.mpr fun z => hno m lt (by rw [List.getElem?_eq_getElem hm', z])
end
section
variable {S : Sx} {ρ : List Sl} {to : TE} {ta : TA} {ro : M D} {rs : List (M D)}
def TeS (K : PySem.W.Frag) (r : V → List V → Hp → VK → Prop) (f : List D → List D → M D) : Prop :=
  ∀ W H a us xs vs ds Q (E : Exn → Prop), WOk W H → BqT K W.P a us → Reps K W us xs → Reps K W vs ds → (f xs ds).run (Post K Q W H) E → r (.ref a) vs H Q
theorem se_tmet {r : V → List V → Hp → VK → Prop} {f : List D → List D → M D} (hf : TeS S.K r f) (h : SE S to ρ ro) (h2 : SA S ta ρ rs) : SE S (tBMT S.K r to ta) ρ (tupMet f ro rs) := fun σ H W H0 Q e w q => by
  refine h.go e w q (fun _ z => z) fun d v W1 H1 q1 s1 r1 e1 => ?_
  cases r1 with
  | @tup a us xs hx rx =>
    refine ⟨⟨a, us, rfl, s1.ok.bqT hx⟩, ?_⟩
    refine h2.go e1 s1.ok q1 (fun _ z => z.after w s1) fun ds vs W2 H2 q2 s2 r2 e2 => ?_
    exact hf W2 H2 a us xs vs ds Q _ s2.ok (s2.le.bqT hx) (rx.mono s2.le) r2 ((f xs ds).mono (fun _ z => z.after w (s1.trans w s2)) (fun _ z => z) q2)
  | _ => exact (show False from q1).elim
theorem te_count {K : PySem.W.Frag} : TeS K (rCntT K) cntT := by
  intro W H a us xs vs ds Q E w ha rx rs h
  obtain ⟨ns, k, e, rfl, q⟩ := cntT_run h
  obtain ⟨v, rfl, r⟩ := rs.of1
  cases r
  exact ⟨a, ns, k, rfl, rfl, by rw [← ints_rep rx e]; exact w.sqT ha, post_here w q (.int _)⟩
theorem te_index {K : PySem.W.Frag} : TeS K (rIdxT K) idxT := by
  intro W H a us xs vs ds Q E w ha rx rs h
  obtain ⟨ns, k, j, e, rfl, e2, q⟩ := idxT_run h
  obtain ⟨v, rfl, r⟩ := rs.of1
  cases r
  obtain ⟨h1, h2, h3⟩ := List.findIdx?_eq_some_iff_getElem.mp e2
  refine ⟨a, ns, k, j, rfl, rfl, by rw [← ints_rep rx e]; exact w.sqT ha, ?_, fun m lt z => ?_, post_here w q (.int _)⟩
  · rw [List.getElem?_eq_getElem h1]
    exact congrArg some (beq_iff_eq.mp h2)
  · have hm : m < ns.length := Nat.lt_trans lt h1
    rw [List.getElem?_eq_getElem hm] at z
    have := h3 m lt
    rw [Option.some.inj z] at this
    exact this (beq_self_eq_true k)
end
/-! ### in, of a tuple of any data -/
section
variable {X : Cx}
def rInT (neg : Bool) (K : PySem.W.Frag) : R2 := fun x y H Q => ∃ d ds, Dp K H x d ∧ Dp K H y (.tuple ds) ∧ SeqAt.shaped d = true ∧ SeqAt.shaped (.tuple ds) = true ∧ Q (.bl (if neg then !(ds.any fun z => PyData.eqv z d) else ds.any fun z => PyData.eqv z d)) H
theorem op_inT {K : PySem.W.Frag} {k : Nat} (hK : X.K = K) (hr : Room k X.A) : OpR X (compareOp .In) (rInT false K) := by
  subst hK
  rintro pins s σ H x y v u Q I rx ry ⟨d, ds, h1, h2, s1, s2, q⟩
  obtain ⟨as, r1⟩ := Dp.reads I d x v h1 rx
  obtain ⟨bs, r2⟩ := Dp.reads I (.tuple ds) y u h2 ry
  exact SeqAt.in_tuple_reads r2 r1 (SeqAt.canLay_of_shaped s2) (SeqAt.canLay_of_shaped s1) (room_in_shaped s1 (by have := hr.un; omega)) ⟨.bl _, H, I, rfl, q⟩
theorem op_notinT {K : PySem.W.Frag} {k : Nat} (hK : X.K = K) (hr : Room k X.A) : OpR X (compareOp .NotIn) (rInT true K) := by
  subst hK
  rintro pins s σ H x y v u Q I rx ry ⟨d, ds, h1, h2, s1, s2, q⟩
  obtain ⟨as, r1⟩ := Dp.reads I d x v h1 rx
  obtain ⟨bs, r2⟩ := Dp.reads I (.tuple ds) y u h2 ry
  exact SeqAt.notIn_tuple_reads r2 r1 (SeqAt.canLay_of_shaped s2) (SeqAt.canLay_of_shaped s1) (room_in_shaped s1 (by have := hr.un; omega)) ⟨.bl _, H, I, rfl, q⟩
end
section
variable {K : PySem.W.Frag}
theorem innG_run {neg : Bool} {W : Wd} {H : Hp} {x y : V} {dx dy : D} {Q : VK} {E : Exn → Prop} (w : WOk W H) (rx : Rep K W x dx) (ry : Rep K W y dy) (h : (D.innG neg dx dy).run (Post K Q W H) E) : rInT neg K x y H Q := by
  cases ry with
  | @tup a vs xs hx r =>
    obtain ⟨⟨c1, c2⟩, q⟩ := h
    obtain ⟨p1, s1⟩ := cmp_split c1
    obtain ⟨p2, s2⟩ := cmp_split c2
    refine ⟨dx.py, D.pys xs, rx.dp w p1, ?_, s1, ?_, ?_⟩
    · have := (Rep.tup (K := K) hx r).dp w p2
      rwa [D.py] at this
    · rwa [D.py] at s2
    · have e : ((D.pys xs).any fun z => PyData.eqv z dx.py) = xs.any fun z => z.eqv dx := by
        rw [D.pys_map, List.any_map]
        rfl
      rw [e]
      exact post_here w q (.bl _)
  | _ => exact (show False from h).elim
theorem os_inT : OpS K (rInT false K) (D.innG false) := fun W H x y dx dy Q E w rx ry h => innG_run w rx ry h
theorem os_notinT : OpS K (rInT true K) (D.innG true) := fun W H x y dx dy Q E w rx ry h => innG_run w rx ry h
end
end Ev

namespace Ev
open PySem PySem.Spec PyProof.Rows L2
variable [Tb]
/-! ### dicts of one's own -/
theorem units1 {u : Nat} (h : u + 64 < cLine) : u + 1 < cLine := by omega
section
variable {S : Sx} {own : Bool} {ρ : List Sl} {T L : Type} {enc : T → List Sl} {encL : L → List Sl} {tb : TS}
/-- an object of one's own, written -/
theorem Now.putOb {Wf W0 W : Wd} {H0 H : Hp} {σ : L2.St} (n : Now S Wf W0 H0 W H σ ρ) {i : Nat} {c c' : OwnC} {a : Addr} {o' : HO} (hi : ρ[i]? = some (.ob c)) (h1 : σ[i]? = some (some (.ref a))) (g3 : W.P a = none) (g4 : W.N a = none) (g5 : H0 a = none)
    (hs : Soft H a) (ho : ∀ ps, o' ≠ .tbl ps) (r : HoR S.K W (upd H a o') o' c') : Now S Wf W0 H0 W (upd H a o') σ (ρ.set i (.ob c')) := by
  have w1 : WOk W (upd H a o') := n.ok.putO g3 g4 hs ho
  refine ⟨⟨fun j d' hj => ?_, fun j es hj => ?_, fun j k es fs b hjk f1 f2 f3 => ?_, by rw [List.length_set, n.env.ln]⟩, w1, ⟨n.st.le, w1, fun b o e hnn => ?_, n.st.newP, n.st.newN⟩, n.fl⟩
  · exact n.env.dat j d' (getElem?_set_no hj (by intro z; cases z)).2
  · by_cases e : i = j
    · subst e
      rw [List.getElem?_set_self (List.getElem?_eq_some_iff.mp hi).1] at hj
      cases hj
      exact ⟨a, _, h1, upd_same, g3, g4, g5, r⟩
    · rw [List.getElem?_set_ne e] at hj
      obtain ⟨b, zs, f1, f2, f3⟩ := n.env.ow j es hj
      have nb : b ≠ a := fun z => by
        subst z
        exact n.env.ap i j _ _ b e hi hj h1 f1
      exact ⟨b, zs, f1, by rw [upd_ne nb]; exact f2, f3.1, f3.2.1, f3.2.2.1, f3.2.2.2.upd (hs)⟩
  · have get : ∀ {j : Nat} {es : OwnC}, (ρ.set i (.ob c'))[j]? = some (.ob es) → ∃ fs, ρ[j]? = some (.ob fs) := fun {j es} hj => by
      by_cases e : i = j
      · subst e; exact ⟨_, hi⟩
      · rw [List.getElem?_set_ne e] at hj; exact ⟨_, hj⟩
    obtain ⟨_, f1⟩ := get f1
    obtain ⟨_, f2⟩ := get f2
    exact n.env.ap j k _ _ b hjk f1 f2 f3
  · rw [upd_ne (ne_of_none e g5)]
    exact n.st.old b o e hnn
/-- x = {} -/
theorem ss_dnew {i : Nat} {m : M (Fl T L)} (hb : SS S own tb (ρ.set i (.odc [])) enc encL m) : SS S own (tSeq (tAsg tDNewK (gName i)) tb) ρ enc encL m := fun Wf W0 H0 W H σ D w n q => by
  show ∀ p, H p = none → _
  intro p hp
  have s1 := Step.raw n.ok (o := .dK []) hp
  refine hb Wf W0 H0 W _ _ D w ⟨(n.env.step s1).setOb i upd_same (nopen n.ok hp).1 (nopen n.ok hp).2 (n.st.free0 w hp) (.dct .nil) fun j es _ hj hs => ?_, s1.ok, n.st.trans w s1, n.fl.trans s1.le⟩ q
  obtain ⟨b, us, g1, g2, _⟩ := n.env.ow j es hj
  rw [g1] at hs
  cases hs
  rw [hp] at g2
  cases g2
theorem RepKv.anyk {K : PySem.W.Frag} {W : Wd} {k : Key} : ∀ {vs : List (Key × V)} {ds : List (Sum Int Str × Ev.D)}, RepKv K W vs ds → (vs.any fun kv => decide (kv.1 = k)) = (ds.any fun kv => decide (kv.1 = k))
  | _, _, .nil => rfl
  | _, _, .cons _ r => by rw [List.any_cons, List.any_cons, RepKv.anyk r]
theorem RepKv.append {K : PySem.W.Frag} {W : Wd} : ∀ {vs ws : List (Key × V)} {ds es : List (Sum Int Str × Ev.D)}, RepKv K W vs ds → RepKv K W ws es → RepKv K W (vs ++ ws) (ds ++ es)
  | _, _, _, _, .nil, s => s
  | _, _, _, _, .cons h r, s => .cons h (RepKv.append r s)
theorem RepKv.repl {K : PySem.W.Frag} {W : Wd} {k : Key} {v : V} {d : Ev.D} (h : Rep K W v d) : ∀ {vs : List (Key × V)} {ds : List (Sum Int Str × Ev.D)}, RepKv K W vs ds → RepKv K W (vs.map fun kv => if kv.1 = k then (kv.1, v) else kv) (ds.map fun kv => if kv.1 = k then (kv.1, d) else kv)
  | _, _, .nil => .nil
  | _, _, .cons (k := k0) g r => by
    rw [List.map_cons, List.map_cons]
    by_cases e : k0 = k
    · rw [if_pos e, if_pos e]
      exact .cons h (RepKv.repl h r)
    · rw [if_neg e, if_neg e]
      exact .cons g (RepKv.repl h r)
theorem RepKv.put {K : PySem.W.Frag} {W : Wd} {vs : List (Key × V)} {ds : List (Sum Int Str × Ev.D)} (r : RepKv K W vs ds) (k : Key) {v : V} {d : Ev.D} (h : Rep K W v d) : RepKv K W (putK vs k v) (putD ds k d) := by
  unfold putK putD
  rw [r.anyk]
  split
  · exact r.repl h
  · exact r.append (.cons h .nil)
theorem RepKv.snds {K : PySem.W.Frag} {W : Wd} : ∀ {vs : List (Key × V)} {ds : List (Sum Int Str × Ev.D)}, RepKv K W vs ds → Reps K W (vs.map (·.2)) (ds.map (·.2))
  | _, _, .nil => .nil
  | _, _, .cons h r => .cons h (RepKv.snds r)
/-- d[k] = e -/
theorem ss_dput {i : Nat} {te ti : TE} {ds : List (Sum Int Str × Ev.D)} {r ri : M Ev.D} {k : List (Sum Int Str × Ev.D) → M (Fl T L)} (hi : ρ[i]? = some (.odc ds)) (h : SE S te ρ r) (h2 : SE S ti ρ ri) (hb : ∀ es, SS S own tb (ρ.set i (.odc es)) enc encL (k es)) :
    SS S own (tSeq (tAsg te (gSub (tVar i) ti rSetD)) tb) ρ enc encL (dputM ds r ri k) := fun Wf W0 H0 W H σ D w n q => by
  refine h.go n.env n.ok q (xpost w n.st) fun d v W1 H1 q1 s1 r1 e1 => ?_
  have n1 := n.st.trans w s1
  obtain ⟨a, vs, h1, _⟩ := e1.owD i ds hi
  refine ⟨_, h1, ?_⟩
  refine h2.go e1 s1.ok q1 (fun x z => z.after w n1) fun dx vx W2 H2 q2 s2 r2 e2 => ?_
  have n2 := n1.trans w s2
  obtain ⟨b, kvs, g1, g2, g3, g4, g5, g6⟩ := e2.owD i ds hi
  rw [h1] at g1
  cases g1
  have nw : Now S Wf W0 H0 W2 H2 σ ρ := ⟨e2, s2.ok, n2, (n.fl.trans s1.le).trans s2.le⟩
  have fin : ∀ y : Key, vx = kV y → (guard (ds.length < line) >>= fun _ => k (putD ds y d)).run (FlPost S own Wf W0 H0 enc encL D) (XPost S W0 H0) → ∃ a' H', V.ref a = .ref a' ∧ DPut H2 a' vx v H' ∧ tb D σ H' := fun y ey q3 => by
    obtain ⟨hl, q4⟩ := q3
    subst ey
    refine ⟨a, _, rfl, DPut.k g2 (by rw [g6.length]; exact hl), ?_⟩
    exact hb _ Wf W0 H0 W2 _ σ D w (nw.putOb hi h1 g3 g4 g5 (soft_dct g2) (fun _ z => nomatch z) (.dct (g6.put y (r1.mono s2.le)))) q4
  rcases dkeyOf_run q2 with ⟨z, rfl, q3⟩ | ⟨z, rfl, q3⟩
  · exact fin (.inl z) r2.inj_int q3
  · exact fin (.inr z) r2.inj_str q3
end
/-! ### sorted, of what is collected -/
open Classical in
theorem sort_fin {X : Cx} {pins : List (Addr × Obj)} {s : Shared} {σ : L2.St} {H : Hp} {Q : VK} {src : Value} {xs : List V} {ls : List (List Int)} {R : V → List Int → Prop} (I : L2.Inv X pins σ H s) (hal : AlR R xs ls) (hR : ∀ x l, R x l → ∃ t, x = V.ref t ∧ SqT X.K H t (l.map V.int))
    (hne : ls.length < 2 ∨ ∀ l ∈ ls, l ≠ []) (hz : xs.length ≤ sizeLine) (q : ∀ ys p, AlR R ys (sortI ls) → H p = none → Q (.ref p) (upd H p (.lst ys)))
    (hc : ∀ Rr : List Value → Shared → Prop, (∀ s' its, (∀ b o, s.heap.get? b = some o → s'.heap.get? b = some o) → s.heap.objs.size ≤ s'.heap.objs.size → s'.gens = s.gens → s'.os = s.os → (∃ ys : List V, ys.Perm xs ∧ Vals ys its) → Rr its s') → wpAny (model X.prog X.w) X.A.in1 (collect src) Rr X.xe s) :
    wpAny (model X.prog X.w) X.A (call (.builtin "sorted") [src]) (fun u s' => ∃ x H', L2.Inv X pins σ H' s' ∧ RelV x u ∧ Q x H') X.xe s := by
  let k : V → List Int := fun v => if z : ∃ l, R v l then Classical.choose z else []
  have hk : ∀ x l, R x l → k x = l := fun x l h => by
    have z : ∃ l, R x l := ⟨l, h⟩
    have e : k x = Classical.choose z := dif_pos z
    obtain ⟨t, e1, h1⟩ := hR x l h
    obtain ⟨t', e2, h2⟩ := hR x _ (Classical.choose_spec z)
    rw [e1] at e2
    cases e2
    rw [e]
    exact int_map_inj (I.tuple_inj h2 h1)
  obtain ⟨ek, hx⟩ := hal.to_map hk
  refine Calls.call_function_entry kind_sorted plain_sorted entry_sorted (args_sorted1 _) ?_
  unfold Builtin.«sorted»
  refine wpAny_bind (m := checkCount "sorted" 1 1 _) (wpAny_pure ?_)
  refine wpAny_bind (hc _ fun s1 its k1 hz1 g1 o1 pr => ?_)
  obtain ⟨ys0, pm, rv⟩ := pr
  obtain ⟨e1, e2⟩ := refs_back rv fun x m => (hR x _ (hx x (pm.mem_iff.mp m))).imp fun t z => z.1
  have hl : its.length ≤ sizeLine := by rw [← rv.length, pm.length_eq]; exact hz
  refine wpAny_bind (wpAny_newList ?_ hl)
  have hoL : (s1.heap.push (seqObj "list" its.toArray 0)).get? s1.heap.objs.size = some (seqObj "list" its.toArray 0) := Heap.get?_push_size _ rfl
  have hN : 2 ≤ its.length → ∀ v ∈ its, IsNums (s1.heap.push (seqObj "list" its.toArray 0)) v (k (backV v)) ∧ k (backV v) ≠ [] := fun h2 v hv => by
    have hne : ∀ l ∈ ls, l ≠ [] := hne.elim (fun h => by rw [← ek, List.length_map, ← pm.length_eq, rv.length] at h; omega) id
    obtain ⟨t, rfl⟩ := e2 v hv
    have hm : V.ref t ∈ xs := pm.mem_iff.mp (by rw [e1]; exact List.mem_map.mpr ⟨_, hv, rfl⟩)
    obtain ⟨t', e, ht⟩ := hR _ _ (hx _ hm)
    cases e
    obtain ⟨us, r2, ⟨o, ho, hc, n, hd⟩, _⟩ := I.tuple ht
    exact ⟨⟨t, o, us.toArray, n, rfl, Heap.get?_push_of_some _ (k1 _ _ ho), hc, hd, r2.ints⟩, hne _ (by rw [← ek]; exact List.mem_map.mpr ⟨_, hm, rfl⟩)⟩
  show wpAny _ _ _ _ _ { s1 with heap := s1.heap.push (seqObj "list" its.toArray 0) }
  refine wpAny_bind (wpAny_holding (wpAny_call_entry slot_list_sort ⟨_, hoL, rfl⟩ entry_list_sort (SrtO.list_sort_ord (s := { s1 with heap := s1.heap.push (seqObj "list" its.toArray 0) }) (lexK_swo fun u => k (backV u)) hoL hl (fun h2 => ?_) fun out h1 h2 => ⟨_, rfl, ?_⟩) (args_list_sort _)))
  · refine nums_sortable (s := { s1 with heap := s1.heap.push (seqObj "list" its.toArray 0) }) (by omega) (fun v hm => hN h2 v hm) fun o e => ?_
    have e' : some o = some _ := e.symm.trans hoL
    cases e'
    exact fun c => absurd (Value.type.inj c) (by decide)
  refine wpAny_pure ⟨_, rfl, ?_⟩
  obtain ⟨ep, he'⟩ := PyProof.Rows.sortedHeap_at (vs := its) (out := out.toArray) hoL
  have h3 : ∀ u ∈ out, ∃ a, u = Value.ref a := fun u hu => e2 u (h2.perm.mem_iff.mp hu)
  have hp : (out.map backV).Perm xs := by
    refine List.Perm.trans ?_ pm
    rw [e1]
    exact h2.perm.map backV
  have hs2 : (out.map backV).map k = sortI ls := by
    refine sortI_eq ?_ (by rw [← ek]; exact hp.map k)
    rw [List.map_map]
    exact List.pairwise_map.mpr h1
  have hn : H s1.heap.objs.size = none := I.hok.fresh hz1
  have kk : ∀ b u, s.heap.get? b = some u → (sortedHeap (s1.heap.push (seqObj "list" its.toArray 0)) s1.heap.objs.size its out.toArray).get? b = some u := fun b u e => by
    have q := k1 b u e
    have hlt := Heap.lt_size q
    rw [PyProof.Rows.sortedHeap_old (Nat.ne_of_lt hlt) (by rw [size_push']; exact Nat.lt_succ_of_lt hlt)]
    exact Heap.get?_push_of_some _ q
  have hlen : (out.map backV).length ≤ sizeLine := by rw [hp.length_eq]; exact hz
  have J : L2.Inv X pins σ (upd H s1.heap.objs.size (.lst (out.map backV))) { s with heap := sortedHeap (s1.heap.push (seqObj "list" its.toArray 0)) s1.heap.objs.size its out.toArray, gens := s1.gens, drawn := s1.drawn, toks := s1.toks } :=
    I.call (ch := []) (Un.laid kk hz1 hn) (I.hok.laid kk hz1 ⟨hlen, out, ep, vals_back h3, he'⟩) (by rw [g1]; exact I.bare) (fun _ z => nomatch z)
  refine ⟨.ref _, _, ?_, rfl, q (out.map backV) _ ?_ hn⟩
  · have e : ({ s1 with heap := sortedHeap (s1.heap.push (seqObj "list" its.toArray 0)) s1.heap.objs.size its out.toArray } : Shared) = { s with heap := sortedHeap (s1.heap.push (seqObj "list" its.toArray 0)) s1.heap.objs.size its out.toArray, gens := s1.gens, drawn := s1.drawn, toks := s1.toks } := by
      cases s1
      cases s
      cases o1
      rfl
    rw [e]
    exact J
  · rw [← hs2]
    exact AlR.of_map fun y hy => hx y (hp.mem_iff.mp hy)
/-- sorted(o.values()), a dict of tuples of numbers -/
def tSortVals (K : PySem.W.Frag) (td : TE) : TE := fun σ H Q => td σ H fun x H1 => ∃ (a : Addr) (kvs : List (Key × V)) (ls : List (List Int)) (R : V → List Int → Prop), x = V.ref a ∧ H1 a = some (.dK kvs) ∧ AlR R (kvs.map (·.2)) ls ∧ (∀ x l, R x l → ∃ t, x = V.ref t ∧ SqT K H1 t (l.map V.int)) ∧ (ls.length < 2 ∨ ∀ l ∈ ls, l ≠ []) ∧
  ∀ ys p, AlR R ys (sortI ls) → H1 p = none → Q (.ref p) (upd H1 p (.lst ys))
theorem vals_of_items {Xp : Program} {w : World} {kvs : List (Key × V)} {vs : List (Key × Value)} (rel : KV kvs vs) : ∀ {acc : Array Value}, ItemsOf (fun i v => ∃ k, vs[i]? = some (k, v)) acc vs.length → Vals (kvs.map (·.2)) acc.toList := by
  intro acc h
  have e : acc.toList = vs.map (·.2) := by
    apply List.ext_getElem?
    intro i
    rw [List.getElem?_map]
    cases g : acc.toList[i]? with
    | none =>
      have : acc.toList.length ≤ i := List.getElem?_eq_none_iff.mp g
      rw [Array.length_toList, h.1] at this
      rw [List.getElem?_eq_none this]
      rfl
    | some v =>
      obtain ⟨k, hk⟩ := h.2 i v (by rw [← Array.getElem?_toList]; exact g)
      rw [hk]
      rfl
  rw [e]
  clear e h
  unfold KV at rel
  induction rel with
  | nil => exact .nil
  | cons h t ih => exact .cons h.2 ih
theorem pe_sortVals {X : Cx} {K : PySem.W.Frag} {o : Expr} {p pos apos mpos : Pos} {td : TE} (hK : X.K = K) (hc : X.calm = true) (hg : Gl X "sorted") (hm : X.mg "sorted" = none) (hd : PE X o td) (hbase : attributeBase o "values" X.env (eval o X.env) = eval o X.env := by rfl) (hline : (apos.endLine == mpos.line) = true := by rfl)
    (hse : starEach [Expr.Call (.Attribute o "values" apos) [] [] mpos] X.env = [(false, eval (Expr.Call (.Attribute o "values" apos) [] [] mpos) X.env)] := by rfl) :
    PE X (.Call (.Name "sorted" p) [.Call (.Attribute o "values" apos) [] [] mpos] [] pos) (tSortVals K td) := by
  subst hK
  refine ⟨fun pins s σ H Q I h => ?_⟩
  refine wpAny_Call_Name_kw (ld_blt I hg hm (u := .builtin "sorted") bt_sorted ?_ (by decide +kernel) (by decide +kernel))
  rw [hse]
  refine PySem.callWith_builtin1 (wpAny_Call_method0_late hbase hline (thn (hd.run pins s σ H _ I h) fun v s1 ⟨x, H1, I1, r1, a, kvs, ls, R, ex, ha, hal, hR, hne, q⟩ => ?_))
  subst ex
  obtain rfl : v = Value.ref a := r1
  obtain ⟨hz, hsys, vs, rel, dof⟩ := dk_of I1.hok ha
  obtain ⟨ep, dat⟩ := dof.dictAt
  have dat' := dat
  obtain ⟨ob, es, ho, ex, hdat, hko, hpr, hnd⟩ := dat'
  refine ⟨"dict", "dict.values", F.plainAttrs_dict, F.slot_dict_values, F.type_dict_values, ⟨ob, ho, ex.1⟩, fun b e => ?_, Calls.callWith_builtin rfl (PySem.evalArgs_none ?_)⟩
  · cases e
    exact ⟨ob, ho, ex.2.1⟩
  refine call_meetsIn F.slot_dict_values ⟨ob, ho, ex.1⟩ F.entry_dict_values (F.args_dict_values_1 _) (meets_dict_values (mixKind X.prog X.w) a hsys) ⟨⟨vs, dof⟩, ?_⟩
  have k1 : ∀ b u, s1.heap.get? b = some u → (s1.heap.push { cls := .type "dict_values", data := .fields #[.ref a] }).get? b = some u := fun b u e => Heap.get?_push_of_some _ e
  have dat1 : (s1.heap.push { cls := .type "dict_values", data := .fields #[.ref a] }).DictAt (mixKind X.prog X.w) a vs ep := dat.keep k1
  have I2 : L2.Inv X pins σ H1 { s1 with heap := s1.heap.push { cls := .type "dict_values", data := .fields #[.ref a] } } := I1.kept (t' := s1.toks) k1
  have hlv : kvs.length = vs.length := KV.length rel
  refine sort_fin I2 hal hR hne (by rw [List.length_map]; exact hz) q fun Rr hRr => ?_
  refine PySem.W.kdu_collect (A := X.A.in1) (PySem.W.kdl_values (knd := mixKind X.prog X.w) (kvs := vs) (ep := ep)) (I.ok.hd hc) ⟨⟨_, Heap.get?_push_size _ rfl, rfl, rfl⟩, dat1⟩ (by rw [← hlv]; exact hz) fun h' tk acc hk hacc => ?_
  refine hRr _ _ (fun b o e => hk b o e) ?_ rfl rfl ⟨_, .refl _, vals_of_items (Xp := X.prog) (w := X.w) rel hacc⟩
  have h1 := Heap.lt_size (hk s1.heap.objs.size _ (Heap.get?_push_size _ rfl))
  show (s1.heap.push _).objs.size ≤ _
  rw [Heap.size_push]
  exact h1
section
variable {S : Sx} {ρ : List Sl}
/-- sorted(x.values()), x a dict of one's own -/
theorem so_sortVals {i : Nat} {ds : List (Sum Int Str × D)} (h : ρ[i]? = some (.odc ds)) : SO S (tSortVals S.K (tVar i)) ρ (sortVals ds) := fun σ H W H0 Q e w q => by
  obtain ⟨a, kvs, g1, g2, g3, g4, g5, g6⟩ := e.owD i ds h
  refine ⟨_, g1, ?_⟩
  obtain ⟨ls, el, hne, q2⟩ := ofO_run q
  refine ⟨a, kvs, ls, _, rfl, g2, nums_rep g6.snds el, fun x l hr => ?_, hne, fun ys p hy hp => post_own w q2 hy.reps p hp⟩
  cases hr with
  | tup ht hr =>
    rw [ints_out hr] at ht
    exact ⟨_, rfl, w.sqT ht⟩
end
/-! ### sorted(set(x)), x a list of tuples of numbers -/
def rSortST (K : PySem.W.Frag) (P : Program) (w : World) : List V → Hp → VK → Prop := fun vs H Q => ∃ (a : Addr) (L : List (Addr × List Int)), vs = [V.ref a] ∧ H a = some (SetTO P w a L) ∧ (∀ p ∈ L, SqT K H p.1 (p.2.map V.int)) ∧
  ((L.map (·.2)).Nodup → (L.length < 2 ∨ ∀ p ∈ L, p.2 ≠ []) ∧
  ∀ (ys : List V) p, AlR (fun x l => ∃ t, x = .ref t ∧ (t, l) ∈ L) ys (sortI (L.map (·.2))) → H p = none → Q (.ref p) (upd H p (.lst ys)))
theorem call_sortSetT {X : Cx} {K : PySem.W.Frag} {P : Program} {w : World} (hK : X.K = K) (hP : X.prog = P) (hw : X.w = w) (hc : X.calm = true) : CallR X (.builtin "sorted") (rSortST K P w) := by
  subst hK hP hw
  intro pins s σ H vs us Q I r h
  obtain ⟨a, L, rfl, ha, hk, q⟩ := h
  have R0 : SetT0 X.prog X.w s.heap a L := (I.hok a _ ha).1
  obtain ⟨es, ep, t, R⟩ := R0.full fun p hp => I.isT (hk p hp)
  rw [Vals.ref1 r]
  obtain ⟨q1, q2⟩ := q R.nd
  obtain ⟨o, ho, hex, hd⟩ := R.ob
  have hfew := R.few
  have hsz := R.size
  have hes : es.toList.map (·.2) = L.map fun q => Value.ref q.1 := by
    rw [R.rows]
    unfold rowsOf
    rw [List.map_map] <;> rfl
  refine sort_fin (xs := L.map fun p => V.ref p.1) (ls := L.map (·.2)) (R := fun x l => ∃ t, x = .ref t ∧ (t, l) ∈ L) I ?_ (fun x l ⟨t, e, m⟩ => ⟨t, e, hk _ m⟩) ?_ (by rw [List.length_map, sizeLine_eq]; omega) q2 fun Rr hRr => ?_
  · have key : ∀ L' : List (Addr × List Int), (∀ p ∈ L', p ∈ L) → AlR (fun x l => ∃ t, x = V.ref t ∧ (t, l) ∈ L) (L'.map fun p => V.ref p.1) (L'.map (·.2)) := by
      intro L'
      induction L' with
      | nil => intro _; exact .nil
      | cons p r ih => exact fun hs => .cons ⟨p.1, rfl, hs p List.mem_cons_self⟩ (ih fun z hz => hs z (List.mem_cons_of_mem _ hz))
    exact key L fun _ h => h
  · rcases q1 with h | h
    · exact .inl (by rw [List.length_map]; exact h)
    · exact .inr fun l hl => by
        obtain ⟨p, hp, rfl⟩ := List.mem_map.mp hl
        exact h p hp
  · refine collect_set (A := X.A.in1) (I.ok.hd hc) ⟨o, ho, hex.1, hd⟩ R.fits (by unfold scanBound; omega) R.tab.ris R.led fun s1 vs k1 hz g1 o1 pm => ?_
    rw [hes] at pm
    refine hRr s1 vs k1 hz g1 o1 ⟨vs.map backV, ?_, ?_⟩
    · have e : (L.map fun p => V.ref p.1) = (L.map fun q => Value.ref q.1).map backV := by rw [List.map_map]; rfl
      rw [e]
      exact pm.map backV
    · exact vals_back fun u hu => by
        obtain ⟨p, _, e⟩ := List.mem_map.mp (pm.mem_iff.mp hu)
        exact ⟨_, e.symm⟩
theorem call_setOfT {X : Cx} {K : PySem.W.Frag} {P : Program} {w : World} (hK : X.K = K) (hP : X.prog = P) (hw : X.w = w) (hc : X.calm = true) (hu : X.A.units + 64 < cLine) : CallR X (.type "set") (rSetOfT K P w) := by
  subst hK hP hw
  exact cr_setOfT hc hu
theorem al_pairs {K : PySem.W.Frag} {W : Wd} : ∀ {vs : List V} {ls : List (List Int)}, AlR (fun x l => Rep K W x (.tup (l.map D.int))) vs ls → ∃ ks : List (Addr × List Int), vs = ks.map (fun p => V.ref p.1) ∧ ls = ks.map (·.2) ∧ ∀ p ∈ ks, Rep K W (.ref p.1) (.tup (p.2.map D.int))
  | _, _, .nil => ⟨[], rfl, rfl, fun _ h => nomatch h⟩
  | _, _, .cons (l := l) h r => by
    obtain ⟨ks, e1, e2, h3⟩ := al_pairs r
    subst e1 e2
    cases h with
    | @tup a us _ ht hr =>
      exact ⟨(a, l) :: ks, rfl, rfl, fun p hp => by
        rcases List.mem_cons.mp hp with rfl | hp
        · exact .tup ht hr
        · exact h3 p hp⟩
theorem AlR.imp {R R' : V → List Int → Prop} (f : ∀ x l, R x l → R' x l) : ∀ {xs : List V} {ls : List (List Int)}, AlR R xs ls → AlR R' xs ls
  | _, _, .nil => .nil
  | _, _, .cons h r => .cons (f _ _ h) (AlR.imp f r)
section
variable {S : Sx} {ρ : List Sl} {ta to te : TE} {ra ro re : M D}
theorem rep_sqT {K : PySem.W.Frag} {W : Wd} {H : Hp} (w : WOk W H) {a : Addr} {l : List Int} (h : Rep K W (.ref a) (.tup (l.map D.int))) : SqT K H a (l.map V.int) := by
  cases h with
  | tup ht hr =>
    rw [ints_out hr] at ht
    exact w.sqT ht
theorem so_sortSetT {P : Program} {w : World} (h : SE S ta ρ ra) : SO S (tCB (rSortST S.K P w) (tCons (tCB (rSetOfT S.K P w) (tCons ta tNil)) tNil)) ρ (ra >>= sortSetT) := fun σ H W H0 Q e wk q => by
  refine h.go e wk q (fun _ z => z) fun d v W1 H1 q1 s1 r1 e1 => ?_
  cases r1 with
  | @lst a vs ds hx r =>
    obtain ⟨ls, hn, ⟨q2, q3⟩, q4⟩ := ofO_run q1
    obtain ⟨ks, e1, e2, hks⟩ := al_pairs (nums_rep r hn)
    refine ⟨a, ks, rfl, by rw [← e1]; exact .inl (.inl (s1.ok.sub _ _ hx)), fun p hp => rep_sqT s1.ok (hks p hp), by rw [e2, List.length_map] at q2; exact q2, fun b L hb hL1 hL2 => ?_⟩
    have s2 := Step.raw s1.ok (o := SetTO P w b L) hb
    have hk2 : ∀ p ∈ L, Rep S.K W1 (.ref p.1) (.tup (p.2.map D.int)) := fun p hp => hks p (hL1 p hp)
    refine ⟨b, L, rfl, upd_same, fun p hp => rep_sqT s2.ok (hk2 p hp), fun nd => ?_⟩
    have pm : (L.map (·.2)).Perm (ddT ls) := (List.perm_ext_iff_of_nodup nd (ddT_nd ls)).mpr fun l => by
      rw [ddT_mem, e2]
      refine ⟨fun hl => ?_, fun hl => ?_⟩
      · obtain ⟨p, hp, rfl⟩ := List.mem_map.mp hl
        exact List.mem_map.mpr ⟨p, hL1 p hp, rfl⟩
      · obtain ⟨p, hp, rfl⟩ := List.mem_map.mp hl
        exact hL2 p hp
    have es : sortI (L.map (·.2)) = sortI (ddT ls) := sorted_uniq (sortI_sorted _) (sortI_sorted _) ((sortI_perm _).trans (pm.trans (sortI_perm _).symm))
    refine ⟨?_, fun ys p hy hp => ?_⟩
    · rcases q3 with h | h
      · exact .inl (by rw [← List.length_map (f := (·.2)), pm.length_eq]; exact h)
      · exact .inr fun p hp => h _ (by rw [e2]; exact List.mem_map.mpr ⟨p, hL1 p hp, rfl⟩)
    · rw [es] at hy
      have s3 := Step.raw s2.ok (o := .lst ys) hp
      have np := nopen s2.ok hp
      exact q4 p _ W1 _ ((s1.trans wk s2).trans wk s3) (s1.free0 wk (s2.free0 s1.ok hp)) upd_same np.1 np.2 (AlR.reps (AlR.imp (fun x l ⟨t, ex, m⟩ => by subst ex; exact hk2 _ m) hy))
  | _ => exact (show False from q1).elim
/-! ### sep.join(x) -/
def rJoin (K : PySem.W.Frag) : V → List V → Hp → VK → Prop := fun x xs H Q => ∃ a p, ∃ ys : List Str, x = .str a ∧ xs = [.ref p] ∧ (SqL K H p (ys.map V.str) ∨ SqT K H p (ys.map V.str)) ∧ (ys.map (·.length)).sum + ys.length * a.length ≤ 16777216 ∧ Q (.str (Txt.join a ys)) H
theorem pe_joinK {X : Cx} {K : PySem.W.Frag} {o e : Expr} {apos pos : Pos} (hK : X.K = K) (ho : PE X o to) (he : PE X e te) (hs : starEach [e] X.env = [(false, eval e X.env)] := by rfl) (hbase : attributeBase o "join" X.env (eval o X.env) = eval o X.env := by rfl) (hline : (apos.endLine == pos.line) = true := by rfl) :
    PE X (.Call (.Attribute o "join" apos) [e] [] pos) (tM1 (rJoin K) to te) := by
  subst hK
  exact pe_join ho he hs hbase hline
theorem strs_rep {K : PySem.W.Frag} {W : Wd} : ∀ {vs : List V} {ds : List D} {ys : List Str}, Reps K W vs ds → strsL ds = some ys → vs = ys.map V.str
  | _, _, ys, .nil, e => by
    cases e
    rfl
  | _, _, ys, .cons (d := d) h r, e => by
    cases d with
    | str x =>
      rw [strsL, Option.map_eq_some_iff] at e
      obtain ⟨zs, e1, rfl⟩ := e
      rw [List.map_cons, ← strs_rep r e1, h.inj_str]
    | _ => exact absurd e (by simp [strsL])
theorem se_join (ho : SE S to ρ ro) (he : SE S te ρ re) : SE S (tM1 (rJoin S.K) to te) ρ (joinM ro re) := fun σ H W H0 Q e w q => by
  refine ho.go e w q (fun _ z => z) fun d v W1 H1 q1 s1 r1 e1 => ?_
  cases d with
  | str a =>
    cases r1
    refine ⟨⟨a, rfl⟩, ?_⟩
    refine he.go e1 s1.ok q1 (fun x z => z.after w s1) fun d2 v2 W2 H2 q2 s2 r2 e2 => ?_
    have st := s1.trans w s2
    cases r2 with
    | @lst b vs ds hx r =>
      obtain ⟨ys, hy, hl, q3⟩ := ofO_run q2
      refine ⟨a, b, ys, rfl, rfl, .inl (by rw [← strs_rep r hy]; exact .inl (.inl (s2.ok.sub _ _ hx))), hl, ?_⟩
      rw [TL.join_eq]
      exact q3 _ W2 H2 st (.str _)
    | @tup b vs ds hx r =>
      obtain ⟨ys, hy, hl, q3⟩ := ofO_run q2
      refine ⟨a, b, ys, rfl, rfl, .inr (by rw [← strs_rep r hy]; exact s2.ok.sqT hx), hl, ?_⟩
      rw [TL.join_eq]
      exact q3 _ W2 H2 st (.str _)
    | _ => exact (show False from q2).elim
  | _ => exact (show False from q1).elim
end
/-! ### > of tuples of numbers -/
def rGtT (K : PySem.W.Frag) : R2 := fun x y H Q => ∃ (a b : Addr) (ns ms : List Int), x = .ref a ∧ y = .ref b ∧ SqT K H a (ns.map V.int) ∧ SqT K H b (ms.map V.int) ∧
  Q (.bl (Ob.lexAt (fun j => decide (ns.getD j 0 = ms.getD j 0)) (fun j => decide (ms.getD j 0 < ns.getD j 0)) (decide (ms.length < ns.length)) 0 (min ns.length ms.length))) H
theorem op_gtT {X : Cx} (hu : X.A.units < cLine) : OpR X (compareOp .Gt) (rGtT X.K) := by
  intro pins s σ H x y v u Q I rx ry h
  obtain ⟨a, b, ns, ms, rfl, rfl, ha, hb, q⟩ := h
  cases rx
  cases ry
  obtain ⟨its, r1, p1, _⟩ := I.tuple ha
  obtain ⟨its2, r2, p2, _⟩ := I.tuple hb
  have i1 : IntsAre its ns := Vals.ints r1
  have i2 : IntsAre its2 ms := Vals.ints r2
  have e1 : its.toArray.size = ns.length := by rw [List.size_toArray]; exact i1.length
  have e2 : its2.toArray.size = ms.length := by rw [List.size_toArray]; exact i2.length
  have at1 : ∀ j (h1 : j < its.toArray.size), ∃ t, its.toArray[j] = .int (ns.getD j 0) t := fun j h1 => PyProof.Rows.IntsAre.int_at i1 _ _ (by simp at h1; simp [h1])
  have at2 : ∀ j (h1 : j < its2.toArray.size), ∃ t, its2.toArray[j] = .int (ms.getD j 0) t := fun j h1 => PyProof.Rows.IntsAre.int_at i2 _ _ (by simp at h1; simp [h1])
  have R := Ob.RcOp.tuples_gt (A := X.A) (s := s) (e := fun j => decide (ns.getD j 0 = ms.getD j 0)) (r := fun j => decide (ms.getD j 0 < ns.getD j 0)) p1 p2 hu (fun j h1 h2 => by
    obtain ⟨t, et⟩ := at1 j h1
    obtain ⟨t', et'⟩ := at2 j h2
    rw [et, et']
    have z : (ns.getD j 0 == ms.getD j 0) = decide (ns.getD j 0 = ms.getD j 0) := by
      by_cases q : ns.getD j 0 = ms.getD j 0
      · rw [decide_eq_true q]; exact beq_iff_eq.mpr q
      · rw [decide_eq_false q]; exact beq_eq_false_iff_ne.mpr q
    rw [← z]
    exact SeqAt.EqAt.int_int _ _ _ _) (fun j h1 h2 _ => by
    obtain ⟨t, et⟩ := at1 j h1
    obtain ⟨t', et'⟩ := at2 j h2
    rw [et, et']
    exact Ob.RcOp.gt_int _ _ _ _)
  rw [e1, e2] at R
  have z : wpAny (model X.prog X.w) X.A (compareOp .Gt (.ref a) (.ref b)) (EP X pins σ Q) X.xe s := R X.prog X.w X.xe (EP X pins σ Q) ⟨.bl _, H, I, rfl, q⟩
  exact z
theorem lex_at_drop (ns ms : List Int) : ∀ (k i : Nat), i + k = min ns.length ms.length → Ob.lexAt (fun j => decide (ns.getD j 0 = ms.getD j 0)) (fun j => decide (ms.getD j 0 < ns.getD j 0)) (decide (ms.length < ns.length)) i k = lexI (ms.drop i) (ns.drop i)
  | 0, i, h => by
    rw [Ob.lexAt_zero]
    by_cases c : ms.length < ns.length
    · rw [decide_eq_true c, List.drop_eq_nil_of_le (as := ms) (by omega)]
      have : ns.drop i ≠ [] := fun e => by
        have := congrArg List.length e
        rw [List.length_drop, List.length_nil] at this
        omega
      cases hd : ns.drop i with
      | nil => exact absurd hd this
      | cons x r => rfl
    · rw [decide_eq_false c, List.drop_eq_nil_of_le (as := ns) (by omega)]
      cases ms.drop i <;> rfl
  | k + 1, i, h => by
    have h1 : i < ns.length := by omega
    have h2 : i < ms.length := by omega
    rw [Ob.lexAt_succ, lex_at_drop ns ms k (i + 1) (by omega), List.drop_eq_getElem_cons h1, List.drop_eq_getElem_cons h2, lexI]
    have g1 : ns.getD i 0 = ns[i] := by rw [List.getD_eq_getElem?_getD, List.getElem?_eq_getElem h1]; rfl
    have g2 : ms.getD i 0 = ms[i] := by rw [List.getD_eq_getElem?_getD, List.getElem?_eq_getElem h2]; rfl
    rw [g1, g2]
    by_cases c : ns[i] = ms[i]
    · rw [if_pos (decide_eq_true c), if_pos c.symm]
    · rw [if_neg (by rw [decide_eq_true_iff]; exact c), if_neg fun e => c e.symm]
def rGtA (K : PySem.W.Frag) : R2 := fun x y H Q => rI0 (fun i j => .bl (decide (j < i))) x y H Q ∨ rGtT K x y H Q
theorem op_gtA {X : Cx} {K : PySem.W.Frag} (hK : X.K = K) (hu : X.A.units + 64 < cLine) : OpR X (compareOp .Gt) (rGtA K) := by
  subst hK
  exact op_gt.or (op_gtT (by omega))
theorem ints_repT {K : PySem.W.Frag} {W : Wd} {vs : List V} {ds : List D} {ns : List Int} (r : Reps K W vs ds) (h : intsL ds = some ns) : vs = ns.map V.int := ints_rep r h
theorem os_gtA {K : PySem.W.Frag} : OpS K (rGtA K) D.gtA := fun W H x y dx dy Q E w rx ry h => by
  cases rx with
  | int i =>
    cases ry with
    | int j => exact .inl ⟨i, j, rfl, rfl, post_here w h (.bl _)⟩
    | _ => exact (show False from h).elim
  | @tup a vs xs hx r =>
    cases ry with
    | @tup b us ys hy r2 =>
      obtain ⟨ns, e1, h⟩ := ofO_run h
      obtain ⟨ms, e2, h⟩ := ofO_run h
      refine .inr ⟨a, b, ns, ms, rfl, rfl, by rw [← ints_repT r e1]; exact w.sqT hx, by rw [← ints_repT r2 e2]; exact w.sqT hy, ?_⟩
      rw [lex_at_drop ns ms _ 0 (by omega), List.drop_zero, List.drop_zero]
      exact post_here w h (.bl _)
    | _ => exact (show False from h).elim
  | _ => exact (show False from h).elim
end Ev

namespace Ev
open PySem PySem.Spec PyProof.Rows L2
variable [Tb]
/-! ### x = tuple([xs.pop(..) for ..]), xs a list of one's own -/
theorem EnvR.updOut {K : PySem.W.Frag} {W : Wd} {H H0 : Hp} {σ : L2.St} {ρ : List Sl} {D : Addr} {o : HO} (e : EnvR K W H H0 σ ρ) (hs : Soft H D) (h : ∀ (j : Nat) (c : OwnC), ρ[j]? = some (.ob c) → σ[j]? ≠ some (some (.ref D))) : EnvR K W (upd H D o) H0 σ ρ where
  dat := e.dat
  ow := fun j c hj => by
    obtain ⟨b, zs, f1, f2, f3⟩ := e.ow j c hj
    exact ⟨b, zs, f1, by rw [upd_ne (fun z => by subst z; exact h j c hj f1)]; exact f2, f3.1, f3.2.1, f3.2.2.1, f3.2.2.2.upd hs⟩
  ap := e.ap
  ln := e.ln
theorem seq_ixP {n k : Nat} {z : Int} (h : ixP n z = some k) : seqIndex? z n = some k := by
  unfold ixP at h
  unfold seqIndex?
  split at h
  · rename_i h0
    split at h
    · rename_i h1
      have e : (if z < 0 then z + (n : Int) else z) = z := if_neg (by omega)
      simp only [e]
      rw [if_pos (by simp only [Bool.and_eq_true, decide_eq_true_eq]; omega)]
      exact h
    · cases h
  · rename_i h0
    split at h
    · rename_i h1
      have e : (if z < 0 then z + (n : Int) else z) = z + n := if_pos (by omega)
      simp only [e]
      rw [if_pos (by simp only [Bool.and_eq_true, decide_eq_true_eq]; omega)]
      exact h
    · cases h
theorem wipeS_set {ρ : List Sl} {l : Nat} {c : Sl} : ∀ {vs : List Nat}, l ∉ vs → wipeS (ρ.set l c) vs = (wipeS ρ vs).set l c
  | [], _ => rfl
  | v :: vs, h => by
    have h1 : l ≠ v := fun e => h (by rw [e]; exact List.mem_cons_self)
    have h2 : l ∉ vs := fun e => h (List.mem_cons_of_mem _ e)
    show (wipeS (ρ.set l c) vs).set v .no = ((wipeS ρ vs).set v .no).set l c
    rw [wipeS_set h2, List.set_comm _ _ h1]
section
variable {S : Sx} {own : Bool} {ρ : List Sl} {T L : Type} {enc : T → List Sl} {encL : L → List Sl} {tb : TS}
theorem pops_core {l tj : Nat} {wi : TI} {td : TE} {vs : List Nat} {ds0 : List Ev.D} {rit : M (List Ev.D)} {rd : Ev.D → List Ev.D → M Ev.D} {Wf W0 W : Wd} {H0 H : Hp} {σ : L2.St} {Q : VK} {R : List Ev.D → Prop} (w : WOk W0 H0) (n : Now S Wf W0 H0 W H σ ρ) (hl : ρ[l]? = some (.own ds0)) (hi : SI S wi ρ rit) (hj : tj ∈ vs) (hlv : l ∉ vs)
    (hd : ∀ t ds, SE S.calm td (((wipeS ρ vs).set l (.own ds)).set tj (.val t)) (rd t ds)) (q : (rit >>= fun xs => nox (popsL rd xs ds0 [])).run R (XPost S W0 H0)) (fin : ∀ acc W' H' v, R acc → Now S Wf W0 H0 W' H' σ (ρ.set l .no) → Rep S.K W' v (.tup acc) → Q v H') :
    tCB (rTupB S.K) (tCons (tLc wi (gName tj) tYes (tBM S.K "list" rPopAt (tVar l) (tCons td tNil)) vs) tNil) σ H Q := by
  obtain ⟨a, us0, a1, _⟩ := n.env.owL l ds0 hl
  refine hi σ H W H0 _ n.env n.ok (rit.mono (fun xs hx J W1 H1 s1 wk => ?_) (xpost w n.st) q)
  intro D hD
  have hx : (popsL rd xs ds0 []).run R (fun _ => False) := hx
  have nx : ∀ {W' H'} (x : Exn), False → XPost S.calm W' H' x := fun _ z => z.elim
  have hrl : l < ρ.length := (List.getElem?_eq_some_iff.mp hl).1
  have n1 : Now S Wf W0 H0 W1 H1 σ ρ := n.step w s1
  have hD0 : H0 D = none := n1.st.free0 w hD
  have out : ∀ (j : Nat) (c : OwnC), ρ[j]? = some (.ob c) → σ[j]? ≠ some (some (.ref D)) := fun j c hc hs => by
    obtain ⟨b, zs, f1, f2, _⟩ := n1.env.ow j c hc
    rw [f1] at hs
    cases hs
    rw [hD] at f2
    cases f2
  have outl : ∀ (ds : List Ev.D) (j : Nat) (c : OwnC), (ρ.set l (.own ds))[j]? = some (.ob c) → σ[j]? ≠ some (some (.ref D)) := fun ds j c hc => by
    by_cases e : l = j
    · subst e
      exact out _ _ hl
    · rw [List.getElem?_set_ne e] at hc
      exact out j c hc
  have aD : D ≠ a := fun e => out l _ hl (by rw [e]; exact a1)
  let I : Nat → Hp → Prop := fun i H' => i ≤ xs.length ∧ ∃ W' ws acc ds, Now S Wf W0 H0 W' H' σ (ρ.set l (.own ds)) ∧ Le W1 W' ∧ H' D = some (.lst ws) ∧ W'.P D = none ∧ W'.N D = none ∧ Reps S.K W' ws acc ∧
    (popsL rd (xs.drop i) ds acc).run R (fun _ => False)
  refine ⟨fun i m H' => m = xs.length - i ∧ I i H', ⟨xs.length, by simp, Nat.zero_le _, W1, [], [], ds0, ?_, Le.refl W1, upd_same, (nopen s1.ok hD).1, (nopen s1.ok hD).2, .nil, hx⟩, ?_⟩
  · have e0 : ρ.set l (.own ds0) = ρ := by
      apply List.ext_getElem?
      intro i
      by_cases e : l = i
      · subst e
        rw [List.getElem?_set_self hrl, hl]
      · rw [List.getElem?_set_ne e]
    rw [e0]
    exact n1.step w (Step.raw s1.ok (o := .lst []) hD)
  rintro i m H' ⟨rfl, hle, W', ws, acc, ds, now, le1, hD', hP, hN, rs, hr⟩
  by_cases hlt : i < xs.length
  · refine .inr ⟨wk.go i W' H' le1 now.ok hlt, fun H'' => I (i + 1) H'', fun H'' hn => ⟨xs.length - (i + 1), by have := hn.1; omega, rfl, hn⟩, fun v H2 hy => ?_⟩
    obtain ⟨W2, s3, r3⟩ := wk.yld i xs[i] W' H' v H2 le1 now.ok (List.getElem?_eq_getElem hlt) hy
    rw [List.drop_eq_getElem_cons hlt] at hr
    have keep : ∀ {Wa Wb Ha Hb ws}, Step Wa Ha Wb Hb → Ha D = some (.lst ws) → Wa.P D = none → Wa.N D = none → Hb D = some (.lst ws) ∧ Wb.P D = none ∧ Wb.N D = none := fun {Wa Wb Ha Hb ws} s h1 h2 h3 => by
      have nn : Ha D ≠ none := by rw [h1]; intro z; cases z
      exact ⟨s.old D _ h1 h3, (s.newP D nn).trans h2, (s.newN D nn).trans h3⟩
    obtain ⟨k1, k2, k3⟩ := keep s3 hD' hP hN
    have n2 : Now S Wf W0 H0 W2 H2 σ (ρ.set l (.own ds)) := now.step w s3
    have e2 := n2.env.wipe vs
    rw [wipeS_set hlv] at e2
    have e3 := e2.setVal tj r3
    refine ⟨(wipe_same (js := [tj]) (List.length_set ..) (fun j hj2 => List.getElem?_set_ne fun z => hj2 (by rw [z]; exact List.mem_singleton.mpr rfl)) fun j hj2 => by rw [List.mem_singleton.mp hj2]; exact hj).trans (wipe_wipe σ vs), ?_⟩
    refine iteT (B := I (i + 1) H2) ?_
    have hlo : (((wipeS ρ vs).set l (.own ds)).set tj (.val xs[i]))[l]? = some (.own ds) := by
      rw [List.getElem?_set_ne fun z => hlv (by rw [← z]; exact hj), List.getElem?_set_self]
      have : ∀ vs : List Nat, (wipeS ρ vs).length = ρ.length := fun vs => by
        induction vs with
        | nil => rfl
        | cons v vs ih => show ((wipeS ρ vs).set v .no).length = _; rw [List.length_set, ih]
      rw [this]
      exact hrl
    obtain ⟨b, us2, b1, b2, _⟩ := e3.owL l ds hlo
    refine ⟨_, b1, .inl ⟨rfl, _, .inl (.inl b2)⟩, ?_⟩
    refine (hd xs[i] ds).go e3 s3.ok hr nx fun d u W4 H4 h3 s6 r6 e5 => ?_
    obtain ⟨b', us4, c1, c2, c3, c4, c5, c6⟩ := e5.owL l ds hlo
    rw [b1] at c1
    cases c1
    obtain ⟨z, ki, y, rfl, z1, z2, ek, ey, h4⟩ := popAt_run h3
    have ru : u = V.int z := r6.inj_int
    subst ru
    obtain ⟨yv, g1, g2⟩ := c6.get ey
    have n4 : Now S Wf W0 H0 W4 H4 σ (ρ.set l (.own ds)) := n2.step w s6
    have hls : (ρ.set l (.own ds))[l]? = some (.own ds) := List.getElem?_set_self hrl
    obtain ⟨a', _, a2, a3, _⟩ := n4.env.owL l ds hls
    rw [a1] at a2
    cases a2
    have eb : b = a := by
      obtain ⟨_, _, p1, p2, _⟩ := e2.owL l ds (by
        rw [List.getElem?_set_self]
        have : ∀ vs : List Nat, (wipeS ρ vs).length = ρ.length := fun vs => by
          induction vs with
          | nil => rfl
          | cons v vs ih => show ((wipeS ρ vs).set v .no).length = _; rw [List.length_set, ih]
        rw [this]
        exact hrl)
      have p3 : (L2.wipe σ vs)[l]? = σ[l]? := wipe_out hlv
      rw [List.getElem?_set_ne fun z => hlv (by rw [← z]; exact hj), p3, a1] at b1
      cases b1
      rfl
    subst eb
    refine ⟨b, us4, z, ki, yv, rfl, rfl, c2, z1, z2, by rw [c6.length]; exact seq_ixP ek, g1, ?_⟩
    obtain ⟨k4, k5, k6⟩ := keep s6 k1 k2 k3
    have n5 := n4.putOb (c' := .lst (ds.eraseIdx ki)) (o' := .lst (us4.eraseIdx ki)) hls a1 c3 c4 c5 (soft_lst c2) (fun _ z => nomatch z) (.lst ?_)
    · rw [List.set_set] at n5
      obtain ⟨hlen, h5⟩ := h4
      have rs4 : Reps S.K W4 ws acc := rs.mono (s3.le.trans s6.le)
      have kD : (upd H4 b (.lst (us4.eraseIdx ki))) D = some (.lst ws) := by rw [upd_ne aD]; exact k4
      refine ⟨ws, kD, by rw [rs4.length]; exact hlen, hlt, W4, ws ++ [yv], acc ++ [y], ds.eraseIdx ki, ?_, le1.trans (s3.le.trans s6.le), upd_same, k5, k6, rs4.append (.cons g2 .nil), h5⟩
      have w6 := n5.ok.put (us := ws ++ [yv]) k5 k6 kD
      exact ⟨n5.env.updOut (soft_lst kD) (outl _), w6, ⟨n5.st.le, w6, fun b' o ho hnn => by rw [upd_ne (ne_of_none ho hD0)]; exact n5.st.old b' o ho hnn, n5.st.newP, n5.st.newN⟩, n5.fl⟩
    · have key : ∀ {vs : List V} {ds : List Ev.D} (k : Nat), Reps S.K W4 vs ds → Reps S.K W4 (vs.eraseIdx k) (ds.eraseIdx k) := by
        intro vs ds k r
        induction ds generalizing vs k with
        | nil => cases r; exact .nil
        | cons d ds ih =>
          cases r with
          | cons h r =>
            cases k with
            | zero => exact r
            | succ k => exact .cons h (ih k r)
      exact key ki c6
  · have ei : i = xs.length := by omega
    subst ei
    rw [List.drop_length] at hr
    refine .inl ⟨wk.stop W' H' le1 now.ok, D, ws, rfl, .inl ⟨.inl (.inl hD'), fun p o hp ho => ?_⟩⟩
    have s7 := Step.dat now.ok (o := .frz o (.tup ws)) hp
    have n7 := now.step w s7
    refine fin acc _ _ _ hr ⟨?_, s7.ok, n7.st, n7.fl⟩ (.tup (.inl ⟨o, upd_same, ho⟩) (rs.mono s7.le))
    have e7 := n7.env.drop l
    rw [List.set_set] at e7
    exact e7
theorem ss_pops {x l tj : Nat} {wi : TI} {td : TE} {vs : List Nat} {ds0 : List Ev.D} {rit : M (List Ev.D)} {rd : Ev.D → List Ev.D → M Ev.D} {k : Ev.D → M (Fl T L)} (hl : ρ[l]? = some (.own ds0)) (hi : SI S wi ρ rit) (hj : tj ∈ vs) (hlv : l ∉ vs)
    (hd : ∀ t ds, SE S.calm td (((wipeS ρ vs).set l (.own ds)).set tj (.val t)) (rd t ds)) (hb : ∀ d, SS S own tb ((ρ.set l .no).set x (.val d)) enc encL (k d)) :
    SS S own (tSeq (tAsg (tCB (rTupB S.K) (tCons (tLc wi (gName tj) tYes (tBM S.K "list" rPopAt (tVar l) (tCons td tNil)) vs) tNil)) (gName x)) tb) ρ enc encL (popsM ds0 rit rd k) := fun Wf W0 H0 W H σ D0 w n q =>
  pops_core (R := fun acc => (k (.tup acc)).run (FlPost S own Wf W0 H0 enc encL D0) (XPost S W0 H0)) w n hl hi hj hlv hd q fun acc W' H' v hr n' rv =>
    hb (.tup acc) Wf W0 H0 _ _ _ D0 w ⟨n'.env.setVal x rv, n'.ok, n'.st, n'.fl⟩ hr
/-- .. handed back at once -/
theorem ss_popsr {l tj : Nat} {wi : TI} {td : TE} {vs : List Nat} {ds0 : List Ev.D} {rit : M (List Ev.D)} {rd : Ev.D → List Ev.D → M Ev.D} (hl : ρ[l]? = some (.own ds0)) (hi : SI S wi ρ rit) (hj : tj ∈ vs) (hlv : l ∉ vs)
    (hd : ∀ t ds, SE S.calm td (((wipeS ρ vs).set l (.own ds)).set tj (.val t)) (rd t ds)) :
    SS S false (tRet (tCB (rTupB S.K) (tCons (tLc wi (gName tj) tYes (tBM S.K "list" rPopAt (tVar l) (tCons td tNil)) vs) tNil))) ρ enc encL (popsM ds0 rit rd fun d => pure (.rt d)) := fun Wf W0 H0 W H σ D0 w n q =>
  pops_core (R := fun acc => (pure (.rt (.tup acc)) : M (Fl T L)).run (FlPost S false Wf W0 H0 enc encL D0) (XPost S W0 H0)) w n hl hi hj hlv hd q fun acc W' H' v hr n' rv => hr W' H' v n'.st rv
end
/-! ### tuple(range(..)) -/
def tTupRgB (te : L2.St → Hp → (Int → Int → Hp → Prop) → Prop) : TE := fun σ H Q => te σ H fun a b H1 => RgOk a b ∧ NewT H1 (rgV a b) Q
theorem pe_tupRgB {X : Cx} {e : Expr} {te : L2.St → Hp → (Int → Int → Hp → Prop) → Prop} {p pos : Pos} (hc : X.calm = true) (hg : Gl X "tuple") (hm : X.mg "tuple" = none) (he : PRg X e te) (na : starEach [e] X.env = (false, eval e X.env) :: starEach [] X.env := by rfl) : PE X (.Call (.Name "tuple" p) [e] [] pos) (tTupRgB te) := by
  refine ⟨fun pins s σ H Q I h => ?_⟩
  refine PyProof.Rows.Call_ (ld_blt I hg hm PyProof.Rows.boot_tuple (PyProof.Rows.callWith_type1 (PyProof.Rows.args_cons (thn (he pins s σ H _ I h) fun x s1 ⟨r, a, b, t, u, v, H1, ex, hr, I1, ok, q⟩ => PyProof.Rows.args_nil ?_) na) na))
  subst ex
  obtain ⟨b1, b2, b3, b4, b5⟩ := ok
  refine call_tuple_range (n := (b - a).toNat) (I1.ok.hd hc) hr (small_one b1 b2 b3 b4) (rangeSize_nat a b) b5 fun h' tk acc hk hi => ?_
  have I2 : L2.Inv X pins σ H1 { s1 with heap := h', toks := tk } := I1.kept hk
  have := ep_tupP (t' := tk) (n := 0) I2 (vals_rg hi) (by rw [rgV_length, sizeLine_eq]; omega) q
  rw [Array.toArray_toList] at this
  exact this
section
variable {S : Sx} {ρ : List Sl} {ra rb : M D} {ta tb : TE}
theorem se_trngB1 (h : SE S ta ρ ra) : SE S (tTupRgB (tRg1 ta)) ρ (trng1 ra) := fun σ H W H0 Q e w q => by
  refine h.go e w q (fun _ z => z) fun d v W1 H1 q1 s1 r1 e1 => ?_
  cases r1 with
  | int n => exact ⟨n, rfl, q1.1, post_tup s1.ok (q1.2.after w s1) (reps_rg 0 n)⟩
  | _ => exact (show False from q1).elim
theorem se_trngB2 (h : SE S ta ρ ra) (h2 : SE S tb ρ rb) : SE S (tTupRgB (tRg2 ta tb)) ρ (trng2 ra rb) := fun σ H W H0 Q e w q => by
  refine h.go e w q (fun _ z => z) fun d v W1 H1 q1 s1 r1 e1 => ?_
  refine h2.go e1 s1.ok q1 (fun _ z => z.after w s1) fun d2 v2 W2 H2 q2 s2 r2 e2 => ?_
  have s3 := s1.trans w s2
  cases r1 with
  | int m => cases r2 with
    | int n => exact ⟨m, n, rfl, rfl, q2.1, post_tup s2.ok (q2.2.after w s3) (reps_rg m n)⟩
    | _ => exact (show False from q2).elim
  | _ => exact (show False from q2).elim
end
/-! ### sorted, of a list of numbers -/
theorem call_sortIK {X : Cx} {K : PySem.W.Frag} (hK : X.K = K) : CallR X (.builtin "sorted") (rSortedI K) := by
  subst hK
  exact cr_sortedI
theorem co_sortZL {K : PySem.W.Frag} : CaO K (rSortedI K) (fo1 D.sortZL) := by
  intro W H vs ds Q E w rs h
  obtain ⟨d, rfl, h⟩ := fo1_run h
  cases d with
  | lst xs =>
    obtain ⟨v, rfl, r⟩ := rs.of1
    cases r with
    | @lst a us ds hx r =>
      obtain ⟨ns, e, q⟩ := ofO_run h
      have ev := ints_rep r e
      refine ⟨a, ns, rfl, by rw [← ev]; exact .inl (.inl (w.sub _ _ hx)), fun ns' p h1 h2 hp => ?_⟩
      rw [sortZ_eq h1 h2]
      exact post_own w q (ints_reps _) p hp
  | _ => exact (show False from h).elim
section
open PySem.W
/-! ### max and min of a tuple of numbers -/
theorem intsL_at : ∀ {ds : List D} {ns : List Int}, intsL ds = some ns → ds = ns.map D.int
  | [], ns, h => by cases h; rfl
  | d :: r, ns, h => by
    cases d with
    | int i =>
      rw [intsL] at h
      cases e : intsL r with
      | none => rw [e] at h; cases h
      | some m =>
        rw [e] at h
        cases h
        rw [List.map_cons, intsL_at e]
    | _ => cases h
theorem alike_nums (ns : List Int) : AlikeAll (ns.map PyData.int) := ⟨fun x hx y hy => by
  obtain ⟨i, _, rfl⟩ := List.mem_map.mp hx
  obtain ⟨j, _, rfl⟩ := List.mem_map.mp hy
  rfl, fun x hx => by
  obtain ⟨i, _, rfl⟩ := List.mem_map.mp hx
  simp⟩
theorem depth_nums (ns : List Int) : PyData.depthAll (ns.map PyData.int) ≤ 2 := by
  induction ns with
  | nil => simp [PyData.depthAll]
  | cons u r ih => rw [List.map_cons, PyData.depthAll, PyData.depth]; omega
def rMxT (K : PySem.W.Frag) (f : Int → List Int → Int) : List V → Hp → VK → Prop := fun vs H Q => ∃ a us W n ns, vs = [.ref a] ∧ SqT K H a us ∧ WOk W H ∧ Reps K W us ((n :: ns).map D.int) ∧ Q (.int (f n ns)) H
theorem pys_ints (ns : List Int) : D.pys (ns.map D.int) = ns.map PyData.int := by
  rw [D.pys_map, List.map_map]
  rfl
theorem plains_ints (k : Bool) (ns : List Int) : D.plains k (ns.map D.int) = true := by
  rw [D.plains_all, List.all_eq_true]
  intro x hx
  obtain ⟨i, _, rfl⟩ := List.mem_map.mp hx
  rfl
theorem call_maxT1 {X : Cx} {K : PySem.W.Frag} (hK : X.K = K) (hc : X.calm = true) (hu : X.A.units + 64 < cLine) : CallR X (.builtin "max") (rMxT K fun n ns => ns.foldl max n) := by
  subst hK
  intro pins s σ H vs us Q I r h
  obtain ⟨a, ws, W, n, ns, rfl, hs, w, rp, q⟩ := h
  obtain ⟨its, rv, hl, hz⟩ := I.tuple hs
  obtain ⟨u, rfl, ru⟩ := vals1 r
  obtain rfl : u = Value.ref a := ru
  obtain ⟨as, rs, _⟩ := Reps.reads I w rp rv (plains_ints _ _)
  rw [pys_ints, List.map_cons] at rs
  have hd := depth_nums (n :: ns)
  rw [List.map_cons] at hd
  refine max_tuple_data (I.ok.hd hc) (show s.heap.IsTuple a its.toArray from hl) (by simpa using rs) (by rw [← List.map_cons]; exact alike_nums _) (by omega) fun i v h' tk bs hi hr hk => ?_
  have hi' : its[i]? = some v := by simpa using hi
  have hlt := (List.getElem?_eq_some_iff.mp hi').1
  have hw : ws[i]? = some (ws[i]'(by rw [rv.length]; exact hlt)) := List.getElem?_eq_getElem _
  obtain ⟨u', e1, r1⟩ := rv.get hw
  rw [hi'] at e1
  cases e1
  obtain ⟨d, e2, rd⟩ := rp.get' hw
  obtain ⟨m, _, rfl⟩ := List.mem_map.mp (List.mem_of_getElem? e2)
  obtain ⟨cs, g1, g2, _⟩ := readsAll_at rs i v hi'
  have e3 : (PyData.int n :: ns.map PyData.int).getD i .none = .int m := by
    rw [List.getElem?_map] at e2
    rw [← List.map_cons, List.getD_eq_getElem?_getD, List.getElem?_map]
    cases z : (n :: ns)[i]? with
    | none => rw [z] at e2; cases e2
    | some k => rw [z] at e2; cases e2; rfl
  rw [e3] at g1
  have e4 := (Reads.unique (reads_keeps hk g1) _ _ hr).1
  rw [maxD_ints] at e4
  injection e4 with e4
  subst e4
  have hv : ∀ x : V, Rep X.K W x (.int (ns.foldl max n)) → x = .int (ns.foldl max n) := fun x h => by
    cases h
    rfl
  have hv := hv _ rd
  rw [hv] at r1
  exact ⟨_, H, I.kept hk, r1, q⟩
theorem call_minT1 {X : Cx} {K : PySem.W.Frag} (hK : X.K = K) (hc : X.calm = true) (hu : X.A.units + 64 < cLine) : CallR X (.builtin "min") (rMxT K fun n ns => ns.foldl min n) := by
  subst hK
  intro pins s σ H vs us Q I r h
  obtain ⟨a, ws, W, n, ns, rfl, hs, w, rp, q⟩ := h
  obtain ⟨its, rv, hl, hz⟩ := I.tuple hs
  obtain ⟨u, rfl, ru⟩ := vals1 r
  obtain rfl : u = Value.ref a := ru
  obtain ⟨as, rs, _⟩ := Reps.reads I w rp rv (plains_ints _ _)
  rw [pys_ints, List.map_cons] at rs
  have hd := depth_nums (n :: ns)
  rw [List.map_cons] at hd
  refine min_tuple_data (I.ok.hd hc) (show s.heap.IsTuple a its.toArray from hl) (by simpa using rs) (by rw [← List.map_cons]; exact alike_nums _) (by omega) fun i v h' tk bs hi hr hk => ?_
  have hi' : its[i]? = some v := by simpa using hi
  have hlt := (List.getElem?_eq_some_iff.mp hi').1
  have hw : ws[i]? = some (ws[i]'(by rw [rv.length]; exact hlt)) := List.getElem?_eq_getElem _
  obtain ⟨u', e1, r1⟩ := rv.get hw
  rw [hi'] at e1
  cases e1
  obtain ⟨d, e2, rd⟩ := rp.get' hw
  obtain ⟨m, _, rfl⟩ := List.mem_map.mp (List.mem_of_getElem? e2)
  obtain ⟨cs, g1, g2, _⟩ := readsAll_at rs i v hi'
  have e3 : (PyData.int n :: ns.map PyData.int).getD i .none = .int m := by
    rw [List.getElem?_map] at e2
    rw [← List.map_cons, List.getD_eq_getElem?_getD, List.getElem?_map]
    cases z : (n :: ns)[i]? with
    | none => rw [z] at e2; cases e2
    | some k => rw [z] at e2; cases e2; rfl
  rw [e3] at g1
  have e4 := (Reads.unique (reads_keeps hk g1) _ _ hr).1
  rw [minD_ints] at e4
  injection e4 with e4
  subst e4
  have hv : ∀ x : V, Rep X.K W x (.int (ns.foldl min n)) → x = .int (ns.foldl min n) := fun x h => by
    cases h
    rfl
  have hv := hv _ rd
  rw [hv] at r1
  exact ⟨_, H, I.kept hk, r1, q⟩
theorem rMxT_run {K : PySem.W.Frag} {f : Int → List Int → Int} {W : Wd} {H : Hp} {v : V} {d : D} {Q : VK} {E : Exn → Prop} {g : List Int → Option Int} (hg : ∀ n ns, g (n :: ns) = some (f n ns)) (hn : g [] = none) (w : WOk W H) (r : Rep K W v d)
    (h : (D.mxT g d).run (Post K Q W H) E) : rMxT K f [v] H Q := by
  cases r with
  | @tup a vs ds hx r =>
    obtain ⟨ns, e, h⟩ := ofO_run h
    obtain ⟨m, e2, q⟩ := ofO_run h
    have ed := intsL_at e
    cases ns with
    | nil => rw [hn] at e2; cases e2
    | cons x t =>
      rw [hg] at e2
      cases e2
      refine ⟨a, vs, W, x, t, rfl, w.sqT hx, w, ?_, post_here w q (.int _)⟩
      rw [← ed]
      exact r
  | _ => exact (show False from h).elim
theorem cs_maxT1 {K : PySem.W.Frag} : CaS K (rMxT K fun n ns => ns.foldl max n) (f1 D.maxT1) := by
  intro W H vs ds Q E w rs h
  obtain ⟨d, rfl, h2⟩ := f1_run h
  obtain ⟨v, rfl, r⟩ := rs.of1
  exact rMxT_run (g := maxI) (fun _ _ => rfl) rfl w r h2
theorem cs_minT1 {K : PySem.W.Frag} : CaS K (rMxT K fun n ns => ns.foldl min n) (f1 D.minT1) := by
  intro W H vs ds Q E w rs h
  obtain ⟨d, rfl, h2⟩ := f1_run h
  obtain ⟨v, rfl, r⟩ := rs.of1
  exact rMxT_run (g := minI) (fun _ _ => rfl) rfl w r h2
end
end Ev

namespace Ev
open PySem PySem.Spec PyProof.Rows L2
variable [Tb]
/-! ### raise TooGreat(many, most) -/
section
variable {X : Cx} {e : Expr} {es : List Expr} {ta : TA} {p1 p2 pos : Pos}
/-- B.__init__(self, ..), B an own class that has ValueError's -/
theorem pe_binit {pl : Sem Bool} {b : Str} {B : Addr} {mc : Value} (hg : Gl X b) (hm : X.mg b = some (.ref B)) (rd : ClX.CRead X.K B mc) (fi : PySem.W.findCls X.K (.ref B) mc "__init__" = some (.val (.builtin "ValueError.__init__"))) (ha : PA X (e :: es) ta) (hdb : (b == ("__debug__" : Str)) = false := by decide)
    (hc : eval (.Call (.Attribute (.Name b p1) "__init__" p2) (e :: es) [] pos) X.env = (do
      let cls ← eval (.Name b p1) X.env
      standAt p2.atName
      let (g, ahead) ← holding [cls] (getMethod cls "__init__" pl)
      callWith pos g ahead (backTo pos (starEach (e :: es) X.env)) (backToKw pos (keywordEach [] X.env))) := by rfl)
    (he : starEach (e :: es) X.env = (false, eval e X.env) :: starEach es X.env := by rfl) (hpl : (backTo pos (starEach es X.env)).any (·.1) = false := by rfl) :
    PE X (.Call (.Attribute (.Name b p1) "__init__" p2) (e :: es) [] pos) (tVeI X.K ta) := by
  constructor
  intro pins s σ H Q I h
  refine PySem.W.methodCall_KW (ld_glob I hg hm ?_ hdb) hc
  refine PySem.W.method_cls I.kIn rd.ga (PySem.W.cls_value I.kIn rd.rd fi (by rfl) ?_)
  show wpAny _ _ (callWith pos (Value.builtin "ValueError.__init__") [] (backTo pos (starEach (e :: es) X.env)) []) _ _ _
  refine PyProof.Rows.callWith_method1 (thn (ha.run pos pins _ σ H _ (I.tok _) h) ?_) he hpl
  rintro us s1 ⟨vs, H1, I1, r1, a, C, ws, rfl, hl, oc, ea, q⟩
  match us, r1 with
  | u0 :: ur, .cons ra rw' =>
    cases ra
    exact oinit_ok oc I1 ea (by rw [← Paired.length rw', sizeLine_eq]; omega) fun s' J => ⟨.non, H1, J, rfl, q⟩
end
def spToo (K : PySem.W.Frag) (C : Addr) : Sp := fun vs H Q _ => ∃ (a : Addr) (y1 y2 : V), vs = [.ref a, y1, y2] ∧ H a = some (exo a C none) ∧ ∀ dx, H dx = none → dx ≠ a → Q .non (upd (upd (upd H dx (exd dx [("many", y1)])) a (exo a C (some dx))) dx (exd dx [("most", y2), ("many", y1)]))
/-- what is known of the class TooGreat, at C -/
structure TgC (K : PySem.W.Frag) (C : Addr) : Prop where
  oc : OexC K C
  xf : XfC K C
  m1 : PySem.W.findIn K (.ref C) "many" = some none
  m2 : PySem.W.findIn K (.ref C) "most" = some none
  hd : PySem.W.hasDictIn K C = true
  su : PySem.W.subIn K (.ref C) (.ref C) = some true
def clsB : Stmt → List Stmt
  | .ClassDef (body := b) .. => b
  | _ => []
def isOex (C : Addr) (o : Obj) : Bool := match o with
  | ⟨.type "type", _, .cls cd, sl⟩ => (match cd.mro, sl.toList with
    | .ref C' :: bm, [_, _, _, _, some (.builtin n), _] => decide (C' = C) && (decide (n = "ValueError.__new__") && (!cd.hasDel && (cd.hasDict && HandSPX.refsVE bm)))
    | _, _ => false)
  | _ => false
theorem oex_cls {K : PySem.W.Frag} {C : Addr} {o : Obj} (h : isOex C o = true) (lk : K.lookup C = some o) :
    ∃ nm q N bs bm sn sub ab col dd k0 k1 k2 k3 k5, K.lookup C = some (excClassObj nm q C N bs bm true sn sub ab col dd k0 k1 k2 k3 k5 "ValueError.__new__") ∧ HandSPX.refsVE bm = true := by
  unfold isOex at h
  split at h
  · rename_i dd cd sl
    split at h
    · rename_i C' bm k0 k1 k2 k3 n k5 hm hs
      simp only [Bool.and_eq_true, decide_eq_true_iff, Bool.not_eq_true'] at h
      obtain ⟨rfl, rfl, e1, e2, e3⟩ := h
      obtain ⟨nm, bs, mro, ns, qn, hd, sn, sub, ab, col, del⟩ := cd
      subst hm e1 e2
      have hsl : sl = #[k0, k1, k2, k3, some (.builtin "ValueError.__new__"), k5] := by
        obtain ⟨l⟩ := sl
        simp only at hs
        rw [hs]
      subst hsl
      exact ⟨_, _, _, _, _, _, _, _, _, _, _, _, _, _, _, lk, e3⟩
    · cases h
  · cases h
/-- TooGreat may be raised -/
def Tg (P : Program) (w : World) (K : PySem.W.Frag) (mg : Str → Option Value) (base : Heap) : Prop :=
  ∃ (C fI : Addr) (fd : FuncData), mg "TooGreat" = some (.ref C) ∧ TgC K C ∧ PySem.W.findIn K (.ref C) "__init__" = some (some (.ref fI)) ∧ PySem.W.typeIn K (.ref fI) = some (.type "function") ∧ FnOk P w K mg base C8.CX0 1 fI fd ["self", "many", "most"] (spToo K C) ∧ Binds K fd ["self", "many", "most"] []
section
variable {P : Program} {w : World} {K : PySem.W.Frag} {mg : Str → Option Value} {base : Heap}
def tToo (K : PySem.W.Frag) : TS := tSeq (tDrop (tVeI K (tCons (tVar 0) (tCons (tC (.str "more than told of")) tNil)))) (tSeq (tOst K "many" (tVar 0) (tVar 1)) (tOst K "most" (tVar 0) (tVar 2)))
theorem tg_of {C fI : Addr} {st : Stmt} {fd : FuncData} (hC : mg "TooGreat" = some (.ref C)) (tc : TgC K C) (fi : PySem.W.findIn K (.ref C) "__init__" = some (some (.ref fI))) (ti : PySem.W.typeIn K (.ref fI) = some (.type "function"))
    (Fn : L2.Fun K "__init__" "TooGreat.__init__" st fI fd) (bd : Binds K fd ["self", "many", "most"] []) (sc : FnScope ["self", "many", "most"] ["self", "many", "most"] (defScope st))
    (hb : ∀ (cdv : Value) (A : Around) (outer : List Env) (s : Shared) (H : Hp) (E : XK), PSs (cxOf C8.CX0 P w K mg base ["self", "many", "most"] "TooGreat.__init__" (defScope st) fI cdv A outer s H E).nox (defBody st) (tToo K)) : Tg P w K mg base := by
  refine ⟨C, fI, fd, hC, tc, fi, ti, Fn.ok (k := 0) sc ?_ ?_, bd⟩
  · rintro vs H Q E ⟨a, y1, y2, rfl, _⟩
    rfl
  · rintro cdv A outer s H vs Q E hr ⟨a, y1, y2, rfl, ha, q⟩
    refine ⟨_, hb cdv A outer s H E, ?_⟩
    refine ⟨_, rfl, a, C, _, rfl, Nat.le_of_ble_eq_true rfl, tc.oc, ha, ?_⟩
    refine ⟨_, rfl, _, rfl, a, C, rfl, tc.oc, tc.m1, .inl ⟨ha, fun dx h1 ne => ?_⟩⟩
    refine ⟨_, rfl, _, rfl, a, C, rfl, tc.oc, tc.m2, .inr ⟨dx, _, upd_same, ?_, Nat.le_of_ble_eq_true rfl, q dx h1 ne⟩⟩
    rw [upd_ne ne, upd_same]
end
section
variable {X : Cx} {e1 e2 : Expr} {ta : TA} {p pos : Pos}
/-- TooGreat(e1, e2), to be raised -/
theorem pmk_too {C : Addr} (tg : Tg X.prog X.w X.K X.mg X.base) (hC : X.mg "TooGreat" = some (.ref C)) (hr : Room 2 X.A) (ha : PA X [e1, e2] ta) (hgl : Gl X "TooGreat" := by exact rfl)
    (he : starEach [e1, e2] X.env = (false, eval e1 X.env) :: starEach [e2] X.env := by rfl) (hpl : (backTo pos (starEach [e2] X.env)).any (·.1) = false := by rfl) : PMk X (.Call (.Name "TooGreat" p) [e1, e2] [] pos) (tMkO C (spToo X.K C) [] ta) := by
  obtain ⟨C', fI, fd, hC', tc, fi, ti, F, bd⟩ := tg
  rw [hC] at hC'
  cases hC'
  exact pmk_oex tc.oc fi ti F hr bd .nil (fun _ _ _ _ _ _ _ h => h.elim) hgl hC ha (by decide) he hpl
end
section
variable {S : Sx} {own : Bool} {ρ : List Sl} {T L : Type} {enc : T → List Sl} {encL : L → List Sl}
theorem ss_too {C : Addr} {ts : TA} {rs : List (M D)} (hC : S.mg "TooGreat" = some (.ref C)) (h : SA S ts ρ rs) : SS S own (fun _ σ H => tMkO C (spToo S.K C) [] ts σ H fun cls d H' => S.E cls d H') ρ enc encL (tooM rs) := fun Wf W0 H0 W H σ D w n q => by
  refine h.go n.env n.ok q (xpost w n.st) fun ds vs W1 H1 q1 s1 r1 e1 => ?_
  obtain ⟨i, j, rfl, q1⟩ := tooD_run q1
  cases r1 with
  | cons r r' =>
    cases r' with
    | cons r' r'' =>
    cases r
    cases r'
    cases r''
    refine ⟨Nat.le_of_ble_eq_true rfl, fun a ha => ⟨a, _, _, rfl, upd_same, fun dx h1 ne => ?_⟩⟩
    rw [upd_ne ne] at h1
    refine ⟨rfl, dx, _, ?_, upd_same, h1, ?_⟩
    · rw [upd_ne (fun z => ne z.symm), upd_same]
    · have hH : upd (del (upd (upd (upd (upd H1 a (exo a C none)) dx (exd dx [("many", V.int i)])) a (exo a C (some dx))) dx (exd dx [("most", V.int j), ("many", V.int i)])) a) dx (.xd [("most", V.int j), ("many", V.int i)]) = upd H1 dx (.xd [("most", V.int j), ("many", V.int i)]) := by
        funext b
        by_cases hb : b = dx
        · subst hb
          rw [upd_same, upd_same]
        · rw [upd_ne hb, upd_ne hb]
          by_cases hb2 : b = a
          · subst hb2
            rw [del_same, ha]
          · rw [del_ne hb2, upd_ne hb, upd_ne hb2, upd_ne hb, upd_ne hb2]
      rw [hH]
      have sd := Step.dat (o := .xd [("most", V.int j), ("many", V.int i)]) s1.ok h1
      exact q1 (.ref C) (some dx) _ _ ((n.st.trans w s1).trans w sd) ⟨C, hC, rfl, dx, _, rfl, upd_same, rfl, rfl⟩
end
/-! ### try: call() / except TooGreat as e: return (e.many, e.most) / return None -/
def TTgreat (K : PySem.W.Frag) (mg : Str → Option Value) : (XK → Hp → VK → Prop) → Hp → VK → Prop := fun tl H Q =>
  tl (fun cls d H' => ∃ W, WOk W H' ∧ (∃ C, mg "TooGreat" = some (.ref C) ∧ cls = .ref C) ∧ ∃ (i j : Int) (dx : Addr) (fs : List (Str × V)), d = some dx ∧ W.P dx = some (.xd fs) ∧ fs.lookup ("many" : Str) = some (V.int i) ∧ fs.lookup ("most" : Str) = some (V.int j) ∧
    ∀ W'' H'' v, Step W H' W'' H'' → Rep K W'' v (.tup [.int i, .int j]) → Q v H'') H fun _ H' => Q .non H'
section
variable {S : Sx} {ρ : List Sl} {r : M D} {t : XK → TE}
theorem se_great (h : ∀ E, SE ⟨S.K, S.mg, E⟩ (t E) ρ r) : SE S (tLm (TTgreat S.K S.mg) t) ρ (greatM r) := fun σ H W H0 Q en w q => by
  refine ⟨w.tab, fun H1 tn t1 => ?_⟩
  have st := step_turns w tn t1
  refine h _ σ H1 W H0 _ (en.step st) st.ok (r.mono (fun d hd => ?_) (fun e he => ?_) q)
  · intro v W' H' s' _
    exact hd _ _ _ (st.trans w s') .non
  · rintro cv dx W' H' s' ⟨C, hC, rfl, hx⟩
    obtain ⟨e1, i, j, e2, e3⟩ := he
    rw [e2] at hx
    rw [e1] at hC
    obtain ⟨d, fs, f1, f2, f3, f4⟩ := hx
    exact ⟨W', s'.ok, ⟨C, hC, rfl⟩, i, j, d, fs, f1, f2, f3, f4, fun W'' H'' v s'' rv => e3 v W'' H'' ((st.trans w s').trans w s'') rv⟩
end
section
variable {P : Program} {w : World} {K : PySem.W.Frag} {mg : Str → Option Value} {base : Heap}
theorem great_gv {x a e : Str} {st : Stmt} {j1 j3 : Nat} {p1 p2 p3 p4 p14 p15 p16 p17 p18 p21 p22 p23 p24 p25 : Pos} {C : Addr} (d : Df K mg x st [a]) (sc : FnScope [a, e] [a] (defScope st)) (hC : mg "TooGreat" = some (.ref C)) (tc : TgC K C) (tT : PySem.W.typeIn K (.ref C) = some (.type "type"))
    (hb : defBody st = [.Try [.Expr (.Call (.Name a p1) [] [] p2) p3] [.ExceptHandler (some (.Name "TooGreat" p4)) (some e) [.Return (some (.Tuple [.Attribute (.Name e p14) "many" p15, .Attribute (.Name e p16) "most" p17] j3 p18)) p21] p22] [] [] p23, .Return (some (.Constant .none j1 p24)) p25])
    (hva : Vis (defScope st) a) (hge : (defScope st).names.lookup ("TooGreat" : Str) = some NameKind.globalImplicit) (hle : (defScope st).names.lookup e = some NameKind.local)
    (hdb : (x == ("__debug__" : Str)) = false := by decide) (hda : (a == ("__debug__" : Str)) = false := by decide) (hca : (a == ("__classdict__" : Str)) = false := by decide)
    (hde : (e == ("__debug__" : Str)) = false := by decide) (hce : (e == ("__classdict__" : Str)) = false := by decide) : Gv P w K mg base x (TTgreat K mg) := by
  refine gv_of d sc rfl hva ?_ hdb hda hca
  rw [hb]
  intro X g cdg q s H0 hP hw hK hmg hbase hr f N Q tl act hN h
  subst hP hw hK hmg hbase
  refine ⟨_, pss_cons (ps_try_as (X := (cxOf C8.CX0 X.prog X.w X.K X.mg X.base [a, e] x (defScope st) g cdg X.A X.stack s H0 C8.E0).nox) (i := 1) (c := .ref C) (Wout := fun _ _ _ _ => False)
      (tb := fun W D σ H => ∃ Ech : XK, (∀ cls d σ' H', Ech cls d H' → W cls d σ' H') ∧ σ[0]? = some (some (.ref f)) ∧ H N = some (LamX.CodeO N q) ∧ tl Ech H fun _ H' => D.nx σ H')
      (ts := fun b cls d D σ H => (σ.length = 2 → σ[1]? = some (some (.ref b))) ∧ cls = .ref C ∧ ∃ (i j : Int) (dx : Addr) (fs : List (Str × V)), d = some dx ∧ H dx = some (.xd fs) ∧ fs.lookup ("many" : Str) = some (V.int i) ∧ fs.lookup ("most" : Str) = some (V.int j) ∧ NewT H [.int i, .int j] D.rt)
      rfl rfl sc.nd rfl hle ⟨hge, by decide, .inl hC⟩ LamX.takes0 (fun W pn xe tk _ => ?_) (fun b oe cls dd pn hz hf => ?_)) (pss_one (ps_ret pe_non)), ?_⟩
  · constructor
    intro pins s' σ H' D I h'
    obtain ⟨Ech, hW, h1, h2, h3⟩ := h'
    exact (pss_one (ps_expr (act W pn xe Ech p1 p2 tk hW))).run pins s' σ H' D I ⟨h1, h2, h3⟩
  · constructor
    intro pins s' σ H' D I h'
    obtain ⟨h1, ecl, i, j, dx, fs, f1, f2, f3, f4, fin⟩ := h'
    have hl : σ.length = 2 := I.len
    have pv1 : ∀ p, PE ((cxOf C8.CX0 X.prog X.w X.K X.mg X.base [a, e] x (defScope st) g cdg X.A X.stack s H0 C8.E0).nox.suite b ((b, oe) :: pn)) (.Name e p) (tVar 1) := fun p => pe_var (i := 1) rfl (.inl hle) hde hce
    have body : PSs ((cxOf C8.CX0 X.prog X.w X.K X.mg X.base [a, e] x (defScope st) g cdg X.A X.stack s H0 C8.E0).nox.suite b ((b, oe) :: pn)) [.Return (some (.Tuple [.Attribute (.Name e p14) "many" p15, .Attribute (.Name e p16) "most" p17] j3 p18)) p21] _ :=
      pss_one (ps_ret (pe_tupB (pa_cons (pe_xf (n := "many") tc.xf tc.m1 hz hf (pv1 p14)) (pa_cons (pe_xf (n := "most") tc.xf tc.m2 hz hf (pv1 p16)) pa_nil))))
    exact body.run pins s' σ H' D I ⟨_, h1 hl, rfl, ecl, dx, fs, _, f1, f2, f3, ⟨_, h1 hl, rfl, ecl, dx, fs, _, f1, f2, f4, Nat.le_of_lt (small1000 (Nat.le_of_ble_eq_true rfl)), fun p ob hp ho => fin p ob hp ho⟩⟩
  · refine ⟨fun cls d H' => ∃ W, WOk W H' ∧ (∃ C, X.mg "TooGreat" = some (.ref C) ∧ cls = .ref C) ∧ ∃ (i j : Int) (dx : Addr) (fs : List (Str × V)), d = some dx ∧ W.P dx = some (.xd fs) ∧ fs.lookup ("many" : Str) = some (V.int i) ∧ fs.lookup ("most" : Str) = some (V.int j) ∧
      ∀ W'' H'' v, Step W H' W'' H'' → Rep X.K W'' v (.tup [.int i, .int j]) → Q v H'', ?_, rfl, hN, h⟩
    rintro cls d σ' H' ⟨W, wk, ⟨C', hC', rfl⟩, i, j, dx, fs, f1, f2, f3, f4, fin⟩
    rw [hC] at hC'
    cases hC'
    refine ⟨true, PySem.W.exm_ref tc.oc.exC tc.hd tT tc.su, fun _ b _ => ⟨fun hl => ?_, rfl, i, j, dx, fs, f1, wk.sub _ _ f2, f3, f4, fun p ob hp ho => ?_⟩, fun z => nomatch z⟩
    · rw [List.length_set] at hl
      exact List.getElem?_set_self (by omega)
    · have sd := Step.dat (o := .frz ob (.tup [.int i, .int j])) wk hp
      exact fin _ _ _ sd (.tup (.inl ⟨ob, upd_same, ho⟩) (.cons (.int _) (.cons (.int _) .nil)))
end
/-! ### defs handed about -/
def faOf (l : List Addr) (i : Nat) : Addr := l.getD i 0
section
variable {P : Program} {w : World} {K : PySem.W.Frag} {mg : Str → Option Value} {base : Heap}
/-- the defs of these numbers, each of n parameters, do as F says -/
def CdV (P : Program) (w : World) (K : PySem.W.Frag) (mg : Str → Option Value) (base : Heap) (k : Nat) (is : List Nat) (n : Nat) (F : Nat → List D → M D) : Prop :=
  ∀ i ∈ is, ∃ (fd : FuncData) (ps : List Str), PySem.W.keepIn K (.ref (Tb.fa i)) = true ∧ Binds K fd ps [] ∧ GOk P w K mg base false k (Tb.fa i) fd ps (spD K mg false n (F i))
theorem cdv_nil {k n : Nat} {F : Nat → List D → M D} : CdV P w K mg base k [] n F := fun _ h => nomatch h
theorem spD_own {n : Nat} {F : List D → M D} {vs : List V} {H : Hp} {Q : VK} {E : XK} (h : spD K mg false n F vs H Q E) : spD K mg true n F vs H Q E := by
  obtain ⟨W, ds, wk, r, l, q⟩ := h
  refine ⟨W, ds, wk, r, l, (F ds).mono (fun d hd W' H' v s rv => ?_) (fun _ z => z) q⟩
  rcases rv with ⟨a, us, xs, rfl, rfl, g1, g2, g3, g4, g5⟩ | ⟨a, us, xs, rfl, rfl, g1, g2, g3, g4, g5⟩ | ⟨rfl, rfl⟩
  · exact hd _ H' _ (s.freeze g4 g1 g2 g3) (.lst upd_same (g5.mono (le_freeze g2)))
  · exact hd _ H' _ (s.freeze g4 g1 g2 g3) (.dct upd_same (g5.mono (le_freeze g2)))
  · exact hd _ H' _ s .non
theorem cdv_cons {x : Str} {i j k n : Nat} {is : List Nat} {ps : List Str} {own : Bool} {F : Nat → List D → M D} {G : List D → M D} (c : Cd false P w K mg base x j ps (spD K mg own n G)) (hx : mg x = some (.ref (Tb.fa i))) (hF : F i = G) (h : CdV P w K mg base k is n F) (hjk : j ≤ k := by decide) : CdV P w K mg base k (i :: is) n F := fun m hm => by
  rcases List.mem_cons.mp hm with rfl | hm
  · obtain ⟨f, fd, g, kp, b, G1⟩ := c
    rw [hx] at g
    cases g
    rw [hF]
    refine ⟨fd, ps, kp, b, (G1.mono hjk).imp fun vs H Q E z => ?_⟩
    cases own with
    | true => exact spD_own z
    | false => exact z
  · exact h m hm
end
def tCallV (K : PySem.W.Frag) (mg : Str → Option Value) (j : Nat) (is : List Nat) (n : Nat) (F : Nat → List D → M D) (E : XK) (t : TA) : TE := fun σ H Q => ∃ i, i ∈ is ∧ σ[j]? = some (some (.ref (Tb.fa i))) ∧ t σ H fun vs H1 => spD K mg false n (F i) vs H1 Q E
section
variable {X : Cx} {k n j : Nat} {is : List Nat} {F : Nat → List D → M D} {E : XK} {x : Str} {p pos : Pos} {e : Expr} {es : List Expr} {t : TA}
theorem pe_cdv {K : PySem.W.Frag} {mg : Str → Option Value} (c : CdV X.prog X.w K mg X.base k is n F) (hr : Room k X.A) (hx : Passes (L2.CX X.prog X.w) X E) (ha : PA X (e :: es) t) (hN : X.N[j]? = some x := by rfl) (hv : Vis X.env.scope x := by first | exact Or.inl rfl | exact Or.inr (Or.inl rfl) | exact Or.inr (Or.inr rfl))
    (hdb : (x == ("__debug__" : Str)) = false := by decide) (hcd : (x == ("__classdict__" : Str)) = false := by decide)
    (he : starEach (e :: es) X.env = (false, eval e X.env) :: starEach es X.env := by rfl) (hpl : (backTo pos (starEach es X.env)).any (·.1) = false := by rfl)
    (hK : X.K = K := by rfl) (hmg : X.mg = mg := by rfl) : PE X (.Call (.Name x p) (e :: es) [] pos) (tCallV K mg j is n F E t) := by
  subst hK hmg
  constructor
  intro pins s σ H Q I h
  obtain ⟨i, hi, hs, ht⟩ := h
  obtain ⟨fd, ps, kp, b, G⟩ := c i hi
  apply wpAny_Call_Name_kw
  refine thn ((pe_var (pos := p) hN hv hdb hcd).run pins s σ H (fun v H1 => v = .ref (Tb.fa i) ∧ H1 = H) I ⟨.ref (Tb.fa i), hs, rfl, rfl⟩) ?_
  rintro u s1 ⟨v, H1, I1, r1, rfl, rfl⟩
  cases r1
  refine PySem.W.callWith_K (h₀ := X.base) I.ok.mod.kin kp (thn (ha.run pos pins s1 σ _ _ I1 ht) ?_) he hpl
  rintro us s2 ⟨vs, H2, I2, r, q⟩
  exact ⟨I2.kIn, run_g G hr (fun z => nomatch z) b hx I2 r q⟩
/-- the same within a lambda -/
theorem pe_cdvl {K : PySem.W.Frag} {mg : Str → Option Value} {A : Around} {outer : List Env} {s : Shared} {H : Hp} {sc : Scope} {f N : Addr} (c : CdV X.prog X.w K mg X.base j is n F) (hr : Room k (A.deeper (LamX.lamEnv X sc s.heap.objs.size f N))) (ha : PA (LamX.lamCx X A outer s H E sc f N) (e :: es) t) {i : Nat} (hjk : j ≤ k := by decide)
    (hN : (LamX.lamCx X A outer s H E sc f N).N[i]? = some x := by rfl) (hv : Vis (LamX.lamCx X A outer s H E sc f N).env.scope x := by first | exact Or.inl rfl | exact Or.inr (Or.inl rfl) | exact Or.inr (Or.inr rfl))
    (hdb : (x == ("__debug__" : Str)) = false := by decide) (hcd : (x == ("__classdict__" : Str)) = false := by decide)
    (he : starEach (e :: es) (LamX.lamCx X A outer s H E sc f N).env = (false, eval e (LamX.lamCx X A outer s H E sc f N).env) :: starEach es (LamX.lamCx X A outer s H E sc f N).env := by rfl) (hpl : (backTo pos (starEach es (LamX.lamCx X A outer s H E sc f N).env)).any (·.1) = false := by rfl)
    (hK : X.K = K := by rfl) (hmg : X.mg = mg := by rfl) : PE (LamX.lamCx X A outer s H E sc f N) (.Call (.Name x p) (e :: es) [] pos) (tCallV K mg i is n F E t) :=
  pe_cdv (X := LamX.lamCx X A outer s H E sc f N) (k := k) (j := i) (fun m hm => by
    obtain ⟨fd, ps, a, b, g⟩ := c m hm
    exact ⟨fd, ps, a, b, g.mono hjk⟩) hr (pass_lam (X := X)) ha hN hv hdb hcd he hpl hK hmg
end
section
variable {S : Sx} {ρ : List Sl} {ts : TA} {rs : List (M D)} {n j : Nat} {is : List Nat} {F : Nat → List D → M D}
theorem fn_rep {K : PySem.W.Frag} {W : Wd} {v : V} {i : Nat} (hi : i < 1000000) (r : Rep K W v (.opq (2 * i))) : v = .ref (Tb.fa i) := by
  generalize hd : D.opq (2 * i) = d at r
  cases r with
  | mem _ _ => exact absurd (D.opq.inj hd) (by omega)
  | obj _ _ => exact absurd (D.opq.inj hd) (by omega)
  | fn m =>
    have e : m = i := by have := D.opq.inj hd; omega
    rw [e]
  | raw b => exact absurd (D.opq.inj hd) (by omega)
  | _ => cases hd
theorem se_cdv {d : D} (hj : ρ[j]? = some (.val d)) (h : SA S ts ρ rs) (hn : rs.length = n) (hs : ∀ i ∈ is, i < 1000000 := by decide) : SE S (tCallV S.K S.mg j is n F S.E ts) ρ (callV is F d rs) := fun σ H W H0 Q e w q => by
  cases d with
  | opq m =>
    unfold callV at q
    by_cases c : m / 2 ∈ is ∧ m % 2 = 0
    · simp only [if_pos c] at q
      obtain ⟨v, hv, rv⟩ := e.dat j _ hj
      have em : m = 2 * (m / 2) := by omega
      rw [em] at rv
      rw [fn_rep (hs _ c.1) rv] at hv
      refine ⟨m / 2, c.1, hv, ?_⟩
      refine h.go e w (seqL_len q) (fun _ z => z) fun ds vs W1 H1 q1 s1 r1 e1 => ?_
      exact ⟨W1, ds, s1.ok, r1, q1.1.trans hn, (F (m / 2) ds).mono (fun d hd W' H' v s r => hd v W' H' (s1.trans w s) r) (fun _ z => z.after w s1) q1.2⟩
    · simp only [if_neg c] at q
      exact (show False from q).elim
  | _ => exact (show False from q).elim
/-- a def's name as a value -/
theorem se_fn {i : Nat} {f : Addr} (h : f = Tb.fa i) (hi : i < 1000000 := by decide) : SE S (tC (.ref f)) ρ (pure (.opq (2 * i))) := by
  subst h
  exact se_c fun _ => .fn i hi
end
end Ev

namespace Ev
open PySem PySem.Spec PyProof.Rows L2
variable [Tb]
/-! ### lambdas that are kept in a list -/
def anyO : HO := .ext fun _ => True
/-- the lambda of this form, made in the frame of X -/
def lamD (X : Cx) (pa : Arguments) (bo : Expr) (sc : Scope) : LamD where
  φ := fun _ N o => ∃ pm ct : Value, o = .frz (PySem.W.kla_obj "<lambda>" (X.env.qual ++ "<lambda>") pa bo sc (cloFrom X.env.cells sc.names []) pm N ct) anyO
  q := X.env.qual ++ "<lambda>"
section
variable {X : Cx} {pins : List (Addr × Obj)} {σ : L2.St} {H : Hp} {s : Shared}
theorem anyO_ok {P : Program} {w : World} {H : Hp} {h : Heap} {a : Addr} {o : Obj} (e : h.get? a = some o) : ObjOk P w H h a (.frz o anyO) := ⟨e, trivial, ⟨o, e⟩, fun _ _ _ _ => trivial⟩
/-- a lambda is made; from now on its object is known -/
theorem make_lamT {T : List (Addr × Str)} {c B : Addr} {pa : Arguments} {bo : Expr} {sc : Scope} {pos : Pos} {E Q : Value → Shared → Prop} (I : L2.Inv X pins σ H s) (tB : LamX.TabB X.base X.mg c B) (hcode : X.env.code = .ref c)
    (hm : (B, X.env.qual ++ "<lambda>") ∈ T) (hu : ∀ p ∈ T, p.1 = B → p.2 = X.env.qual ++ "<lambda>") (hT : LamX.Tabs T H) (hdef : defaultsOf pa X.env = ([], [])) (hfree : ∀ y ∈ sc.names, y.2 = .free → ∃ c, X.env.cells.lookup y.1 = some c)
    (h : ∀ (f N : Addr) (o : HO) (H1 : Hp) (s' : Shared), L2.Inv X pins σ (upd H1 f o) s' → TurnsT H H1 → LamX.Tabs T H1 → H1 f = none → (lamD X pa bo sc).φ f N o → H1 N = some (LamX.CodeO N (X.env.qual ++ "<lambda>")) → Q (.ref f) s') :
    wpAny (model X.prog X.w) X.A (eval (.Lambda pa bo sc pos) X.env) Q E s := by
  obtain ⟨ps, hB, triples, named⟩ := hT _ hm
  have hB0 : s.heap.get? B = some { cls := .none, data := .fields ps } := I.hok B _ hB
  apply PySem.W.kla_eval hdef
  match hc : codeAmong pos ps.toList with
  | some cv =>
    obtain ⟨N, rfl, hco⟩ := named pos cv hc
    apply PySem.W.kla_makeFunctionHit (mg := X.mg) (c := c) (P := B) (ps := ps) (closure_ok hfree) I.ok.glob (I.mod.glob.keeps I.bk) hcode (tB.code.keeps I.bk) hB0 triples hc (tB.bm.keeps I.bk)
    intro ct h' tk hx hsz
    have got : (h'.push (PySem.W.kla_obj "<lambda>" (X.env.qual ++ "<lambda>") pa bo sc (cloFrom X.env.cells sc.names []) ((X.mg "__name__").getD .none) N ct)).get? h'.objs.size = some _ := Heap.get?_push_size _ rfl
    exact h h'.objs.size N _ H _ (I.laid (t' := tk) (fun b o e => Heap.get?_push_of_some _ (hx b o e)) hsz (anyO_ok got)) (.inl rfl) hT (I.hok.fresh hsz) ⟨_, _, rfl⟩ hco
  | none =>
    apply PySem.W.kla_makeFunction (mg := X.mg) (c := c) (P := B) (ps := ps) (closure_ok hfree) I.ok.glob (I.mod.glob.keeps I.bk) hcode (tB.code.keeps I.bk) hB0 triples hc tB.gP (tB.bm.keeps I.bk)
    intro N ct h' tk hx hge hlt hrec htb
    obtain ⟨N', oc, vs, t, eN, hoc, hd, hv⟩ := hrec
    cases eN
    have nN : H N = none := I.hok.fresh hge
    have nBN : B ≠ N := ne_of_none hB nN
    have J := LamX.inv_table (t' := tk) (more := #[rawInt pos.line, rawInt pos.col, .ref N]) (h' := h') I hB hx htb hge ⟨oc, vs, t, hoc, hd, hv⟩
    have got : (h'.push (PySem.W.kla_obj "<lambda>" (X.env.qual ++ "<lambda>") pa bo sc (cloFrom X.env.cells sc.names []) ((X.mg "__name__").getD .none) N ct)).get? h'.objs.size = some _ := Heap.get?_push_size _ rfl
    have stay : ∀ b o, H b = some o → b ≠ B → upd (upd H B (.tbl (ps ++ #[rawInt pos.line, rawInt pos.col, .ref N]))) N (LamX.CodeO N (X.env.qual ++ "<lambda>")) b = some o := by
      intro b o e nb
      rw [upd_ne (ne_of_none e nN), upd_ne nb]
      exact e
    have listed : (ps ++ #[rawInt pos.line, rawInt pos.col, .ref N]).toList = ps.toList ++ [rawInt pos.line, rawInt pos.col, .ref N] := by simp
    refine h h'.objs.size N _ _ _ (J.laid (t' := tk) (fun b o e => Heap.get?_push_of_some _ e) (Nat.le_refl _) (anyO_ok got)) (.inr ⟨B, N, _, _, ⟨ps, hB⟩, nN, rfl⟩) (fun p hp => ?_) (J.hok.fresh (Nat.le_refl _)) ⟨_, _, rfl⟩ upd_same
    have coded : ∀ c0 q0, H c0 = some (LamX.CodeO c0 q0) → c0 ≠ B := fun c0 q0 e z => by
      rw [z, hB] at e
      exact LamX.codeO_ne ps (Option.some.inj e).symm
    by_cases hb : p.1 = B
    · rw [hu p hp hb, hb]
      refine ⟨_, by rw [upd_ne nBN, upd_same], by rw [listed]; exact PySem.TriplesOk_snoc _ _ _ _ triples, ?_⟩
      intro p' cv hcv
      rw [listed] at hcv
      cases LamX.among_app _ triples hcv with
      | inl z =>
        obtain ⟨c0, e1, e2⟩ := named p' cv z
        exact ⟨c0, e1, stay _ _ e2 (coded _ _ e2)⟩
      | inr z => exact ⟨N, z, upd_same⟩
    · obtain ⟨ps', a1, a2, a3⟩ := hT p hp
      refine ⟨ps', stay _ _ a1 hb, a2, ?_⟩
      intro p' cv hcv
      obtain ⟨c0, e1, e2⟩ := a3 p' cv hcv
      exact ⟨c0, e1, stay _ _ e2 (coded _ _ e2)⟩
/-- d is a lambda of the frame of X whose body reads as t says -/
def IsLam (X : Cx) (k : Nat) (t : XK → TE) (d : LamD) : Prop := ∃ (pa : Arguments) (bo : Expr) (sc : Scope), d = lamD X pa bo sc ∧ LamX.LamS X.env.scope sc ∧
  (∀ (q : Str) (cl : List (Str × Addr)) (pm cv ctv : Value), bindArgs (PySem.W.kla_fn "<lambda>" q pa bo sc cl pm cv ctv) ⟨[], []⟩ = pure []) ∧
  ∀ (A : Around) (outer : List Env) (s : Shared) (H : Hp) (E : XK) (f N : Addr), Room k (A.deeper (LamX.lamEnv X sc s.heap.objs.size f N)) → PE (LamX.lamCx X A outer s H E sc f N) bo (t E)
/-- lambda: body, as a value -/
def tLamV (X : Cx) (k : Nat) (t : XK → TE) : TE := fun _ H Q => LamX.Tabs Tb.T H ∧ ∀ H1, TurnsT H H1 → LamX.Tabs Tb.T H1 → ∀ d f N o, IsLam X k t d → H1 f = none → (∀ ps, o ≠ .tbl ps) → d.φ f N o → H1 N = some (LamX.CodeO N d.q) → Q (.ref f) (upd H1 f o)
theorem pe_lamv {c B : Addr} {k : Nat} {t : XK → TE} {pa : Arguments} {bo : Expr} {sc : Scope} {pos : Pos} (tB : LamX.TabB X.base X.mg c B) (hcode : X.env.code = .ref c)
    (hm : (B, X.env.qual ++ "<lambda>") ∈ Tb.T) (hu : ∀ p ∈ Tb.T, p.1 = B → p.2 = X.env.qual ++ "<lambda>") (L : LamX.LamS X.env.scope sc) (hdef : defaultsOf pa X.env = ([], []))
    (hbind : ∀ (q : Str) (cl : List (Str × Addr)) (pm cv ctv : Value), bindArgs (PySem.W.kla_fn "<lambda>" q pa bo sc cl pm cv ctv) ⟨[], []⟩ = pure [])
    (hbody : ∀ (A : Around) (outer : List Env) (s : Shared) (H : Hp) (E : XK) (f N : Addr), Room k (A.deeper (LamX.lamEnv X sc s.heap.objs.size f N)) → PE (LamX.lamCx X A outer s H E sc f N) bo (t E)) : PE X (.Lambda pa bo sc pos) (tLamV X k t) := by
  constructor
  intro pins s σ H Q I h
  exact make_lamT I tB hcode hm hu h.1 hdef (L.has I.ok) fun f N o H1 s' J tn T1 hf hφ hN => ⟨.ref f, _, J, rfl, h.2 H1 tn T1 _ f N o ⟨pa, bo, sc, rfl, L, hbind, hbody⟩ hf (by
    obtain ⟨pm, ct, rfl⟩ := hφ
    exact fun _ z => nomatch z) hφ hN⟩
end

section
variable {X : Cx} {pins : List (Addr × Obj)} {σ : L2.St} {H : Hp} {s : Shared}
/-- the def that got a kept lambda calls it -/
theorem pe_actK {Eg : XK} {Ng : List Str} {qg : Str} {sg : Scope} {g f N : Addr} {cdg : Value} {pa : Arguments} {bo : Expr} {scl : Scope} {k i : Nat} {a : Str} {pn : List (Addr × Obj)} {xe : Value → Shared → Prop} {W : WX} {E : XK} {tb : TE} {p1 p2 : Pos} {o : HO}
    (J : L2.Inv X pins σ H s) (L : LamX.LamS X.env.scope scl) (ho : (lamD X pa bo scl).φ f N o) (hbind : ∀ (q : Str) (cl : List (Str × Addr)) (pm cv ctv : Value), bindArgs (PySem.W.kla_fn "<lambda>" q pa bo scl cl pm cv ctv) ⟨[], []⟩ = pure [])
    (tk : Takes ((cxOf C8.CX0 X.prog X.w X.K X.mg X.base Ng qg sg g cdg X.A X.stack s H Eg).tr pn xe) W) (hW : ∀ cls d σ' H', E cls d H' → W cls d σ' H') (hr : Room (k + 1) (X.A.deeper (envOfC qg sg s.heap.objs.size g cdg)))
    (hbody : ∀ (A : Around) (outer : List Env) (s : Shared) (H : Hp), Room k (A.deeper (LamX.lamEnv X scl s.heap.objs.size f N)) → PE (LamX.lamCx X A outer s H E scl f N) bo tb)
    (hNg : Ng[i]? = some a) (hv : Vis sg a) (hd : (a == ("__debug__" : Str)) = false) (hcd : (a == ("__classdict__" : Str)) = false) :
    PE ((cxOf C8.CX0 X.prog X.w X.K X.mg X.base Ng qg sg g cdg X.A X.stack s H Eg).tr pn xe) (.Call (.Name a p1) [] [] p2)
      (fun σZ HZ Q => σZ[i]? = some (some (.ref f)) ∧ HZ N = some (LamX.CodeO N (X.env.qual ++ "<lambda>")) ∧ HZ f = some o ∧ tb σ HZ Q) := by
  obtain ⟨pm, ctv, rfl⟩ := ho
  constructor
  intro pinsZ sZ σZ HZ Q IZ h
  obtain ⟨hs, hco, hfo, ht⟩ := h
  apply wpAny_Call_Name_kw
  refine thn ((pe_var (pos := p1) (i := i) hNg hv hd hcd).run pinsZ sZ σZ HZ (fun v H1 => v = .ref f ∧ H1 = HZ) IZ ⟨.ref f, hs, rfl, rfl⟩) ?_
  rintro u s1 ⟨v, H1, J1, rv, rfl, rfl⟩
  cases rv
  have obj : s1.heap.get? f = some (PySem.W.kla_obj "<lambda>" (X.env.qual ++ "<lambda>") pa bo scl (cloFrom X.env.cells scl.names []) pm N ctv) := (J1.hok f _ hfo).1
  apply PySem.W.callWith_F0 ⟨_, _, _, _, obj⟩
  have past : Un (frs X.stack) [] H H1 s.heap s1.heap := J1.base
  obtain ⟨⟨oc, vs, t, hoc, hdc, hvc⟩, _, _⟩ := J1.hok N _ hco
  have done : codeAny (model X.prog X.w) (X.A.deeper (envOfC qg sg s.heap.objs.size g cdg)) (.call (.ref f) ⟨[], []⟩) (CR (L2.CX X.prog X.w) (envOfC qg sg s.heap.objs.size g cdg :: X.stack) X.prog X.w H1 s1 Q E) s1 := by
    apply PySem.W.kla_callFunE hr.depth obj rfl L.co L.gen rfl ⟨N, oc, vs, t, rfl, hoc, hdc, hvc⟩
    rw [hbind]
    apply wpAny_pure
    refine wpAny_newFunctionEnv (fun y hy => (L.own y hy).2) (fun y hy => absurd hy (by simp)) (fun h₁ hns hsb => ⟨J1.nolimit.fresh _ hsb, ?_⟩) L.kind
    show codeAny _ _ (.expr bo (LamX.lamEnv X scl s1.heap.objs.size f N)) _ _
    have kept : ∀ b ob, s1.heap.get? b = some ob → h₁.get? b = some ob := fun b ob e => hsb.extBut b ob (Nat.ne_of_lt (Heap.lt_size e)) (Heap.get?_push_of_some _ e)
    have start : L2.Inv (LamX.lamCx X (X.A.deeper (envOfC qg sg s.heap.objs.size g cdg)) (envOfC qg sg s.heap.objs.size g cdg :: X.stack) s1 H1 E scl f N) [] σ H1 { s1 with heap := h₁, toks := s1.toks + ([] : List (Str × Value)).length } :=
      LamX.lam_start2 J L J1.env0 hr.hd past hns kept
    apply PySem.W.kla_codeExpr
    refine wpAny_mono ((hbody _ _ s1 H1 (hr.deeper _)).run [] _ _ H1 Q start ht) (fun v s' hq => ?_) fun _ _ z => z
    obtain ⟨w', H', J', rv, q⟩ := hq
    exact ⟨w', H', J'.os, J'.bare, J'.base, J'.hok, rv, q⟩
  have out : Passes (L2.CX X.prog X.w) ((cxOf C8.CX0 X.prog X.w X.K X.mg X.base Ng qg sg g cdg X.A X.stack s H Eg).tr pn xe) E := passes_call tk hW
  apply wpAny_call
  refine codeAny_mono done ?_
  intro r s' hq
  match r, hq with
  | .error e, hq => exact out pinsZ σZ H1 s1 e s' J1 hq
  | .ok (.ret u), hq => exact J1.after hq
  | .ok .next, hq => exact False.elim hq
  | .ok .brk, hq => exact False.elim hq
  | .ok .cont, hq => exact False.elim hq
end
/-- the def x takes a kept lambda and reads it as TT says -/
def Gk (P : Program) (w : World) (K : PySem.W.Frag) (mg : Str → Option Value) (base : Heap) (x : Str) (TT : (XK → Hp → VK → Prop) → Hp → VK → Prop) : Prop :=
  ∃ (a : Str) (st : Stmt) (Ng : List Str), Df K mg x st [a] ∧ FnScope Ng [a] (defScope st) ∧ Ng[0]? = some a ∧ Vis (defScope st) a ∧ GivesR P w K mg base Ng x (defScope st) (defBody st) a TT ∧ (a == ("__debug__" : Str)) = false ∧ (a == ("__classdict__" : Str)) = false
/-- [x(y) for y in l], l a list of kept lambdas: the turns from the i-th on -/
def tSdL (X : Cx) (k : Nat) (TT : (XK → Hp → VK → Prop) → Hp → VK → Prop) (σw : L2.St) (D a : Addr) : Nat → List (XK → TE) → List V → Hp → VK → Prop
  | i, [], _, H, Q => (∃ xs, SqL X.K H a xs ∧ xs.length ≤ i) ∧ Q (.ref D) H
  | i, t :: ts, acc, H, Q => ∃ xs d f N o, SqL X.K H a xs ∧ xs[i]? = some (.ref f) ∧ IsLam X k t d ∧ d.φ f N o ∧ H N = some (LamX.CodeO N d.q) ∧ H f = some o ∧
      TT (fun E H' Q' => H' f = some o ∧ t E σw H' Q') H fun v H' => H' D = some (.lst acc) ∧ acc.length < sizeLine ∧ tSdL X k TT σw D a (i + 1) ts (acc ++ [v]) (upd H' D (.lst (acc ++ [v]))) Q
def tSaid (X : Cx) (k : Nat) (TT : (XK → Hp → VK → Prop) → Hp → VK → Prop) (iy j : Nat) : TE := fun σ H Q =>
  ∃ (ts : List (XK → TE)) (a : Addr), σ[j]? = some (some (.ref a)) ∧ (∃ xs, SqL X.K H a xs) ∧ ∀ D, H D = none → tSdL X k TT (σ.set iy none) D a 0 ts [] (upd H D (.lst [])) Q
section
variable {X : Cx}
/-- a kept lambda is handed to x, in a comprehension's block -/
theorem blk_said {k iy : Nat} {y sd : Str} {TT : (XK → Hp → VK → Prop) → Hp → VK → Prop} {t : XK → TE} {d : LamD} {f N : Addr} {o : HO} {p1 p2 p3 : Pos} {XB : Cx} {pins pinsB : List (Addr × Obj)} {σ σB : L2.St} {H : Hp} {s : Shared} {Q : VK}
    (c : Gk X.prog X.w X.K X.mg X.base sd TT) (hr : Room (k + 4) X.A) (eA : XB.A = X.A) (eS : XB.stack = X.stack) (eP : XB.prog = X.prog) (eW : XB.w = X.w) (eK : XB.K = X.K) (em : XB.mg = X.mg) (eB : XB.base = X.base)
    (hy : PE XB (.Name y p2) (tVar iy)) (hgl : Gl XB sd) (hdb : (sd == ("__debug__" : Str)) = false) (I : L2.Inv XB pinsB σB H s) (outer : ∀ s', L2.Inv XB pinsB σB H s' → L2.Inv X pins σ H s')
    (hs : σB[iy]? = some (some (.ref f))) (hd : IsLam X k t d) (ho : d.φ f N o) (hN : H N = some (LamX.CodeO N d.q)) (hf : H f = some o) (h : TT (fun E H' Q' => H' f = some o ∧ t E σ H' Q') H Q) :
    wpAny (model XB.prog XB.w) XB.A (eval (.Call (.Name sd p1) [.Name y p2] [] p3) XB.env) (EP XB pinsB σB Q) XB.xe s := by
  obtain ⟨a, st, Ng, ⟨g, fd, Fn, hm, hb, _⟩, sc, hNg, hva, G, hda, hca⟩ := c
  obtain ⟨oc, od, kV, doc, pm, an, cdv, ct, osl, rfl, lk, hcg⟩ := Fn.ex
  obtain ⟨pa, bo, scl, rfl, L, hbind, hbody⟩ := hd
  have kp : PySem.W.keepIn XB.K (.ref g) = true := by rw [eK]; exact Fn.kp
  apply wpAny_Call_Name_kw
  refine ld_glob I hgl (by rw [em]; exact hm) (PySem.W.callWith_K (h₀ := XB.base) I.ok.mod.kin kp (thn ((pa_cons hy pa_nil).run p3 pinsB s σB H (fun vs H1 => vs = [.ref f] ∧ H1 = H) I ⟨_, hs, rfl, rfl⟩) ?_) (by rfl) (by rfl)) hdb
  rintro us s2 ⟨vs, H2, I2, rv, rfl, rfl⟩
  have J := outer s2 I2
  refine ⟨I2.kIn, wpAny_call ?_⟩
  have ran : codeAny (model X.prog X.w) X.A (.call (.ref g) ⟨us, []⟩) (CR C8.CX0 X.stack X.prog X.w H2 s2 Q C8.E0) s2 := by
    apply LamX.run_ofS (N := Ng) (ps := [a]) (us := us) (vs := [.ref f]) (k := k + 3) lk hcg sc hr J.env0 (by
      obtain ⟨u, rfl, ru⟩ := rv.one
      exact hb s2 [u] J.kIn rfl) rv rfl
    intro hr'
    obtain ⟨t', ht', hq'⟩ := G X g cdv (X.env.qual ++ "<lambda>") s2 H2 rfl rfl rfl rfl rfl (hr'.mono (by omega)) f N Q (fun E H' Q' => H' f = some o ∧ t E σ H' Q')
      (fun W pn xe E q1 q2 tk hW => pe_actK (k := k) (i := 0) J L ho hbind tk hW (hr'.mono (by omega)) (fun A outer s H hr2 => hbody A outer s H E f N hr2) hNg hva hda hca) hN h
    exact ⟨t', ht'.nox, hq'⟩
  rw [← eP, ← eW, ← eA, ← eS] at ran
  refine codeAny_mono ran ?_
  intro r s3 hq
  match r, hq with
  | .error e, hq => exact (show False from hq).elim
  | .ok (.ret u), hq => exact I2.after hq
  | .ok .next, hq => exact False.elim hq
  | .ok .brk, hq => exact False.elim hq
  | .ok .cont, hq => exact False.elim hq
theorem wipe_one (σ : L2.St) (i : Nat) : L2.wipe σ [i] = σ.set i none := rfl
/-- [x(y) for y in l] -/
theorem pe_saidL {k j iy : Nat} {y sd : Str} {TT : (XK → Hp → VK → Prop) → Hp → VK → Prop} {iter : Expr} {scope : Scope} {pos p1 p2 p3 p4 : Pos} (c : Gk X.prog X.w X.K X.mg X.base sd TT) (hr : Room (k + 4) X.A) (hcalm : X.calm = true) (hN : X.N.Nodup)
    (hl : PE X iter (tVar j)) (ok : BlkOk X.N X.env.scope scope [(y, iy)]) (hg : ∀ (s : Shared) (H : Hp) (C : Addr) (cl : List (Str × Addr)) (fp : List Addr), PG (X.blk s H scope (compEnvC scope cl C X.env) fp) (.Name y p4) (gName iy))
    (hy : ∀ (s : Shared) (H : Hp) (C : Addr) (cl : List (Str × Addr)) (fp : List Addr), PE (X.blk s H scope (compEnvC scope cl C X.env) fp) (.Name y p2) (tVar iy))
    (hgl : ∀ (s : Shared) (H : Hp) (C : Addr) (cl : List (Str × Addr)) (fp : List Addr), Gl (X.blk s H scope (compEnvC scope cl C X.env) fp) sd) (hdb : (sd == ("__debug__" : Str)) = false := by decide)
    (hfold : ∀ v, foldedSetIterable iter X.env v = pure v := by intro _; rfl) :
    PE X (.ListComp (.Call (.Name sd p1) [.Name y p2] [] p3) [⟨.Name y p4, iter, [], 0⟩] scope pos) (tSaid X k TT iy j) := by
  constructor
  intro pins s σ H Q I h
  obtain ⟨ts, a, ha, hsq, h⟩ := h
  rw [eval_ListComp]
  have caught : ∀ z ∈ scope.names, z.2 = .free → ∃ q, X.env.cells.lookup z.1 = some q := fun z hz e => by
    cases ok.free z hz e with
    | inl q => exact I.ok.has _ (.inl q)
    | inr q => exact I.ok.has _ (.inr q)
  have walks := (pi_list (tg := .Name y p4) hl).run pins s σ H (fun J H1 => J = Itl X.K a ∧ H1 = H) I ⟨.ref a, ha, a, rfl, hsq, rfl, rfl⟩
  refine wpAny_comprehension_free (use := none) rfl hfold (closure_ok caught) ok.kind (fun z hz e => by rw [ok.uniq z hz, e]) (thn walks fun lv s1 h1 => thn h1 fun itv s2 h2 => ?_)
  obtain ⟨it, fp, tn, J, H2, rfl, I2, T, st2, f2, rfl, rfl⟩ := h2
  refine wpAny_newObj_type (newEnv_comp ?_) (Nat.zero_le _)
  generalize eD : s2.heap.objs.size = D
  have nD : H2 D = none := I2.hok.fresh (Nat.le_of_eq eD)
  have rd := h D nD
  generalize e3 : ({ s2 with heap := s2.heap.push { cls := .type "list", data := .seq ([] : List Value).toArray } } : Shared) = s3
  have h3 : s3.heap = s2.heap.push { cls := .type "list", data := .seq ([] : List Value).toArray } := by rw [← e3]
  have I3 : L2.Inv X pins σ (upd H2 D (.lst [])) s3 := by
    subst e3
    refine I2.laid (t' := s2.toks) (fun b ob e => Heap.get?_push_of_some _ e) (Nat.le_of_eq eD) ⟨Nat.zero_le _, [], 0, .nil, ?_⟩
    subst eD
    exact Heap.get?_push_size _ rfl
  generalize eH : upd H2 D (.lst []) = H3 at I3 rd
  have young : ∀ b ∈ fp, b < s2.heap.objs.size := fun b hb => by
    obtain ⟨ob, e, _⟩ := T.obj _ _ st2 b hb
    exact Heap.lt_size e
  have f3 : ∀ b ∈ fp, FpOk X pins H3 b ∧ b < s3.heap.objs.size := fun b hb => by
    have lt := young b hb
    refine ⟨⟨?_, (f2 b hb).2⟩, by rw [h3, Heap.size_push]; exact Nat.lt_succ_of_lt lt⟩
    subst eH
    rw [upd_ne (by subst eD; exact Nat.ne_of_lt lt)]
    exact (f2 b hb).1
  have st3 : tn 0 s3.heap := T.keep _ _ _ st2 fun b _ ob e => by rw [h3]; exact Heap.get?_push_of_some _ e
  have I4 := block_start I3 ok hN f3
  have pg := hg s3 H3 s3.heap.objs.size (cellsFrom (s3.heap.objs.size + 1) scope.names (cloFrom X.env.cells scope.names [])) fp
  have py := hy s3 H3 s3.heap.objs.size (cellsFrom (s3.heap.objs.size + 1) scope.names (cloFrom X.env.cells scope.names [])) fp
  have gl := hgl s3 H3 s3.heap.objs.size (cellsFrom (s3.heap.objs.size + 1) scope.names (cloFrom X.env.cells scope.names [])) fp
  show codeAny _ _ (.compStart _ 0 (.ref it) (.ref D) (compEnvC scope (cellsFrom (s3.heap.objs.size + 1) scope.names (cloFrom X.env.cells scope.names [])) s3.heap.objs.size X.env)) (compPost (model X.prog X.w) X.A X.xe none (EP X pins σ Q) (.ref D) s3.heap.objs.size) { s3 with heap := pushCells (s3.heap.push { cls := .type "dict", data := .dict #[] }) scope.names }
  generalize ee : compEnvC scope (cellsFrom (s3.heap.objs.size + 1) scope.names (cloFrom X.env.cells scope.names [])) s3.heap.objs.size X.env = ce at I4 pg py gl ⊢
  have loc : ce.locals = s3.heap.objs.size := by subst ee; rfl
  generalize e4 : ({ s3 with heap := pushCells (s3.heap.push { cls := .type "dict", data := .dict #[] }) scope.names } : Shared) = s4 at I4 ⊢
  have st4 : tn 0 s4.heap := T.keep _ _ _ st3 fun b _ ob e => by subst e4; exact pushCells_keeps _ _ _ _ (Heap.get?_push_of_some _ e)
  have n4 : ∀ b ∈ fp, H3 b = none := fun b hb => (f3 b hb).1.1
  have mine : ∀ {σ' : L2.St} {H' : Hp} {s' : Shared}, L2.Inv (X.blk s3 H3 scope ce fp) [] σ' H' s' → (∀ b ∈ fp, H' b = none) → ∀ b ∈ fp, FpOk (X.blk s3 H3 scope ce fp) [] H' b := fun {σ' H' s'} I' hn b hb =>
    ⟨hn b hb, (I'.ok.exf b hb).1, I'.ok.exfs b hb, .inl hb, fun z q e => (I'.ok.exf b hb).2 z q e, fun p hp => absurd (show p ∈ ([] : List (Addr × Obj)) ++ [] from hp) (by simp)⟩
  -- the frame of the def itself, at any state within the block
  have outer : ∀ {pb : List (Addr × Obj)} {σ' : L2.St} {H' : Hp} {s' : Shared}, L2.Inv (X.blk s3 H3 scope ce fp) pb σ' H' s' → L2.Inv X pins σ H' s' := fun {pb σ' H' s'} I' =>
    I3.call' (ch := fp) I'.os I'.base I'.hok I'.bare fun b hb => ⟨(f3 b hb).1.2.2.2.1, (f3 b hb).1.2.1, (f3 b hb).1.2.2.2.2.1, (f3 b hb).1.2.2.2.2.2⟩
  have less : ∀ {H' : Hp} {s' : Shared}, L2.Inv X pins σ H' s' → L2.Inv X pins (σ.set iy none) H' s' := fun {H' s'} I' =>
    I'.weak (List.length_set ..) fun i v e => (wipe_some (vs := [iy]) e).1
  have hlen : iy < σ.length := by
    have h1 := ok.ix (y, iy) List.mem_cons_self
    have h2 := (List.getElem?_eq_some_iff.mp h1).1
    rw [I.len]
    exact h2
  have loop : codeAny (model X.prog X.w) X.A (.compLoop (.ListComp (.Call (.Name sd p1) [.Name y p2] [] p3) [⟨.Name y p4, iter, [], 0⟩] scope pos) 0 (.ref it) (.ref D) ce) (compPost (model X.prog X.w) X.A X.xe none (EP X pins σ Q) (.ref D) s3.heap.objs.size) s4 := by
    refine compLoop_any (fun n s' => ∃ i acc us H', us.length = n ∧ L2.Inv (X.blk s3 H3 scope ce fp) [] (σ.set iy none) H' s' ∧ tn i s'.heap ∧ (∀ b ∈ fp, H' b = none) ∧ tSdL X k TT (σ.set iy none) D a i us acc H' Q) ?_ ts.length ⟨0, [], ts, H3, rfl, I4, st4, n4, rd⟩
    rintro n s5 ⟨i, acc, us, H5, rfl, I5, st5, n5, w5⟩
    cases us with
    | nil =>
      obtain ⟨⟨xs, hx, hle⟩, q⟩ := w5
      refine thnF (T.done (X.blk s3 H3 scope ce fp) rfl rfl rfl hcalm i [] s5 _ H5 (fun _ _ => False) I5 (mine I5 n5) st5 ⟨xs, hx, hle⟩) ?_
      rintro r s6 ⟨rfl, I6⟩
      have I7 := outer I6
      have free : H5 s3.heap.objs.size = none := by
        have z : H5 ce.locals = none := I6.free
        rwa [loc] at z
      obtain ⟨m, hn, _⟩ := I6.loc
      have hn : s6.heap.Ns ce.locals m := hn
      rw [loc] at hn
      obtain ⟨g0, g1, g2, g3, g4, g5⟩ := I3.fpOk (Nat.le_refl _) free
      exact ⟨m, hn, fun h'' sb => ⟨.ref D, H5, I7.turned (t' := s6.toks) (fun b ob hb e => (sb.2 b hb).trans e) g0 g1 g3 g4 g5, rfl, q⟩⟩
    | cons t us =>
      obtain ⟨xs, d, f, N, o, hx, hxi, hd, ho, hcN, hf, w⟩ := w5
      refine thnF (T.item (X.blk s3 H3 scope ce fp) rfl rfl rfl hcalm i [] s5 _ H5 (fun _ _ => False) I5 (mine I5 n5) st5 ⟨xs, _, hx, hxi⟩) ?_
      rintro r s6 ⟨u, rfl, h6⟩
      refine thnF h6 ?_
      rintro _ s7 ⟨x, H7, I7, r7, ⟨rfl, y7⟩, st7, n7⟩
      obtain rfl : x = .ref f := by
        have := y7 xs hx
        rw [hxi] at this
        exact (Option.some.inj this).symm
      have I7' := I7.pinned (mine I7 n7) (T.obj _ _ st7)
      refine thnF (pg.run _ s7 _ H7 _ u (fun σ' H' => σ' = (σ.set iy none).set iy (some (.ref f)) ∧ H' = H7) I7' r7 ⟨rfl, rfl⟩) ?_
      rintro _ s8 ⟨σ8, H8, I8, rfl, rfl⟩
      apply wpAny_tests_nil
      show if true = true then _ else _
      rw [if_pos rfl]
      have slot : ((σ.set iy none).set iy (some (V.ref f)))[iy]? = some (some (.ref f)) := List.getElem?_set_self (by rw [List.length_set]; exact hlen)
      refine thnF (blk_said (XB := X.blk s3 H3 scope ce fp) (σ := σ.set iy none) c hr rfl rfl rfl rfl rfl rfl rfl py gl hdb I8 (fun s' I' => less (outer I')) slot hd ho hcN hf w) ?_
      rintro z s9 ⟨v, H9, I9, r9, hD, hz, w9⟩
      refine app_ok (X := X.blk s3 H3 scope ce fp) I9 hD hz r9 fun s10 I10 => ?_
      have pinned : ∀ b ∈ fp, ∀ ob, s7.heap.get? b = some ob → s10.heap.get? b = some ob ∧ (upd H9 D (.lst (acc ++ [v]))) b = none := fun b hb ob e =>
        let q := I10.pin (b, ob) (List.mem_append_right _ (List.mem_append_right _ (mem_pinsAt hb e)))
        ⟨q.1, q.2.1⟩
      refine ⟨us.length, Nat.lt_succ_self _, i + 1, acc ++ [v], us, _, rfl, (I10.unpinned (pins := [])).weak ?_ (fun m u e => ?_), T.keep _ _ _ st7 fun b hb ob e => (pinned b hb ob e).1, fun b hb => ?_, w9⟩
      · rw [List.length_set, List.length_set, List.length_set]
      · by_cases q : iy = m
        · subst q
          rw [List.getElem?_set_self hlen] at e
          cases e
        · rw [List.getElem?_set_ne q]
          exact e
      · obtain ⟨ob, e, _⟩ := T.obj _ _ st7 b hb
        exact (pinned b hb ob e).2
  exact codeAny_compStart_list loop (T.self X.A 0 _ _ _ st4 loop)
end
/-! ### what is read of them -/
def IsLams (X : Cx) (k : Nat) : List (XK → TE) → List LamD → Prop
  | [], [] => True
  | t :: ts, d :: ds => IsLam X k t d ∧ IsLams X k ts ds
  | _, _ => False
def SLs (S : Sx) (ρ : List Sl) : List (XK → TE) → List (M D) → Prop
  | [], [] => True
  | t :: ts, m :: ms => (∀ E, SE ⟨S.K, S.mg, E⟩ (t E) ρ m) ∧ SLs S ρ ts ms
  | _, _ => False
section
variable {S : Sx} {own : Bool} {ρ : List Sl} {T L : Type} {enc : T → List Sl} {encL : L → List Sl} {tb : TS}
theorem il_nil {X : Cx} {k : Nat} : IsLams X k [] [] := trivial
theorem il_cons {X : Cx} {k : Nat} {t : XK → TE} {ts : List (XK → TE)} {d : LamD} {ds : List LamD} (h : IsLam X k t d) (r : IsLams X k ts ds) : IsLams X k (t :: ts) (d :: ds) := ⟨h, r⟩
theorem sl_nil : SLs S ρ [] [] := trivial
theorem sl_cons {t : XK → TE} {ts : List (XK → TE)} {m : M D} {ms : List (M D)} (h : ∀ E, SE ⟨S.K, S.mg, E⟩ (t E) ρ m) (r : SLs S ρ ts ms) : SLs S ρ (t :: ts) (m :: ms) := ⟨h, r⟩
theorem codeO_N {W : Wd} {H : Hp} {N : Addr} {q : Str} (w : WOk W H) (e : H N = some (LamX.CodeO N q)) : W.N N = none := by
  cases z : W.N N with
  | none => rfl
  | some φ =>
    obtain ⟨_, o, h1, h2⟩ := w.pen N φ z
    rw [e] at h1
    cases h1
    cases φ with
    | pen k =>
      cases k with
      | false =>
        obtain ⟨x, y, e1, _⟩ := h2
        unfold LamX.CodeO at e1
        cases e1
      | true =>
        obtain ⟨x, b, n, y, e1, _⟩ := h2
        unfold LamX.CodeO at e1
        cases e1
    | tab =>
      obtain ⟨ps, e1⟩ := h2
      exact (LamX.codeO_ne ps e1).elim
    | memo K i =>
      obtain ⟨kvs, ds, e1, _⟩ := h2
      unfold LamX.CodeO at e1
      cases e1
/-- a lambda has been made, to be kept -/
theorem lam_kept {X : Cx} {k : Nat} {t : XK → TE} {W : Wd} {H : Hp} {Q : VK} {σ : L2.St} (w : WOk W H) (h : ∀ d f W' H', IsLam X k t d → Step W H W' H' → H f = none → (∃ N o, W'.P f = some o ∧ d.φ f N o ∧ H' N = some (LamX.CodeO N d.q) ∧ W'.N N = none) → Q (.ref f) H') : tLamV X k t σ H Q := by
  refine ⟨w.tab, fun H1 tn t1 d f N o hd hf hb hφ hN => ?_⟩
  have s1 := step_turns w tn t1
  have s2 := Step.dat s1.ok hf hb
  have nf : N ≠ f := fun z => by rw [z, hf] at hN; cases hN
  have cN : (upd H1 f o) N = some (LamX.CodeO N d.q) := by rw [upd_ne nf]; exact hN
  refine h d f _ _ hd (s1.trans w s2) (s1.free0 w hf) ⟨N, o, upd_same, hφ, cN, codeO_N s2.ok cN⟩
/-- l = [lambda: ..] -/
theorem ss_lamset {X : Cx} {k i : Nat} {t : XK → TE} {m : M (Fl T L)} (hb : ∀ ld, IsLam X k t ld → SS S own tb (ρ.set i (.ob (.lam [ld]))) enc encL m) : SS S own (tSeq (tAsg (tLst (tCons (tLamV X k t) tNil)) (gName i)) tb) ρ enc encL m := fun Wf W0 H0 W H σ D w n q => by
  show tLamV X k t σ H (fun x H1 => tNil σ H1 fun xs H2 => (x :: xs).length ≤ sizeLine ∧ ∀ p, H2 p = none → gName i (.ref p) σ (upd H2 p (.lst (x :: xs))) (tb D))
  refine lam_kept n.ok fun d f W1 H1 hd s1 hf ⟨N, o, h1, h2, h3, h4⟩ => ?_
  refine ⟨Nat.le_of_ble_eq_true rfl, fun p hp => ?_⟩
  have s2 := Step.raw s1.ok (o := .lst [.ref f]) hp
  have s3 := s1.trans n.ok s2
  have np : N ≠ p := fun z => by rw [z, hp] at h3; cases h3
  refine hb d hd Wf W0 H0 W1 _ _ D w ⟨(n.env.step s3).setOb i upd_same (nopen s1.ok hp).1 (nopen s1.ok hp).2 (n.st.free0 w (s1.free0 n.ok hp)) (.lam ⟨⟨f, N, o, rfl, h1, h2, by rw [upd_ne np]; exact h3, h4⟩, trivial⟩) fun j es _ hj hs => ?_, s2.ok, n.st.trans w s3, n.fl.trans s1.le⟩ q
  obtain ⟨b, us, g1, g2, _⟩ := n.env.ow j es hj
  rw [g1] at hs
  cases hs
  rw [s1.free0 n.ok hp] at g2
  cases g2
/-- l.append(lambda: ..) -/
theorem ss_lamapp {X : Cx} {k i : Nat} {t : XK → TE} {lds : List LamD} {m : M (Fl T L)} (hi : ρ[i]? = some (.ob (.lam lds))) (hl : lds.length ≤ 1000) (hb : ∀ ld, IsLam X k t ld → SS S own tb (ρ.set i (.ob (.lam (lds ++ [ld])))) enc encL m) :
    SS S own (tSeq (tDrop (tBM S.K "list" rAppend (tVar i) (tCons (tLamV X k t) tNil))) tb) ρ enc encL m := fun Wf W0 H0 W H σ D w n q => by
  obtain ⟨a, u, h1, h2, h3, h4, h5, h6⟩ := n.env.ow i _ hi
  cases h6 with
  | @lam vs _ r =>
  refine ⟨_, h1, .inl ⟨rfl, _, .inl (.inl h2)⟩, ?_⟩
  show tLamV X k t σ H _
  refine lam_kept n.ok fun d f W1 H1 hd s1 hf ⟨N, o, g1, g2, g3, g4⟩ => ?_
  have n1 := n.step w s1
  obtain ⟨b, u', f1, f2, f3, f4, f5, f6⟩ := n1.env.ow i _ hi
  rw [h1] at f1
  cases f1
  have e2 := s1.old a _ h2 h4
  rw [e2] at f2
  cases f2
  cases f6 with
  | lam r1 =>
  refine ⟨a, vs, .ref f, rfl, rfl, e2, Nat.lt_of_le_of_lt (by rw [r1.len]; exact hl) (by decide), ?_⟩
  have up := HoR.upd (K := S.K) (o' := .lst (vs ++ [.ref f])) (soft_lst e2) (.lam (LamsR.snoc ⟨f, N, o, rfl, g1, g2, g3, g4⟩ r1))
  exact hb d hd Wf W0 H0 W1 _ σ D w (n1.putOb hi h1 f3 f4 f5 (soft_lst e2) (fun _ z => nomatch z) up) q
variable {xs : List Str} {F : Str → List D → M D}
theorem said_tt {r : M D} {t : XK → TE} {W : Wd} {H H0 : Hp} {σ : L2.St} {Q : VK} {E' : Exn → Prop} {f : Addr} {o : HO} (h : ∀ E, SE ⟨S.K, S.mg, E⟩ (t E) ρ r) (en : EnvR S.K W H H0 σ ρ) (w : WOk W H) (hf : W.P f = some o) (q : (saidM xs F r).run (Post S.K Q W H) E') :
    TTsaid S.K S.mg xs F (fun E H' Q' => H' f = some o ∧ t E σ H' Q') H Q := by
  refine ⟨w.sub _ _ hf, h _ σ H W H0 _ en w (r.mono (fun d hd => ?_) (fun e he => ?_) q)⟩
  · intro v W' H' s' _
    exact hd _ _ _ s' (.str _)
  · rintro cv dx W' H' s' ⟨C, hC, rfl, hx⟩
    obtain ⟨e2, e3⟩ := he
    refine ⟨xrep_dict (mg := S.mg) (C := C) s'.ok hx, W', e.cls, C, s'.ok, e2, hC, rfl, fun a => (F _ _).mono (fun dd ⟨w1, hd1, hd2⟩ => ⟨w1, hd1, hd2.imp (fun z => ⟨z.1, fun W'' H'' v s'' rv => z.2 v W'' H'' (s'.trans w s'') rv⟩) (fun ⟨i, j, z1, z2, z3, z4⟩ => ?_)⟩) (fun _ z => z) (e3 a)⟩
    rw [z3] at hx
    obtain ⟨d, fs, f1, f2, f3, f4⟩ := hx
    exact ⟨z1, z2, i, j, d, fs, f1, f2, f3, f4, fun W'' H'' v s'' rv => z4 v W'' H'' (s'.trans w s'') rv⟩
theorem saidL_cons (m : M D) (ms : List (M D)) : saidL xs F (m :: ms) = saidM xs F m >>= fun d => saidL xs F ms >>= fun ds => pure (d :: ds) := rfl
theorem said_loop {X : Cx} {k : Nat} {W : Wd} {H H0 : Hp} {σ : L2.St} {Q : VK} {D a : Addr} {vs : List V} {E' : Exn → Prop} (hK : X.K = S.K) (w : WOk W H) (hD : H D = none) (nD : D ≠ a) (out : ∀ (j : Nat) (c : OwnC), ρ[j]? = some (.ob c) → σ[j]? ≠ some (some (.ref D))) :
    ∀ {ts : List (XK → TE)} {ms : List (M Ev.D)} {ds : List LamD} {us pre acc : List V} {W' : Wd} {H' : Hp} {accd : List Ev.D}, vs = pre ++ us → IsLams X k ts ds → LamsR W' H' us ds → SLs S ρ ts ms → Step W H W' H' → EnvR S.K W' H' H0 σ ρ →
      H' a = some (.lst vs) → W'.P a = none → W'.N a = none → H' D = some (.lst acc) → W'.P D = none → W'.N D = none → Reps S.K W' acc accd → accd.length + ms.length ≤ 1000 →
      (saidL xs F ms).run (fun es => PostO S.K Q W H (accd ++ es)) E' → tSdL X k (TTsaid S.K S.mg xs F) σ D a pre.length ts acc H' Q := by
  intro ts
  induction ts with
  | nil =>
    intro ms ds us pre acc W' H' accd hv il r sl st en a1 a2 a3 d1 d2 d3 rs hl q
    cases ds with
    | cons _ _ => exact il.elim
    | nil =>
    cases ms with
    | cons _ _ => exact sl.elim
    | nil =>
    cases us with
    | cons _ _ => exact r.elim
    | nil =>
    refine ⟨⟨vs, .inl (.inl a1), by rw [hv]; simp⟩, ?_⟩
    have q' : PostO S.K Q W H (accd ++ []) := q
    rw [List.append_nil] at q'
    exact q' D acc W' H' st hD d1 d2 d3 rs
  | cons t ts ih =>
    intro ms ds us pre acc W' H' accd hv il r sl st en a1 a2 a3 d1 d2 d3 rs hl q
    cases ds with
    | nil => exact il.elim
    | cons d ds =>
    cases ms with
    | nil => exact sl.elim
    | cons m ms =>
    cases us with
    | nil => exact r.elim
    | cons u us =>
    obtain ⟨⟨f, N, o, rfl, r1, r2, r3, r4⟩, r5⟩ := r
    rw [saidL_cons] at q
    have q : (saidM xs F m).run (fun e => (saidL xs F ms).run (fun es => PostO S.K Q W H (accd ++ (e :: es))) E') E' := q
    refine ⟨vs, d, f, N, o, .inl (.inl a1), by rw [hv]; simp, il.1, r2, r3, st.ok.sub _ _ r1, ?_⟩
    refine said_tt (E' := E') sl.1 en st.ok r1 ((saidM xs F m).mono (fun e he => ?_) (fun _ z => z) q)
    intro v W2 H2 s2 rv
    have keep : ∀ {b : Addr} {ws : List V}, H' b = some (.lst ws) → W'.P b = none → W'.N b = none → H2 b = some (.lst ws) ∧ W2.P b = none ∧ W2.N b = none := fun {b ws} h1 h2 h3 => by
      have nn : H' b ≠ none := by rw [h1]; intro z; cases z
      exact ⟨s2.old b _ h1 h3, (s2.newP b nn).trans h2, (s2.newN b nn).trans h3⟩
    obtain ⟨k1, k2, k3⟩ := keep d1 d2 d3
    obtain ⟨k4, k5, k6⟩ := keep a1 a2 a3
    rw [List.length_cons] at hl
    refine ⟨k1, Nat.lt_of_le_of_lt (show acc.length ≤ 1000 by rw [rs.length]; omega) (by decide), ?_⟩
    have w2 := s2.ok.put (us := acc ++ [v]) k2 k3 k1
    have s3 := st.trans w s2
    have s4 : Step W H W2 (upd H2 D (.lst (acc ++ [v]))) := ⟨s3.le, w2, fun b ob e1 e2 => by rw [upd_ne (ne_of_none e1 hD)]; exact s3.old b ob e1 e2, s3.newP, s3.newN⟩
    have hr : HoR S.K W2 (upd H2 D (.lst (acc ++ [v]))) (.lst us) (.lam ds) := ((HoR.lam (K := S.K) r5).step s2).upd (soft_lst k1)
    cases hr with
    | lam r6 =>
    have := ih (pre := pre ++ [.ref f]) (us := us) (acc := acc ++ [v]) (accd := accd ++ [e]) (by rw [hv]; simp) il.2 r6 sl.2 s4 ((en.step s2).updOut (soft_lst k1) out) (by rw [upd_ne (fun z => nD z.symm)]; exact k4) k5 k6 upd_same k2 k3 ((rs.mono s2.le).append (.cons rv .nil)) (by rw [List.length_append]; simp; omega)
      ((saidL xs F ms).mono (fun es he2 => by
        have he2 : PostO S.K Q W H (accd ++ (e :: es)) := he2
        rw [List.append_assoc]
        exact he2) (fun _ z => z) he)
    rw [List.length_append] at this
    exact this
/-- [x(y) for y in l], what is said of each -/
theorem so_saidL {X : Cx} {k iy j : Nat} {ts : List (XK → TE)} {ms : List (M D)} {lds : List LamD} (hK : X.K = S.K) (hj : ρ[j]? = some (.ob (.lam lds))) (hne : iy ≠ j) (hl : IsLams X k ts lds) (h : SLs S (ρ.set iy .no) ts ms) (hlen : ms.length ≤ 1000) : SO S (tSaid X k (TTsaid S.K S.mg xs F) iy j) ρ (saidL xs F ms) := fun σ H W H0 Q e w q => by
  obtain ⟨a, u, h1, h2, h3, h4, h5, h6⟩ := e.ow j _ hj
  cases h6 with
  | @lam vs _ r =>
  refine ⟨ts, a, h1, ⟨vs, .inl (.inl h2)⟩, fun D hD => ?_⟩
  have s1 := Step.raw w (o := .lst []) hD
  have ne : D ≠ a := fun z => by rw [z, h2] at hD; cases hD
  have nn : H a ≠ none := by rw [h2]; intro z; cases z
  have ew := (e.step s1).wipe [iy]
  have hr : HoR S.K W (upd H D (.lst [])) (.lst vs) (.lam lds) := (HoR.lam (K := S.K) r).step s1
  cases hr with
  | lam r1 =>
  refine said_loop (pre := []) (us := vs) (accd := []) (E' := XPost S W H) hK w hD ne (fun i c hc hs => ?_) rfl hl r1 h s1 ew (by rw [upd_ne (fun z => ne z.symm)]; exact h2) h3 h4 upd_same (nopen w hD).1 (nopen w hD).2 .nil (by simpa using hlen) q
  have hc' := (getElem?_set_no (show (ρ.set iy .no)[i]? = some (.ob c) from hc) (by intro z; cases z)).2
  obtain ⟨b, us, g1, g2, _⟩ := e.ow i c hc'
  have hs' : (σ.set iy none)[i]? = some (some (.ref D)) := hs
  have g3 := (wipe_some (vs := [iy]) hs').1
  rw [g1] at g3
  cases g3
  rw [hD] at g2
  cases g2
end
end Ev

namespace Ev
open PySem PySem.Spec PyProof.Rows L2
variable [Tb]
theorem WOk.freeP {W : Wd} {H : Hp} (w : WOk W H) {a : Addr} (h : H a = none) : W.P a = none := by
  cases z : W.P a with
  | none => rfl
  | some u => rw [w.sub a u z] at h; cases h
theorem WOk.freeN {W : Wd} {H : Hp} (w : WOk W H) {a : Addr} (h : H a = none) : W.N a = none := by
  cases z : W.N a with
  | none => rfl
  | some φ =>
    obtain ⟨o, e, _⟩ := (w.pen a φ z).2
    rw [e] at h; cases h
/-! ### what is popped off a list of one's own -/
section
variable {S : Sx} {own : Bool} {ρ : List Sl} {T L : Type} {enc : T → List Sl} {encL : L → List Sl} {tb : TS}
/-- a list of one's own, written -/
theorem Now.put {Wf W0 W : Wd} {H0 H : Hp} {σ : L2.St} {i : Nat} {ds ds' : List D} {a : Addr} {us us' : List V} (n : Now S Wf W0 H0 W H σ ρ) (hi : ρ[i]? = some (.own ds)) (h1 : σ[i]? = some (some (.ref a))) (h2 : H a = some (.lst us)) (r : Reps S.K W us' ds') :
    Now S Wf W0 H0 W (upd H a (.lst us')) σ (ρ.set i (.own ds')) := by
  have e1 := n.env
  obtain ⟨b, vs, g1, g2, g3, g4, g5, g6⟩ := e1.owL i ds hi
  rw [h1] at g1
  cases g1
  rw [h2] at g2
  cases g2
  have w1 : WOk W (upd H a (.lst us')) := n.ok.put g3 g4 h2
  have nP : ∀ b o, W.P b = some o → b ≠ a := fun b o e z => by subst z; rw [g3] at e; cases e
  refine ⟨⟨fun j d' hj => ?_, fun j es hj => ?_, fun j k es fs b hjk f1 f2 f3 => ?_, by rw [List.length_set, e1.ln]⟩, w1, ⟨n.st.le, w1, fun b o e hnn => ?_, n.st.newP, n.st.newN⟩, n.fl⟩
  · exact e1.dat j d' (getElem?_set_no hj (by intro z; cases z)).2
  · by_cases e : i = j
    · subst e
      rw [List.getElem?_set_self (List.getElem?_eq_some_iff.mp hi).1] at hj
      cases hj
      exact ⟨a, _, h1, upd_same, g3, g4, g5, .lst r⟩
    · rw [List.getElem?_set_ne e] at hj
      obtain ⟨b, zs, f1, f2, f3⟩ := e1.ow j es hj
      have nb : b ≠ a := fun z => by
        subst z
        exact e1.ap i j _ _ b e hi hj h1 f1
      exact ⟨b, zs, f1, by rw [upd_ne nb]; exact f2, f3.1, f3.2.1, f3.2.2.1, f3.2.2.2.upd (soft_lst h2)⟩
  · have get : ∀ {j : Nat} {es : OwnC}, (ρ.set i (.own ds'))[j]? = some (.ob es) → ∃ fs, ρ[j]? = some (.ob fs) := fun {j es} hj => by
      by_cases e : i = j
      · subst e; exact ⟨_, hi⟩
      · rw [List.getElem?_set_ne e] at hj; exact ⟨_, hj⟩
    obtain ⟨_, f1⟩ := get f1
    obtain ⟨_, f2⟩ := get f2
    exact e1.ap j k _ _ b hjk f1 f2 f3
  · rw [upd_ne (ne_of_none e g5)]
    exact n.st.old b o e hnn
theorem Reps.dropLast {K : PySem.W.Frag} {W : Wd} {vs : List V} {ds : List D} (r : Reps K W vs ds) : Reps K W vs.dropLast ds.dropLast := by
  rw [List.dropLast_eq_take, List.dropLast_eq_take, r.length]
  exact r.take _
theorem ss_pop {l : Nat} {g : TG} {ds : List D} {V' : Type} {tg : D → M V'} {ρ' : V' → List Sl} {js : List Nat} {k : V' → M (Fl T L)} (hl : ρ[l]? = some (.own ds)) (hg : SG S g (ρ.set l (.own ds.dropLast)) tg ρ' js) (hb : ∀ t, SS S own tb (ρ' t) enc encL (k t)) :
    SS S own (tSeq (tAsg (tBM0 S.K "list" rPop (tVar l)) g) tb) ρ enc encL (popM ds (fun d => tg d >>= k)) := fun Wf W0 H0 W H σ D w n q => by
  obtain ⟨a, vs, h1, h2, h3, h4, h5, h6⟩ := n.env.owL l ds hl
  refine ⟨_, h1, .inl ⟨rfl, _, .inl (.inl h2)⟩, ?_⟩
  unfold popM at q
  cases e : ds.getLast? with
  | none => rw [e] at q; exact (show False from q).elim
  | some d =>
    rw [e] at q
    rw [List.getLast?_eq_getElem?] at e
    obtain ⟨v, hv, rv⟩ := h6.get e
    rw [← h6.length] at hv
    refine ⟨a, vs, v, rfl, rfl, h2, hv, ?_⟩
    have n1 := n.put hl h1 h2 h6.dropLast
    refine hg d v σ _ W H0 _ _ n1.env n1.ok rv ((tg d).mono (fun t ht σ' e2 _ _ => ?_) (fun _ z => z) q)
    exact hb t Wf W0 H0 W _ σ' D w ⟨e2, n1.ok, n1.st, n1.fl⟩ ht
end
/-! ### memos -/
mutual
theorem rep_tupy {K : PySem.W.Frag} {W : Wd} : ∀ {v : V} {d : D}, Rep K W v d → d.tupy = true → Rep K (tupW W.P) v d
  | _, _, .non, _ => .non
  | _, _, .bl b, _ => .bl b
  | _, _, .int i, _ => .int i
  | _, _, .str x, _ => .str x
  | _, _, .tup h r, p => .tup (by
    rcases h with ⟨o, h, e⟩ | h
    · exact .inl ⟨o, tupP_of h, e⟩
    · exact .inr h) (reps_tupy r (by simpa [D.tupy] using p))
  | _, _, .lst _ _, p => by simp [D.tupy] at p
  | _, _, .dct _ _, p => by simp [D.tupy] at p
  | _, _, .pen _, p => by simp [D.tupy] at p
  | _, _, .mem _ _, p => by simp [D.tupy] at p
  | _, _, .obj _ _, p => by simp [D.tupy] at p
  | _, _, .scr _, p => by simp [D.tupy] at p
  | _, _, .fn _ _, p => by simp [D.tupy] at p
  | _, _, .raw _, p => by simp [D.tupy] at p
theorem reps_tupy {K : PySem.W.Frag} {W : Wd} : ∀ {vs : List V} {ds : List D}, Reps K W vs ds → D.tupys ds = true → Reps K (tupW W.P) vs ds
  | _, _, .nil, _ => .nil
  | _, _, .cons h r, p => by
    rw [D.tupys, Bool.and_eq_true] at p
    exact .cons (rep_tupy h p.1) (reps_tupy r p.2)
end
theorem tup_le_tupW (W : Wd) : Le (tupW W.P) W := ⟨fun a o e => (tupP_some e).1, fun _ _ z => by cases z⟩
theorem RepKv.keys {K : PySem.W.Frag} {W : Wd} : ∀ {kvs : List (Key × V)} {ds : List (Sum Int Str × D)}, RepKv K W kvs ds → kvs.map (·.1) = ds.map (·.1)
  | _, _, .nil => rfl
  | _, _, .cons _ r => by rw [List.map_cons, List.map_cons, RepKv.keys r]
theorem RepKv.val {K : PySem.W.Frag} {W : Wd} {k : Key} : ∀ {kvs : List (Key × V)} {ds : List (Sum Int Str × D)} {v : V}, RepKv K W kvs ds → valV kvs k = some v → ∃ d, (k, d) ∈ ds ∧ Rep K W v d
  | _, _, v, .nil, h => by rw [valV_nil] at h; cases h
  | _, _, v, .cons (k := k') (v := v') h r, e => by
    by_cases c : k' = k
    · rw [valV_pos c] at e
      cases e
      exact ⟨_, by rw [← c]; exact List.mem_cons_self, h⟩
    · rw [valV_neg c] at e
      obtain ⟨d, m, q⟩ := RepKv.val r e
      exact ⟨d, List.mem_cons_of_mem _ m, q⟩
theorem nodup_len {α : Type} [DecidableEq α] : ∀ {l ks : List α}, l.Nodup → (∀ x ∈ l, x ∈ ks) → l.length ≤ ks.length
  | [], _, _, _ => Nat.zero_le _
  | a :: l, ks, hn, hs => by
    rw [List.nodup_cons] at hn
    have h1 := nodup_len (l := l) (ks := ks.erase a) hn.2 fun x hx => (List.mem_erase_of_ne (fun e => hn.1 (by rw [← e]; exact hx))).mpr (hs x (List.mem_cons_of_mem _ hx))
    have h2 := hs a List.mem_cons_self
    rw [List.length_erase_of_mem h2] at h1
    have := List.length_pos_of_mem h2
    rw [List.length_cons]
    omega
theorem putD_mem {ds : List (Sum Int Str × D)} {k : Sum Int Str} {d : D} {p : Sum Int Str × D} (h : p ∈ putD ds k d) : p ∈ ds ∨ p = (k, d) := by
  unfold putD at h
  split at h
  · obtain ⟨q, hq, rfl⟩ := List.mem_map.mp h
    split
    · rename_i e
      exact .inr (by rw [← e])
    · exact .inl hq
  · rcases List.mem_append.mp h with h | h
    · exact .inl h
    · exact .inr (List.mem_singleton.mp h)
theorem putD_nodup {ds : List (Sum Int Str × D)} {k : Sum Int Str} {d : D} (h : (ds.map (·.1)).Nodup) : ((putD ds k d).map (·.1)).Nodup := by
  unfold putD
  split
  · rw [List.map_map]
    have e : (ds.map ((fun p : Sum Int Str × D => p.1) ∘ fun kv => if kv.1 = k then (kv.1, d) else kv)) = ds.map (·.1) := List.map_congr_left fun p _ => by
      simp only [Function.comp]
      split <;> rfl
    rw [e]
    exact h
  · rename_i c
    rw [List.map_append, List.nodup_append]
    refine ⟨h, by simp, fun x hx y hy e => c ?_⟩
    have hy' : y = k := by simpa using hy
    rw [List.any_eq_true]
    obtain ⟨p, hp, rfl⟩ := List.mem_map.mp hx
    exact ⟨p, hp, decide_eq_true (by rw [e, hy'])⟩
/-- a memo, written -/
theorem Step.memo {W : Wd} {H : Hp} {a : Addr} {K : PySem.W.Frag} {i : Nat} {o : HO} (w : WOk W H) (h : W.N a = some (.memo K i)) (ho : KIs (.memo K i) W.P o) : Step W H W (upd H a o) := by
  have nP := (w.pen a _ h).1
  obtain ⟨u, hu, kvs, ds, rfl, _⟩ := (w.pen a _ h).2
  have ho' : ∃ kvs, o = .dK kvs := by
    obtain ⟨kvs, ds, e, _⟩ := ho
    exact ⟨kvs, e⟩
  obtain ⟨ks, rfl⟩ := ho'
  refine ⟨Le.refl W, ⟨fun b u e => ?_, fun b ψ hb => ⟨(w.pen b ψ hb).1, ?_⟩, tabs_put (soft_dct hu) w.tab, tb_put (fun _ z => nomatch z) (fun _ _ z => z) w.tb⟩, fun b u e hn => ?_, fun _ _ => rfl, fun _ _ => rfl⟩
  · rw [upd_ne (fun z => by subst z; rw [nP] at e; cases e)]
    exact w.sub b u e
  · by_cases q : b = a
    · subst q
      rw [h] at hb
      cases hb
      exact ⟨_, upd_same, ho⟩
    · obtain ⟨u, e, r⟩ := (w.pen b ψ hb).2
      exact ⟨u, by rw [upd_ne q]; exact e, r⟩
  · rw [upd_ne (fun z => by subst z; rw [h] at hn; cases hn)]
    exact e
/-- a place in the code that stands for one memo -/
def MemD (S : Sx) (td : TE) (ρ : List Sl) (i : Nat) : Prop := ∀ σ H W H0, EnvR S.K W H H0 σ ρ → WOk W H → ∃ a, W.N a = some (.memo S.K i) ∧ ∀ W' H' (Q : VK), Step W H W' H' → Q (.ref a) H' → td σ H' Q
section
variable {S : Sx} {ρ : List Sl} {T L : Type} {enc : T → List Sl} {encL : L → List Sl}
theorem mem_rep {K : PySem.W.Frag} {W : Wd} {v : V} {i : Nat} (hi : i < 999999999999999999999999000000) (r : Rep K W v (.opq (2 * (1000000 + i)))) : ∃ a, v = .ref a ∧ W.N a = some (.memo K i) := by
  generalize hd : D.opq (2 * (1000000 + i)) = d at r
  cases r with
  | obj _ _ => exact absurd (D.opq.inj hd) (by omega)
  | @mem a j h _ =>
    have e : j = i := by have := D.opq.inj hd; omega
    subst e
    exact ⟨a, rfl, h⟩
  | fn m hm => exact absurd (D.opq.inj hd) (by omega)
  | raw b => exact absurd (D.opq.inj hd) (by omega)
  | _ => cases hd
theorem memD_var {j i : Nat} (hi : i < 999999999999999999999999000000) (h : ρ[j]? = some (.val (.opq (2 * (1000000 + i))))) : MemD S (tVar j) ρ i := fun σ H W H0 e w => by
  obtain ⟨v, h1, h2⟩ := e.dat j _ h
  obtain ⟨a, rfl, h3⟩ := mem_rep hi h2
  exact ⟨a, h3, fun W' H' Q _ q => ⟨_, h1, q⟩⟩
def tMemo (td tk tE : TE) : TS := tSeq (tIfS (tB (tDNotIn tk td)) (sDPut td tk tE) tNext) (tRet (tDGet td tk))
theorem ss_memo {td tE : TE} {k i : Nat} {dk : D} {m : M D} (hk : ρ[k]? = some (.val dk)) (hd : MemD S td ρ i) (hE : SE S tE ρ m) : SS S false (tMemo td (tVar k) tE) ρ enc encL (memoM (Tb.R i) (Tb.ks i) dk m) := fun Wf W0 H0 W H σ D w n q => by
  unfold memoM at q
  cases dk with
  | str z =>
    obtain ⟨⟨q1, q2⟩, q3, q4⟩ := q
    obtain ⟨v, hv, rv⟩ := n.env.dat k _ hk
    cases rv
    obtain ⟨a, hN, ha⟩ := hd σ H W H0 n.env n.ok
    obtain ⟨nP, o, hH, kvs, ds, rfl, rk, rR, rn⟩ := n.ok.pen a _ hN
    have fin : ∀ W1 H1, Step W H W1 H1 → ∀ v d, Rep S.K W1 v d → Tb.R i (.inr z) d → D.rt v H1 := fun W1 H1 s1 v d r1 hR => q4 d hR W1 H1 v (n.st.trans w s1) r1
    refine ⟨_, hv, ha W H _ (Step.refl n.ok) ?_⟩
    refine ⟨a, valV kvs (.inr z), rfl, DGet.k (k := .inr z) hH, !(valV kvs (.inr z)).isSome, rfl, ?_⟩
    cases e : valV kvs (.inr z) with
    | some u =>
      refine iteF ?_
      show tDGet td (tVar k) σ H D.rt
      refine ha W H _ (Step.refl n.ok) ⟨_, hv, a, u, rfl, ?_, ?_⟩
      · rw [← e]
        exact DGet.k (k := .inr z) hH
      · obtain ⟨d, hd2, rd⟩ := rk.val e
        exact fin W H (Step.refl n.ok) u d (rd.mono (tup_le_tupW W)) (rR _ hd2).1
    | none =>
      refine iteT ?_
      show tE σ H _
      refine hE.go n.env n.ok q3 (xpost w n.st) fun d u W1 H1 hr s1 r1 e1 => ?_
      obtain ⟨hR, ht⟩ := hr
      have hN1 : W1.N a = some (.memo S.K i) := s1.le.n _ _ hN
      obtain ⟨nP1, o1, hH1, kvs1, ds1, rfl, rk1, rR1, rn1⟩ := s1.ok.pen a _ hN1
      have hlen : ds1.length ≤ (Tb.ks i).length := by
        have := nodup_len rn1 fun x hx => by
          obtain ⟨p, hp, rfl⟩ := List.mem_map.mp hx
          exact (rR1 p hp).2
        rwa [List.length_map] at this
      have hl : kvs1.length < sizeLine := by
        have q2' : (Tb.ks i).length < sizeLine := q2
        rw [rk1.length]
        omega
      refine ha W1 H1 _ s1 ⟨_, hv, a, _, rfl, DPut.k (k := .inr z) hH1 hl, ?_⟩
      have st : Step W1 H1 W1 (upd H1 a (.dK (putK kvs1 (.inr z) u))) := Step.memo s1.ok hN1 ⟨_, putD ds1 (.inr z) d, rfl, rk1.put (.inr z) (rep_tupy r1 ht), fun p hp => by
        rcases putD_mem hp with hp | rfl
        · exact rR1 p hp
        · exact ⟨hR, q1⟩, putD_nodup rn1⟩
      have s2 := s1.trans n.ok st
      show tDGet td (tVar k) σ _ D.rt
      refine ha W1 _ _ s2 ⟨_, hv, a, u, rfl, ?_, ?_⟩
      · have := DGet.k (k := .inr z) (upd_same (H := H1) (a := a) (o := .dK (putK kvs1 (.inr z) u)))
        rw [valV_put, if_pos rfl] at this
        exact this
      · exact fin W1 _ s2 u d r1 hR
  | _ => exact (show False from q).elim
/-- a new object that turns -/
theorem Step.turns {W : Wd} {H : Hp} (w : WOk W H) {p : Addr} {o : HO} {kd : Kind} (h : H p = none) (ho : ∀ ps, o ≠ .tbl ps) (hk : KIs kd W.P o) : Step W H ⟨W.P, fun b => if b = p then some kd else W.N b⟩ (upd H p o) := by
  have hP : W.P p = none := w.freeP h
  have hN : W.N p = none := w.freeN h
  have nN : ∀ b φ, W.N b = some φ → (if b = p then some kd else W.N b) = some φ := fun b φ e => by
    rw [if_neg (fun z => by subst z; rw [hN] at e; cases e)]
    exact e
  have np : ∀ a u, H a = some u → (upd H p o) a = some u := fun a u e => by rw [upd_ne (ne_of_none e h)]; exact e
  refine ⟨⟨fun _ _ z => z, nN⟩, ⟨fun a u e => np a u (w.sub a u e), fun a φ ha => ?_, tabs_put (soft_none h) w.tab, tb_put ho nN w.tb⟩, fun b u e _ => np b u e, fun _ _ => rfl, fun b hb => ?_⟩
  · have ha' : (if a = p then some kd else W.N a) = some φ := ha
    by_cases q : a = p
    · subst q
      rw [if_pos rfl] at ha'
      cases ha'
      exact ⟨hP, o, upd_same, hk⟩
    · rw [if_neg q] at ha'
      obtain ⟨h1, x, e, r⟩ := w.pen a φ ha'
      exact ⟨h1, x, np a _ e, r⟩
  · show (if b = p then some kd else W.N b) = W.N b
    rw [if_neg (fun z => hb (by rw [z]; exact h))]
theorem se_memNew : SE S tDNewK ρ memNew := fun σ H W H0 Q e w q p hp => by
  obtain ⟨i, hi, q⟩ := q
  exact q (.ref p) _ _ (Step.turns (kd := .memo S.K i) w hp (fun _ z => nomatch z) ⟨[], [], rfl, .nil, (fun _ h => nomatch h), List.nodup_nil⟩) (.mem (if_pos rfl) hi)
theorem ss_memoV {R : Nat → Sum Int Str → D → Prop} {ks : Nat → List (Sum Int Str)} {tE : TE} {j k : Nat} {dm dk : D} {m : M D} (hR : Tb.R = R) (hks : Tb.ks = ks) (hj : ρ[j]? = some (.val dm)) (hk : ρ[k]? = some (.val dk)) (hE : SE S tE ρ m) :
    SS S false (tMemo (tVar j) (tVar k) tE) ρ enc encL (memoD R ks dm dk m) := fun Wf W0 H0 W H σ D w n q => by
  subst hR hks
  unfold memoD at q
  cases dm with
  | opq a =>
    by_cases c : a % 2 = 0 ∧ 1000000 ≤ a / 2 ∧ a / 2 < 1000000000000000000000000000000
    · simp only [if_pos c] at q
      have e : a = 2 * (1000000 + (a / 2 - 1000000)) := by omega
      rw [e] at hj
      exact ss_memo hk (memD_var (by omega) hj) hE Wf W0 H0 W H σ D w n q
    · simp only [if_neg c] at q
      exact (show False from q).elim
  | _ => exact (show False from q).elim
/-- the store at the end of a block, and what is told then -/
theorem ss_memoPR {td tE : TE} {k i : Nat} {dk : D} {m : M D} (hk : ρ[k]? = some (.val dk)) (hd : MemD S td ρ i) (hE : SE S tE ρ m) : SS S false (tSeq (sDPut td (tVar k) tE) (tRet (tDGet td (tVar k)))) ρ enc encL (memoPM (Tb.R i) (Tb.ks i) dk m) := fun Wf W0 H0 W H σ D w n q => by
  unfold memoPM at q
  cases dk with
  | str z =>
    obtain ⟨⟨q1, q2⟩, q3⟩ := q
    obtain ⟨v, hv, rv⟩ := n.env.dat k _ hk
    cases rv
    obtain ⟨a, hN, ha⟩ := hd σ H W H0 n.env n.ok
    show tE σ H _
    refine hE.go n.env n.ok q3 (xpost w n.st) fun d u W1 H1 hr s1 r1 e1 => ?_
    obtain ⟨⟨hR, ht⟩, hQ⟩ := hr
    have hN1 : W1.N a = some (.memo S.K i) := s1.le.n _ _ hN
    obtain ⟨nP1, o1, hH1, kvs1, ds1, rfl, rk1, rR1, rn1⟩ := s1.ok.pen a _ hN1
    have hlen : ds1.length ≤ (Tb.ks i).length := by
      have := nodup_len rn1 fun x hx => by
        obtain ⟨p, hp, rfl⟩ := List.mem_map.mp hx
        exact (rR1 p hp).2
      rwa [List.length_map] at this
    have hl : kvs1.length < sizeLine := by
      have q2' : (Tb.ks i).length < sizeLine := q2
      rw [rk1.length]
      omega
    refine ha W1 H1 _ s1 ⟨_, hv, a, _, rfl, DPut.k (k := .inr z) hH1 hl, ?_⟩
    have st : Step W1 H1 W1 (upd H1 a (.dK (putK kvs1 (.inr z) u))) := Step.memo s1.ok hN1 ⟨_, putD ds1 (.inr z) d, rfl, rk1.put (.inr z) (rep_tupy r1 ht), fun p hp => by
      rcases putD_mem hp with hp | rfl
      · exact rR1 p hp
      · exact ⟨hR, q1⟩, putD_nodup rn1⟩
    have s2 := s1.trans n.ok st
    show tDGet td (tVar k) σ _ D.rt
    refine ha W1 _ _ s2 ⟨_, hv, a, u, rfl, ?_, ?_⟩
    · have := DGet.k (k := .inr z) (upd_same (H := H1) (a := a) (o := .dK (putK kvs1 (.inr z) u)))
      rw [valV_put, if_pos rfl] at this
      exact this
    · exact hQ W1 _ u (n.st.trans w s2) r1
  | _ => exact (show False from q).elim
theorem ss_assoc {own : Bool} {ta tb tc : TS} {m : M (Fl T L)} (h : SS S own (tSeq ta (tSeq tb tc)) ρ enc encL m) : SS S own (tSeq (tSeq ta tb) tc) ρ enc encL m := h
theorem ss_memoTM {td : TE} {tb : TS} {k i : Nat} {dk : D} {m : M (Fl T L)} (hk : ρ[k]? = some (.val dk)) (hd : MemD S td ρ i) (hB : SS S false (tSeq tb (tRet (tDGet td (tVar k)))) ρ enc encL m) : SS S false (tSeq (tIfS (tB (tDNotIn (tVar k) td)) tb tNext) (tRet (tDGet td (tVar k)))) ρ enc encL (memoTM (Tb.R i) dk m) := fun Wf W0 H0 W H σ D w n q => by
  unfold memoTM at q
  cases dk with
  | str z =>
    obtain ⟨q3, q4⟩ := q
    obtain ⟨v, hv, rv⟩ := n.env.dat k _ hk
    cases rv
    obtain ⟨a, hN, ha⟩ := hd σ H W H0 n.env n.ok
    obtain ⟨nP, o, hH, kvs, ds, rfl, rk, rR, rn⟩ := n.ok.pen a _ hN
    refine ⟨_, hv, ha W H _ (Step.refl n.ok) ?_⟩
    refine ⟨a, valV kvs (.inr z), rfl, DGet.k (k := .inr z) hH, !(valV kvs (.inr z)).isSome, rfl, ?_⟩
    cases e : valV kvs (.inr z) with
    | some u =>
      refine iteF ?_
      show tDGet td (tVar k) σ H D.rt
      refine ha W H _ (Step.refl n.ok) ⟨_, hv, a, u, rfl, ?_, ?_⟩
      · rw [← e]
        exact DGet.k (k := .inr z) hH
      · obtain ⟨d, hd2, rd⟩ := rk.val e
        exact q4 d (rR _ hd2).1 W H u n.st (rd.mono (tup_le_tupW W))
    | none =>
      refine iteT ?_
      exact hB Wf W0 H0 W H σ D w n q3
  | _ => exact (show False from q).elim
theorem ss_memoP {R : Nat → Sum Int Str → D → Prop} {ks : Nat → List (Sum Int Str)} {tE : TE} {j k : Nat} {dm dk : D} {m : M D} (hR : Tb.R = R) (hks : Tb.ks = ks) (hj : ρ[j]? = some (.val dm)) (hk : ρ[k]? = some (.val dk)) (hE : SE S tE ρ m) :
    SS S false (tSeq (sDPut (tVar j) (tVar k) tE) (tRet (tDGet (tVar j) (tVar k)))) ρ enc encL (memoP R ks dm dk m) := fun Wf W0 H0 W H σ D w n q => by
  subst hR hks
  unfold memoP at q
  cases dm with
  | opq a =>
    by_cases c : a % 2 = 0 ∧ 1000000 ≤ a / 2 ∧ a / 2 < 1000000000000000000000000000000
    · simp only [if_pos c] at q
      have e : a = 2 * (1000000 + (a / 2 - 1000000)) := by omega
      rw [e] at hj
      exact ss_memoPR hk (memD_var (by omega) hj) hE Wf W0 H0 W H σ D w n q
    · simp only [if_neg c] at q
      exact (show False from q).elim
  | _ => exact (show False from q).elim
theorem ss_memoT {R : Nat → Sum Int Str → D → Prop} {tb : TS} {j k : Nat} {dm dk : D} {m : M (Fl T L)} (hR : Tb.R = R) (hj : ρ[j]? = some (.val dm)) (hk : ρ[k]? = some (.val dk)) (hB : SS S false (tSeq tb (tRet (tDGet (tVar j) (tVar k)))) ρ enc encL m) :
    SS S false (tSeq (tIfS (tB (tDNotIn (tVar k) (tVar j))) tb tNext) (tRet (tDGet (tVar j) (tVar k)))) ρ enc encL (memoT R dm dk m) := fun Wf W0 H0 W H σ D w n q => by
  subst hR
  unfold memoT at q
  cases dm with
  | opq a =>
    by_cases c : a % 2 = 0 ∧ 1000000 ≤ a / 2 ∧ a / 2 < 1000000000000000000000000000000
    · simp only [if_pos c] at q
      have e : a = 2 * (1000000 + (a / 2 - 1000000)) := by omega
      rw [e] at hj
      exact ss_memoTM hk (memD_var (by omega) hj) hB Wf W0 H0 W H σ D w n q
    · simp only [if_neg c] at q
      exact (show False from q).elim
  | _ => exact (show False from q).elim
end
/-! ### instances whose fields stay -/
theorem RepF.get {K : PySem.W.Frag} {W : Wd} {f : Str} : ∀ {fs : List (Str × V)} {ds : List (Str × D)} {d : D}, RepF K W fs ds → ds.lookup f = some d → ∃ v, fs.lookup f = some v ∧ Rep K W v d
  | _, _, _, .nil, h => by cases h
  | _, _, d, .cons (n := n) (v := v) h r, e => by
    by_cases c : f = n
    · subst c
      rw [List.lookup_cons_self] at e ⊢
      cases e
      exact ⟨v, rfl, h⟩
    · rw [List.lookup_cons, beq_eq_false_iff_ne.mpr c] at e ⊢
      exact RepF.get r e
theorem RepF.none {K : PySem.W.Frag} {W : Wd} {f : Str} : ∀ {fs : List (Str × V)} {ds : List (Str × D)}, RepF K W fs ds → ds.lookup f = none → fs.lookup f = none
  | _, _, .nil, h => rfl
  | _, _, .cons (n := n) (v := v) h r, e => by
    by_cases c : f = n
    · subst c
      rw [List.lookup_cons_self] at e
      cases e
    · rw [List.lookup_cons, beq_eq_false_iff_ne.mpr c] at e ⊢
      exact RepF.none r e
theorem obj_rep {K : PySem.W.Frag} {W : Wd} {v : V} {j : Nat} (r : Rep K W v (.opq (2 * (1000000000000000000000000000000 + j)))) : ∃ a dx fs, v = .ref a ∧ W.P a = some (.ins (Tb.cl (Tb.ob j).1) dx fs) ∧ RepF K W fs (Tb.ob j).2 := by
  generalize hd : D.opq (2 * (1000000000000000000000000000000 + j)) = d at r
  cases r with
  | @obj a dx fs i h g =>
    have e : i = j := by have := D.opq.inj hd; omega
    subst e
    exact ⟨a, dx, fs, rfl, h, g⟩
  | mem _ _ => exact absurd (D.opq.inj hd) (by omega)
  | fn m hm => exact absurd (D.opq.inj hd) (by omega)
  | raw b => exact absurd (D.opq.inj hd) (by omega)
  | _ => cases hd
theorem objM_run {A : Type} {OB : Nat → Nat × List (Str × D)} {c : Nat} {d : D} {k : Nat → List (Str × D) → M A} {Q : A → Prop} {E : Exn → Prop} (h : (objM OB c d k).run Q E) : ∃ j, d = .opq (2 * (1000000000000000000000000000000 + j)) ∧ (OB j).1 = c ∧ (k j (OB j).2).run Q E := by
  cases d with
  | opq n =>
    unfold objM at h
    by_cases e : n % 2 = 0 ∧ 1000000000000000000000000000000 ≤ n / 2 ∧ (OB (n / 2 - 1000000000000000000000000000000)).1 = c
    · simp only [if_pos e] at h
      exact ⟨n / 2 - 1000000000000000000000000000000, by rw [show 2 * (1000000000000000000000000000000 + (n / 2 - 1000000000000000000000000000000)) = n from by omega], e.2.2, h⟩
    · simp only [if_neg e] at h
      exact (show False from h).elim
  | _ => exact (show False from h).elim
section
variable {S : Sx} {ρ : List Sl}
theorem se_fld {OB : Nat → Nat × List (Str × D)} {ta : TE} {r : M D} {c : Nat} {f : Str} {C : Addr} (hO : Tb.ob = OB) (hC : Tb.cl c = C) (hc : Cls S.K C) (hn : NoAttr S.K C f) (h : SE S ta ρ r) : SE S (tFld S.K ta f) ρ (fldM OB c f r) := fun σ H W H0 Q e w q => by
  subst hO hC
  refine h.go e w q (fun _ z => z) fun d v W1 H1 q1 s1 r1 e1 => ?_
  obtain ⟨j, rfl, rfl, q2⟩ := objM_run q1
  obtain ⟨x, ex, q3⟩ := ofO_run q2
  obtain ⟨a, dx, fs, rfl, hP, rf⟩ := obj_rep r1
  obtain ⟨u, hu, ru⟩ := rf.get ex
  exact ⟨a, _, dx, fs, u, rfl, s1.ok.sub _ _ hP, hc, hn, hu, q3 u W1 H1 s1 ru⟩
end
/-- o.m(e, ..), by a def's promise -/
def tMethG (C : Addr) (m : Str) (sp : Sp) (E : XK) (ta : TE) (t : TA) : TE := fun σ H Q => ta σ H fun x H1 => ∃ a dx fs, x = .ref a ∧ H1 a = some (.ins C dx fs) ∧ fs.lookup m = none ∧ t σ H1 fun vs H2 => sp (x :: vs) H2 Q E
section
variable {X : Cx} {qg : Bool} {k : Nat} {f C : Addr} {fd : FuncData} {ps : List Str} {sp : Sp} {E : XK} {m : Str} {pos apos : Pos} {o e : Expr} {es : List Expr} {ta : TE} {t : TA}
theorem pe_methG {pl : Sem Bool} (he : PE X o ta) (c : Cls X.K C) (hm : Meth X.K C m f) (G : GOk X.prog X.w X.K X.mg X.base qg k f fd ps sp) (hr : Room k X.A) (hg : qg = true → X.A.guards = some []) (hb : Binds X.K fd ps []) (hx : Passes (L2.CX X.prog X.w) X E) (ha : PA X (e :: es) t)
    (hst : starEach (e :: es) X.env = (false, eval e X.env) :: starEach es X.env := by rfl) (hpl : (backTo pos (starEach es X.env)).any (·.1) = false := by rfl)
    (ht : eval (.Call (.Attribute o m apos) (e :: es) [] pos) X.env = (do
      let ov ← eval o X.env
      standAt apos.atName
      let (f, first) ← holding [ov] (getMethod ov m pl)
      callWith pos f first (backTo pos (starEach (e :: es) X.env)) (backToKw pos (keywordEach [] X.env))) := by rfl) :
    PE X (.Call (.Attribute o m apos) (e :: es) [] pos) (tMethG C m sp E ta t) := by
  refine ⟨fun pins s σ H Q I h => ?_⟩
  refine PySem.W.methodCall_KW (pl := pl) (thn (he.run pins s σ H _ I h) fun u s1 ⟨x, H1, I1, rx, a, dx, fs, ex, ea, l, q⟩ => ?_) ht
  subst ex
  obtain rfl : u = Value.ref a := rx
  refine getmeth_ok I1 ea c hm l ?_
  refine PySem.W.callWith_K (first := [.ref a]) (h₀ := X.base) I.ok.mod.kin hm.kp (thn (ha.run pos pins s1 σ H1 _ I1 q) fun us s2 ⟨vs, H2, I2, r, q2⟩ => ⟨I2.kIn, ?_⟩) hst hpl
  exact run_g (us := .ref a :: us) (vs := .ref a :: vs) G hr hg hb hx I2 (.cons rfl r) q2
end
section
variable {S : Sx} {ρ : List Sl} {ta : TE} {ts : TA} {r : M D} {rs : List (M D)} {n c : Nat} {F : List D → M D} {C : Addr} {m : Str}
theorem se_meth {OB : Nat → Nat × List (Str × D)} (hO : Tb.ob = OB) (hC : Tb.cl c = C) (h1 : SE S ta ρ r) (h : SA S ts ρ rs) (hn : rs.length = n) : SE S (tMethG C m (spD S.K S.mg false (n + 1) F) S.E ta ts) ρ (methM OB c m F r rs) := fun σ H W H0 Q e w q => by
  subst hO hC
  refine h1.go e w q (fun _ z => z) fun d v W1 H1 q1 s1 r1 e1 => ?_
  obtain ⟨j, rfl, rfl, q2, q3⟩ := objM_run q1
  obtain ⟨a, dx, fs, rfl, hP, rf⟩ := obj_rep r1
  refine ⟨a, dx, fs, rfl, s1.ok.sub _ _ hP, rf.none q2, ?_⟩
  refine h.go e1 s1.ok (seqL_len q3) (fun _ z => z.after w s1) fun ds vs W2 H2 q4 s2 r2 e2 => ?_
  have w2 := s1.trans w s2
  exact ⟨W2, _ :: ds, s2.ok, .cons (r1.mono s2.le) r2, by rw [List.length_cons, q4.1, hn], (F _).mono (fun d hd W' H' v s r => hd v W' H' (w2.trans w s) r) (fun _ z => z.after w w2) q4.2⟩
end
section
variable {S : Sx} {ρ : List Sl} {T L : Type} {enc : T → List Sl} {encL : L → List Sl}
theorem memD_fld {j j' i : Nat} {f : Str} (hj : ρ[j]? = some (.val (.opq (2 * (1000000000000000000000000000000 + j'))))) (hc : Cls S.K (Tb.cl (Tb.ob j').1)) (hn : NoAttr S.K (Tb.cl (Tb.ob j').1) f) (hf : (Tb.ob j').2.lookup f = some (.opq (2 * (1000000 + i)))) (hi : i < 999999999999999999999999000000) : MemD S (tFld S.K (tVar j) f) ρ i := fun σ W H H0 e w => by
  obtain ⟨v, h1, h2⟩ := e.dat j _ hj
  obtain ⟨x, dx, fs, rfl, hP, rf⟩ := obj_rep h2
  obtain ⟨u, hu, ru⟩ := rf.get hf
  obtain ⟨a, rfl, hN⟩ := mem_rep hi ru
  exact ⟨a, hN, fun W' H' Q s q => ⟨_, h1, x, _, dx, fs, _, rfl, s.ok.sub _ _ (s.le.p _ _ hP), hc, hn, hu, q⟩⟩
theorem ss_memoF {R : Nat → Sum Int Str → D → Prop} {ks : Nat → List (Sum Int Str)} {OB : Nat → Nat × List (Str × D)} {tE : TE} {j k c : Nat} {f : Str} {C : Addr} {d dk : D} {m : M D} (hR : Tb.R = R) (hks : Tb.ks = ks) (hO : Tb.ob = OB) (hC : Tb.cl c = C) (hc : Cls S.K C) (hn : NoAttr S.K C f)
    (hj : ρ[j]? = some (.val d)) (hk : ρ[k]? = some (.val dk)) (hE : SE S tE ρ m) :
    SS S false (tMemo (tFld S.K (tVar j) f) (tVar k) tE) ρ enc encL (objM OB c d fun _ fs => ofO (fs.lookup f) >>= fun dm => memoD R ks dm dk m) := fun Wf W0 H0 W H σ D w n q => by
  subst hR hks hO hC
  obtain ⟨j', rfl, rfl, q2⟩ := objM_run q
  obtain ⟨dm, ef, q3⟩ := ofO_run q2
  unfold memoD at q3
  cases dm with
  | opq a =>
    by_cases c : a % 2 = 0 ∧ 1000000 ≤ a / 2 ∧ a / 2 < 1000000000000000000000000000000
    · simp only [if_pos c] at q3
      have e : a = 2 * (1000000 + (a / 2 - 1000000)) := by omega
      rw [e] at ef
      exact ss_memo hk (memD_fld hj hc hn ef (by omega)) hE Wf W0 H0 W H σ D w n q3
    · simp only [if_neg c] at q3
      exact (show False from q3).elim
  | _ => exact (show False from q3).elim
end
/-! ### an instance of two fields and a memo is made -/
def spIni (C : Addr) (n1 n2 n3 : Str) : Sp := fun vs H Q _ => ∃ (x dx : Addr) (y1 y2 : V), vs = [.ref x, y1, y2] ∧ H x = some (.ins C dx []) ∧ ∀ p, H p = none → Q .non (upd (upd H p (.dK [])) x (.ins C dx [(n1, y1), (n2, y2), (n3, .ref p)]))
def tIni (K : PySem.W.Frag) (n1 n2 n3 : Str) : TS := tSeq (sFld K (tVar 0) (tVar 1) n1) (tSeq (sFld K (tVar 0) (tVar 2) n2) (sFld K (tVar 0) tDNewK n3))
theorem ini_heap {H : Hp} {x p : Addr} {A B D E : HO} (h : p ≠ x) : upd (upd (upd (upd H x A) x B) p D) x E = upd (upd H p D) x E := by
  funext b
  by_cases e : b = x
  · subst e
    rw [upd_same, upd_same]
  · rw [upd_ne e, upd_ne e]
    by_cases e2 : b = p
    · subst e2
      rw [upd_same, upd_same]
    · rw [upd_ne e2, upd_ne e2, upd_ne e, upd_ne e]
section
variable {P : Program} {w : World} {K : PySem.W.Frag} {mg : Str → Option Value} {base : Heap}
theorem ini_of {C fI : Addr} {st : Stmt} {fd : FuncData} {qual p1 p2 n1 n2 n3 : Str} (cl : Cls K C) (a1 : NoAttr K C n1) (a2 : NoAttr K C n2) (a3 : NoAttr K C n3) (h12 : n1 ≠ n2) (h13 : n1 ≠ n3) (h23 : n2 ≠ n3)
    (Fn : L2.Fun K "__init__" qual st fI fd) (sc : FnScope ["self", p1, p2] ["self", p1, p2] (defScope st))
    (hb : ∀ (cdv : Value) (A : Around) (outer : List Env) (s : Shared) (H : Hp) (E : XK), PSs (cxOf C8.CX0 P w K mg base ["self", p1, p2] qual (defScope st) fI cdv A outer s H E).nox (defBody st) (tIni K n1 n2 n3)) :
    FnOk P w K mg base C8.CX0 1 fI fd ["self", p1, p2] (spIni C n1 n2 n3) := by
  refine Fn.ok (k := 0) sc ?_ ?_
  · rintro vs H Q E ⟨x, dx, y1, y2, rfl, _⟩
    rfl
  · rintro cdv A outer s H vs Q E hr ⟨x, dx, y1, y2, rfl, hx, q⟩
    refine ⟨_, hb cdv A outer s H E, ?_⟩
    refine ⟨_, rfl, _, rfl, x, C, dx, [], rfl, hx, cl, a1, Nat.le_of_ble_eq_true rfl, ?_⟩
    refine ⟨_, rfl, _, rfl, x, C, dx, [(n1, y1)], rfl, upd_same, cl, a2, Nat.le_of_ble_eq_true rfl, ?_⟩
    intro p hp
    have hpx : p ≠ x := fun e => by
      subst e
      rw [upd_same] at hp
      cases hp
    have hp0 : H p = none := by
      rw [upd_ne hpx, upd_ne hpx] at hp
      exact hp
    have e2 : putF n2 y2 [(n1, y1)] = [(n1, y1), (n2, y2)] := by simp [putF, h12]
    refine ⟨_, rfl, x, C, dx, [(n1, y1), (n2, y2)], rfl, ?_, cl, a3, Nat.le_of_ble_eq_true rfl, ?_⟩
    · rw [upd_ne (fun e => hpx e.symm), upd_same, e2]
    · have e3 : putF n3 (V.ref p) [(n1, y1), (n2, y2)] = [(n1, y1), (n2, y2), (n3, .ref p)] := by simp [putF, h13, h23]
      have := q p hp0
      rw [ini_heap hpx, e3]
      exact this
end
theorem mk_heap {H : Hp} {x dx p : Addr} {A D E O : HO} (h : p ≠ x) : upd (upd (upd (upd H dx O) x A) p D) x E = upd (upd (upd H dx O) p D) x E := by
  funext b
  by_cases e : b = x
  · subst e
    rw [upd_same, upd_same]
  · rw [upd_ne e, upd_ne e]
    by_cases e2 : b = p
    · subst e2
      rw [upd_same, upd_same]
    · rw [upd_ne e2, upd_ne e2, upd_ne e]
section
variable {S : Sx} {ρ : List Sl}
theorem se_mk {OB : Nat → Nat × List (Str × D)} {ts : TA} {rs : List (M D)} {c : Nat} {C : Addr} {n1 n2 n3 : Str} (hO : Tb.ob = OB) (hC : Tb.cl c = C) (h : SA S ts ρ rs) : SE S (tMake C (spIni C n1 n2 n3) [] S.E ts) ρ (mkM OB c n1 n2 n3 rs) := fun σ H W H0 Q e w q => by
  subst hO hC
  refine h.go e w q (fun _ z => z) fun ds vs W1 H1 q1 s1 r1 e1 => ?_
  match ds, r1, q1 with
  | [d1, d2], r1, q1 =>
    obtain ⟨v1, v2, rfl, ra, rb⟩ := r1.of2
    obtain ⟨j, i, hi, hj, q2⟩ := q1
    intro x dx hx hdx hne
    refine ⟨x, dx, v1, v2, rfl, upd_same, fun p hp => ⟨rfl, ?_⟩⟩
    have hpx : p ≠ x := fun e => by
      subst e
      rw [upd_same] at hp
      cases hp
    have hp2 : (upd H1 dx (.own x)) p = none := by rwa [upd_ne hpx] at hp
    rw [mk_heap hpx]
    have st1 : Step W1 H1 W1 (upd H1 dx (.own x)) := Step.raw s1.ok hdx
    have st2 := Step.turns (kd := .memo S.K i) (o := .dK []) st1.ok hp2 (fun _ z => nomatch z) ⟨[], [], rfl, .nil, (fun _ h => nomatch h), List.nodup_nil⟩
    have hx2 : (upd (upd H1 dx (.own x)) p (.dK [])) x = none := by rw [upd_ne (fun e => hpx e.symm), upd_ne (fun e => hne e.symm)]; exact hx
    have st3 := Step.dat (o := .ins (Tb.cl c) dx [(n1, v1), (n2, v2), (n3, .ref p)]) st2.ok hx2
    have st := (st1.trans s1.ok st2).trans s1.ok st3
    refine q2 _ _ _ (s1.trans w st) (.obj (dx := dx) (fs := [(n1, v1), (n2, v2), (n3, .ref p)]) ?_ ?_)
    · rw [hj]
      exact upd_same
    · rw [hj]
      exact .cons (ra.mono st.le) (.cons (rb.mono st.le) (.cons (.mem (if_pos rfl) hi) .nil))
  | [], _, q1 => exact (show False from q1).elim
  | [_], _, q1 => exact (show False from q1).elim
  | _ :: _ :: _ :: _, _, q1 => exact (show False from q1).elim
end
/-! ### methods as defs -/
def DfM (K : PySem.W.Frag) (c : Nat) (x y : Str) (st : Stmt) (ps : List Str) : Prop := ∃ f fd, L2.Fun K x y st f fd ∧ Meth K (Tb.cl c) x f ∧ Binds K fd ps [] ∧ ∀ (s : Shared) (us : List Value), us.length = ps.length → BindsTo s fd ⟨us, []⟩ (ps.zip us)
def CdM (qg : Bool) (P : Program) (w : World) (K : PySem.W.Frag) (mg : Str → Option Value) (base : Heap) (c : Nat) (x : Str) (k : Nat) (ps : List Str) (sp : Sp) : Prop :=
  ∃ f fd, Meth K (Tb.cl c) x f ∧ Binds K fd ps [] ∧ GOk P w K mg base qg k f fd ps sp
section
variable {P : Program} {w : World} {K : PySem.W.Frag} {mg : Str → Option Value} {base : Heap}
theorem cdM_of {qg : Bool} {c : Nat} {x y : Str} {st : Stmt} {N ps : List Str} {k : Nat} (own : Bool) {F : List D → M (Fl Unit Empty)} (d : DfM K c x y st ps) (sc : FnScope N ps (defScope st))
    (hbody : ∀ (f : Addr) (cdv : Value) (A : Around) (outer : List Env) (s : Shared) (H : Hp) (E : XK),
      Room k (A.deeper (PyProof.Rows.envOfC y (defScope st) s.heap.objs.size f cdv)) → (qg = true → (A.deeper (PyProof.Rows.envOfC y (defScope st) s.heap.objs.size f cdv)).guards = some []) →
        ∃ t, PSs (cxOf (L2.CX P w) P w K mg base N y (defScope st) f cdv A outer s H E) (defBody st) t ∧
          ∀ ds, ds.length = ps.length → SS ⟨K, mg, E⟩ own t (startS N.length ds) (enc0 N.length) noE (F ds)) :
    CdM qg P w K mg base c x (k + 1) ps (spD K mg own ps.length (fun ds => endB own (F ds))) := by
  obtain ⟨f, fd, Fn, me, b, _⟩ := d
  refine ⟨f, fd, me, b, g_of own Fn sc fun cdv A outer s H E _ => ?_⟩
  exact hbody f cdv A outer s H E
end
section
variable {X : Cx} {k j c : Nat} {ps : List Str} {sp : Sp} {E : XK} {m : Str} {pos apos : Pos} {o e : Expr} {es : List Expr} {ta : TE} {t : TA}
theorem pe_cdm {qg : Bool} {pl : Sem Bool} (cd : CdM qg X.prog X.w X.K X.mg X.base c m j ps sp) (he : PE X o ta) (hc : Cls X.K (Tb.cl c)) (hr : Room k X.A) (hg : qg = true → X.A.guards = some []) (hx : Passes (L2.CX X.prog X.w) X E) (ha : PA X (e :: es) t) (hjk : j ≤ k := by decide)
    (hst : starEach (e :: es) X.env = (false, eval e X.env) :: starEach es X.env := by rfl) (hpl : (backTo pos (starEach es X.env)).any (·.1) = false := by rfl)
    (ht : eval (.Call (.Attribute o m apos) (e :: es) [] pos) X.env = (do
      let ov ← eval o X.env
      standAt apos.atName
      let (f, first) ← holding [ov] (getMethod ov m pl)
      callWith pos f first (backTo pos (starEach (e :: es) X.env)) (backToKw pos (keywordEach [] X.env))) := by rfl) :
    PE X (.Call (.Attribute o m apos) (e :: es) [] pos) (tMethG (Tb.cl c) m sp E ta t) := by
  obtain ⟨f, fd, me, b, G⟩ := cd
  exact pe_methG he hc me (G.mono hjk) hr hg b hx ha hst hpl ht
end
/-- a class of the program's: what its instances ask of it -/
structure ClO (K : PySem.W.Frag) (c : Nat) (ns : List Str) : Prop where
  cls : Cls K (Tb.cl c)
  na : ∀ n ∈ ns, NoAttr K (Tb.cl c) n
/-- instances of the class c are made by its name x -/
def Mkk (P : Program) (w : World) (K : PySem.W.Frag) (mg : Str → Option Value) (base : Heap) (c : Nat) (x n1 n2 n3 : Str) : Prop :=
  ∃ (fI : Addr) (fd : FuncData) (ps : List Str), mg x = some (.ref (Tb.cl c)) ∧ Mk K (Tb.cl c) fI ∧ Binds K fd ps [] ∧ FnOk P w K mg base C8.CX0 1 fI fd ps (spIni (Tb.cl c) n1 n2 n3)
section
variable {X : Cx} {k c : Nat} {x n1 n2 n3 : Str} {p pos : Pos} {e1 e2 : Expr} {E : XK} {t : TA}
theorem pe_mkk (m : Mkk X.prog X.w X.K X.mg X.base c x n1 n2 n3) (hr : Room k X.A) (ha : PA X [e1, e2] t) (hk : 2 ≤ k := by decide) (hgl : Gl X x := by exact rfl) (hdb : (x == ("__debug__" : Str)) = false := by decide)
    (he : starEach [e1, e2] X.env = (false, eval e1 X.env) :: starEach [e2] X.env := by rfl) (hpl : (backTo pos (starEach [e2] X.env)).any (·.1) = false := by rfl) :
    PE X (.Call (.Name x p) [e1, e2] [] pos) (tMake (Tb.cl c) (spIni (Tb.cl c) n1 n2 n3) [] E t) := by
  obtain ⟨fI, fd, ps, hC, mk, b, F⟩ := m
  exact pe_make mk F (hr.mono hk) hgl hC b .nil (fun _ _ _ _ _ _ _ h => h.elim) ha hdb he hpl
end
section
variable {P : Program} {w : World} {K : PySem.W.Frag} {mg : Str → Option Value} {base : Heap}
theorem dfM_mk {h : Heap} {c : Nat} {x y : Str} {st : Stmt} {ps : List Str} {f : Addr} {oc : Value} {od an : Option Addr} {osl : Array (Option Value)} {kV doc pm cdv ct : Value} (X : K.In h)
    (l : K.lookup f = some ⟨oc, od, .func (PySem.W.fnOf x y (defArgs st) (defBody st) (defScope st) .none kV doc pm an cdv ct), osl⟩)
    (e : PySem.W.codeIn K cdv y = true) (k : PySem.W.keepIn K (.ref f) = true) (m1 : PySem.W.findIn K (.ref (Tb.cl c)) x = some (some (.ref f))) (m2 : PySem.W.isFn K (.ref f) = true)
    (b : ∀ (kV doc pm : Value) (an : Option Addr) (cdv ct : Value) (us : List Value), us.length = ps.length → bindArgs (PySem.W.fnOf x y (defArgs st) (defBody st) (defScope st) .none kV doc pm an cdv ct) ⟨us, []⟩ = pure (ps.zip us)) : DfM K c x y st ps :=
  have F := fun_mk l e k
  ⟨f, _, F, ⟨m1, m2, k⟩, F.binds b, fun _ us hl => .of_eq (b kV doc pm an cdv ct us hl)⟩
theorem mkk_of {h : Heap} {c : Nat} {x qual p1 p2 n1 n2 n3 : Str} {st : Stmt} {fI : Addr} {oc : Value} {od an : Option Addr} {osl : Array (Option Value)} {kV doc pm cdv ct : Value} (hC : mg x = some (.ref (Tb.cl c)))
    (o : ClO K c [n1, n2, n3]) (h12 : n1 ≠ n2) (h13 : n1 ≠ n3) (h23 : n2 ≠ n3) (mk1 : PySem.W.makesIn K (Tb.cl c) = true) (mk2 : PySem.W.findIn K (.ref (Tb.cl c)) "__init__" = some (some (.ref fI))) (mk3 : PySem.W.isFn K (.ref fI) = true) (mk4 : PySem.W.keepIn K (.ref (Tb.cl c)) = true)
    (l : K.lookup fI = some ⟨oc, od, .func (PySem.W.fnOf "__init__" qual (defArgs st) (defBody st) (defScope st) .none kV doc pm an cdv ct), osl⟩) (e : PySem.W.codeIn K cdv qual = true) (k : PySem.W.keepIn K (.ref fI) = true)
    (b : ∀ (kV doc pm : Value) (an : Option Addr) (cdv ct : Value) (us : List Value), us.length = 3 → bindArgs (PySem.W.fnOf "__init__" qual (defArgs st) (defBody st) (defScope st) .none kV doc pm an cdv ct) ⟨us, []⟩ = pure ((["self", p1, p2] : List Str).zip us))
    (sc : FnScope ["self", p1, p2] ["self", p1, p2] (defScope st))
    (hb : ∀ (cdv : Value) (A : Around) (outer : List Env) (s : Shared) (H : Hp) (E : XK), PSs (cxOf C8.CX0 P w K mg base ["self", p1, p2] qual (defScope st) fI cdv A outer s H E).nox (defBody st) (tIni K n1 n2 n3)) :
    Mkk P w K mg base c x n1 n2 n3 :=
  have F := fun_mk l e k
  ⟨fI, _, ["self", p1, p2], hC, ⟨mk1, mk2, mk3, mk4⟩, F.binds (ps := ["self", p1, p2]) b, ini_of o.cls (o.na _ (by simp)) (o.na _ (by simp)) (o.na _ (by simp)) h12 h13 h23 F sc hb⟩
end
end Ev

namespace Ev
open PySem PySem.Spec PyProof.Rows L2
variable [Tb]
/-! ### dicts that are read -/
theorem RepKv.valD {K : PySem.W.Frag} {W : Wd} {k : Key} : ∀ {kvs : List (Key × V)} {ds : List (Sum Int Str × D)}, RepKv K W kvs ds → (valV kvs k = none ∧ Ev.valD ds k = none) ∨ ∃ v d, valV kvs k = some v ∧ Ev.valD ds k = some d ∧ Rep K W v d
  | _, _, .nil => .inl ⟨rfl, rfl⟩
  | _, _, @RepKv.cons _ _ _ j v d vs ds h r => by
    by_cases e : j = k
    · exact .inr ⟨v, d, valV_pos e, by unfold Ev.valD; rw [if_pos e], h⟩
    · rw [valV_neg e, show Ev.valD ((j, d) :: ds) k = Ev.valD ds k from by conv => lhs; unfold Ev.valD; rw [if_neg e]]
      exact RepKv.valD r
section
variable {S : Sx} {ρ : List Sl}
theorem dct_rep {K : PySem.W.Frag} {W : Wd} {u : V} {ds : List (Sum Int Str × D)} (r : Rep K W u (.dct ds)) : ∃ a kvs, u = .ref a ∧ W.P a = some (.dK kvs) ∧ RepKv K W kvs ds := by
  cases r with
  | dct h r => exact ⟨_, _, rfl, h, r⟩
theorem key_rep {K : PySem.W.Frag} {W : Wd} {u : V} {x : D} {P : Sum Int Str → Prop} {E : Exn → Prop} (r : Rep K W u x) (h : (dkeyOf x).run P E) : ∃ k : Key, u = kV k ∧ P k := by
  rcases dkeyOf_run h with ⟨z, rfl, q⟩ | ⟨z, rfl, q⟩
  · exact ⟨.inl z, r.inj_int, q⟩
  · exact ⟨.inr z, r.inj_str, q⟩
theorem se_din {neg : Bool} {tk td : TE} {rk rd : M D} (hk : SE S tk ρ rk) (hd : SE S td ρ rd) : SE S (if neg then tDNotIn tk td else tDIn tk td) ρ (dinM neg rk rd) := fun σ H W H0 Q e w q => by
  have key : tk σ H fun y H1 => td σ H1 fun x H2 => ∃ a o, x = .ref a ∧ DGet H2 a y o ∧ Q (.bl (if neg then !o.isSome else o.isSome)) H2 := by
    refine hk.go e w q (fun _ z => z) fun x v W1 H1 q1 s1 r1 e1 => ?_
    refine hd.go e1 s1.ok q1 (fun x z => z.after w s1) fun d u W2 H2 q2 s2 r2 e2 => ?_
    cases d with
    | dct ds =>
      obtain ⟨a, kvs, rfl, ha, rk⟩ := dct_rep r2
      obtain ⟨k, ek, q3⟩ := key_rep (r1.mono s2.le) q2
      subst ek
      have hg : DGet H2 a (kV k) (valV kvs k) := DGet.k (s2.ok.sub _ _ ha)
      refine ⟨a, _, rfl, hg, ?_⟩
      have hs : (valV kvs k).isSome = (valD ds k).isSome := by
        rcases rk.valD (k := k) with ⟨e1, e2⟩ | ⟨v', d', e1, e2, _⟩ <;> rw [e1, e2] <;> rfl
      rw [hs]
      exact q3 _ W2 H2 (s1.trans w s2) (.bl _)
    | _ => exact (show False from q2).elim
  cases neg
  · exact key
  · exact key
theorem se_dnotin {tk td : TE} {rk rd : M D} (hk : SE S tk ρ rk) (hd : SE S td ρ rd) : SE S (tDNotIn tk td) ρ (dinM true rk rd) := se_din (neg := true) hk hd
theorem se_dinn {tk td : TE} {rk rd : M D} (hk : SE S tk ρ rk) (hd : SE S td ρ rd) : SE S (tDIn tk td) ρ (dinM false rk rd) := se_din (neg := false) hk hd
theorem se_dget {tk td : TE} {rk rd : M D} (hd : SE S td ρ rd) (hk : SE S tk ρ rk) : SE S (tDGet td tk) ρ (dgetM rd rk) := fun σ H W H0 Q e w q => by
  refine hd.go e w q (fun _ z => z) fun d u W1 H1 q1 s1 r1 e1 => ?_
  refine hk.go e1 s1.ok q1 (fun x z => z.after w s1) fun x v W2 H2 q2 s2 r2 e2 => ?_
  cases d with
  | dct ds =>
    obtain ⟨a, kvs, rfl, ha, rk⟩ := dct_rep (r1.mono s2.le)
    obtain ⟨k, ek, q3⟩ := key_rep r2 q2
    subst ek
    obtain ⟨d', e', q4⟩ := ofO_run q3
    rcases rk.valD (k := k) with ⟨e1, e2⟩ | ⟨v', d2, e1, e2, r⟩
    · rw [e'] at e2
      cases e2
    · rw [e'] at e2
      cases e2
      refine ⟨a, v', rfl, ?_, q4 v' W2 H2 (s1.trans w s2) r⟩
      rw [← e1]
      exact DGet.k (s2.ok.sub _ _ ha)
  | _ => exact (show False from q2).elim
theorem se_dget1 {tk td : TE} {rk rd : M D} (hd : SE S td ρ rd) (hk : SE S tk ρ rk) : SE S (tDGet1 td tk) ρ (dget1M rd rk) := fun σ H W H0 Q e w q => by
  refine hd.go e w q (fun _ z => z) fun d u W1 H1 q1 s1 r1 e1 => ?_
  cases d with
  | dct ds =>
    obtain ⟨a, kvs, rfl, ha, rk⟩ := dct_rep r1
    have hH := s1.ok.sub _ _ ha
    refine ⟨a, rfl, Or.inl ⟨kvs, .inl hH⟩, ?_⟩
    refine hk.go e1 s1.ok q1 (fun x z => z.after w s1) fun x v W2 H2 q2 s2 r2 e2 => ?_
    obtain ⟨k, ek, q3⟩ := key_rep r2 q2
    subst ek
    have q3 : Post S.K Q W H ((valD ds k).getD .non) := q3
    have ha2 := s2.le.p _ _ ha
    refine ⟨_, DGet.k (s2.ok.sub _ _ ha2), ?_⟩
    rcases rk.valD (k := k) with ⟨e1', e2'⟩ | ⟨v', d2, e1', e2', r⟩
    · rw [e1']
      rw [e2'] at q3
      exact q3 .non W2 H2 (s1.trans w s2) .non
    · rw [e1']
      rw [e2'] at q3
      exact q3 v' W2 H2 (s1.trans w s2) (r.mono s2.le)
  | _ => exact (show False from q1).elim
theorem lentD {W : Wd} {H H0 : Hp} {σ : L2.St} {i : Nat} {ds : List (Sum Int Str × D)} (e : EnvR S.K W H H0 σ ρ) (w : WOk W H) (h : ρ[i]? = some (.odc ds)) :
    ∃ W1, EnvR S.K W1 H H0 σ (ρ.set i (.val (.dct ds))) ∧ WOk W1 H ∧ (∀ b o, W1.P b = some o → (∀ us, o ≠ .dK us) → W.P b = some o) ∧ ∀ W' H', Step W1 H W' H' → Step W H (backW W H W'.P) H' := by
  obtain ⟨a, vs, h1, h2, h3, h4, h5, h6⟩ := e.owD i ds h
  have le : Le W ⟨upd W.P a (.dK vs), W.N⟩ := le_freeze h3
  have nP : ∀ b o, W.P b = some o → b ≠ a := fun b o z q => by subst q; rw [h3] at z; cases z
  refine ⟨⟨upd W.P a (.dK vs), W.N⟩, ⟨fun j d hj => ?_, fun j es hj => ?_, fun j k es fs b hjk g1 g2 g3 => ?_, by rw [List.length_set, e.ln]⟩, ⟨fun b o z => ?_, fun b φ z => ?_, w.tab, w.tb⟩, fun b o z no => ?_, fun W' H' s => ?_⟩
  · by_cases q : i = j
    · subst q
      rw [List.getElem?_set_self (List.getElem?_eq_some_iff.mp h).1] at hj
      cases hj
      exact ⟨_, h1, .dct upd_same (h6.mono le)⟩
    · rw [List.getElem?_set_ne q] at hj
      obtain ⟨v, g1, g2⟩ := e.dat j d hj
      exact ⟨v, g1, g2.mono le⟩
  · obtain ⟨q, hj⟩ := getElem?_set_no hj (by intro z; cases z)
    obtain ⟨b, us, g1, g2, g3, g4, g5, g6⟩ := e.ow j es hj
    have nb : b ≠ a := fun z => by
      subst z
      exact e.ap i j _ _ b q h hj h1 g1
    exact ⟨b, us, g1, g2, by show (upd W.P a (.dK vs)) b = none; rw [upd_ne nb]; exact g3, g4, g5, g6.mono le⟩
  · obtain ⟨_, g1⟩ := getElem?_set_no g1 (by intro z; cases z)
    obtain ⟨_, g2⟩ := getElem?_set_no g2 (by intro z; cases z)
    exact e.ap j k es fs b hjk g1 g2 g3
  · have z' : (upd W.P a (.dK vs)) b = some o := z
    by_cases q : b = a
    · subst q
      rw [upd_same] at z'
      cases z'
      exact h2
    · rw [upd_ne q] at z'
      exact w.sub b o z'
  · obtain ⟨p1, o, p2, p3⟩ := w.pen b φ z
    refine ⟨?_, o, p2, KIs.mono le.tup p3⟩
    show (upd W.P a (.dK vs)) b = none
    rw [upd_ne (fun q => by subst q; rw [show W.N b = some φ from z] at h4; cases h4)]
    exact p1
  · have z' : (upd W.P a (.dK vs)) b = some o := z
    by_cases q : b = a
    · subst q
      rw [upd_same] at z'
      cases z'
      exact absurd rfl (no _)
    · rwa [upd_ne q] at z'
  · refine ⟨⟨fun b o z => backW_old z, fun _ _ z => z⟩, ⟨fun b o z => ?_, fun b φ z => ?_, s.ok.tab, fun b ps e => by
      obtain ⟨_, q, hq⟩ := s.ok.tb b ps e
      obtain ⟨ps0, e0, _⟩ := w.tab _ hq
      exact w.tb b ps0 e0⟩, fun b o z n => s.old b o z n, fun b hb => ?_, fun _ _ => rfl⟩
    · rcases backW_some z with z | ⟨_, _, z⟩
      · exact s.ok.sub b o (s.le.p b o (le.p b o z))
      · exact s.ok.sub b o (tupP_some z).1
    · obtain ⟨p1, u, p2, _⟩ := w.pen b φ z
      obtain ⟨_, o, q2, q3⟩ := s.ok.pen b φ (s.le.n b φ z)
      refine ⟨backW_was p1 p2, o, q2, KIs.mono (fun c o' xs ec => ?_) q3⟩
      cases ew : W.P c with
      | some u' =>
        have := s.le.p c u' (le.p c u' ew)
        rw [ec] at this
        cases this
        exact backW_old ew
      | none =>
        cases eh : H c with
        | none => rw [backW_new ew eh]; exact tupP_of ec
        | some u' =>
          have e1 := s.newP c (by rw [eh]; intro z; cases z)
          rw [ec] at e1
          have e2 : (upd W.P a (.dK vs)) c = some (.frz o' (.tup xs)) := e1.symm
          by_cases q : c = a
          · subst q
            rw [upd_same] at e2
            cases e2
          · rw [upd_ne q, ew] at e2
            cases e2
    · cases ew : W.P b with
      | some u' => exact backW_old ew
      | none =>
        cases eh : H b with
        | none => exact absurd eh hb
        | some u' => exact backW_was ew eh
theorem xpost_lendD {W W1 : Wd} {H H' : Hp} {W' : Wd} {x : Exn} {cv : Value} {dx : Option Addr} (w : WOk W H) (old : ∀ b o, W1.P b = some o → (∀ us, o ≠ .dK us) → W.P b = some o) (back : ∀ W' H', Step W1 H W' H' → Step W H (backW W H W'.P) H') (st : Step W1 H W' H')
    (hx : XPost S W H x) (rp : XRep S.mg x cv dx W') : S.E cv dx H' := by
  have st0 := back W' H' st
  obtain ⟨C, hC, rfl, hm⟩ := rp
  cases ea : x.args with
  | none =>
    rw [ea] at hm
    exact hx _ _ _ H' st0 ⟨C, hC, rfl, by rw [ea]; exact hm⟩
  | some mn =>
    rw [ea] at hm
    obtain ⟨d, fs, rfl, e1, e2, e3⟩ := hm
    by_cases hd : H d = none
    · have hP : W.P d = none := by
        cases z : W.P d with
        | none => rfl
        | some u => rw [w.sub d u z] at hd; cases hd
      have hN : W.N d = none := by
        cases z : W.N d with
        | none => rfl
        | some φ =>
          obtain ⟨o, e, _⟩ := (w.pen d φ z).2
          rw [e] at hd; cases hd
      have hP2 : (backW W H W'.P).P d = none := by
        rw [backW_new hP hd]
        unfold tupP
        rw [e1]
      refine hx _ _ ⟨upd (backW W H W'.P).P d (.xd fs), W.N⟩ H' (st0.freeze hd (st.ok.sub _ _ e1) hP2 hN) ⟨C, hC, rfl, ?_⟩
      rw [ea]
      exact ⟨d, fs, rfl, upd_same, e2, e3⟩
    · refine hx _ _ _ H' st0 ⟨C, hC, rfl, ?_⟩
      rw [ea]
      exact ⟨d, fs, rfl, backW_old (old d _ ((st.newP d hd).symm.trans e1) (fun us z => by cases z)), e2, e3⟩
theorem sb_lendD {t : TT} {r : M Bool} {i : Nat} {ds : List (Sum Int Str × D)} (h : ρ[i]? = some (.odc ds)) (s : SB S t (ρ.set i (.val (.dct ds))) r) : SB S t ρ r := fun σ H W H0 Q e w q => by
  obtain ⟨W1, e1, w1, old, back⟩ := lentD e w h
  exact s σ H W1 H0 Q e1 w1 (r.mono (fun d hd W' H' st => hd _ H' (back W' H' st)) (fun x hx cv dx W' H' st rp => xpost_lendD w old back st hx rp) q)
end
section
variable {S : Sx} {own : Bool} {ρ : List Sl} {T L : Type} {enc : T → List Sl} {encL : L → List Sl} {ta tb : TS}
theorem ss_freezeD {i : Nat} {ds : List (Sum Int Str × D)} {m : M (Fl T L)} (h : ρ[i]? = some (.odc ds)) (hb : SS S own ta (ρ.set i (.val (.dct ds))) enc encL m) : SS S own ta ρ enc encL m := fun Wf W0 H0 W H σ D w n q => by
  obtain ⟨a, vs, h1, h2, h3, h4, h5, h6⟩ := n.env.owD i ds h
  have st := n.st.freeze h5 h2 h3 h4
  have le : Le W ⟨upd W.P a (.dK vs), W.N⟩ := le_freeze h3
  refine hb Wf W0 H0 ⟨upd W.P a (.dK vs), W.N⟩ H σ D w ⟨⟨fun j d hj => ?_, fun j es hj => ?_, fun j k es fs b hjk g1 g2 g3 => ?_, by rw [List.length_set, n.env.ln]⟩, st.ok, st, n.fl.trans le⟩ q
  · by_cases e : i = j
    · subst e
      rw [List.getElem?_set_self (List.getElem?_eq_some_iff.mp h).1] at hj
      cases hj
      exact ⟨_, h1, .dct upd_same (h6.mono le)⟩
    · rw [List.getElem?_set_ne e] at hj
      obtain ⟨v, g1, g2⟩ := n.env.dat j d hj
      exact ⟨v, g1, g2.mono le⟩
  · obtain ⟨e, hj⟩ := getElem?_set_no hj (by intro z; cases z)
    obtain ⟨b, us, g1, g2, g3, g4, g5, g6⟩ := n.env.ow j es hj
    have nb : b ≠ a := fun z => by
      subst z
      exact n.env.ap i j _ _ b e h hj h1 g1
    exact ⟨b, us, g1, g2, by show (upd W.P a (.dK vs)) b = none; rw [upd_ne nb]; exact g3, g4, g5, g6.mono le⟩
  · obtain ⟨_, g1⟩ := getElem?_set_no g1 (by intro z; cases z)
    obtain ⟨_, g2⟩ := getElem?_set_no g2 (by intro z; cases z)
    exact n.env.ap j k es fs b hjk g1 g2 g3
/-- what was new and is written once more -/
theorem Step.again {W W' : Wd} {H H' : Hp} (s : Step W H W' H') {p : Addr} {o : HO} (hp : H p = none) (hP : W'.P p = none) (hN : W'.N p = none) (hs : Soft H' p) (ho : ∀ ps, o ≠ .tbl ps) : Step W H W' (upd H' p o) :=
  ⟨s.le, s.ok.putO hP hN hs ho, fun b u e n => by rw [upd_ne (fun z => by subst z; rw [hp] at e; cases e)]; exact s.old b u e n, s.newP, s.newN⟩
theorem disp_fin {W : Wd} {H0 H : Hp} {σ : L2.St} {tk tv : TE} {rk rv : M D} {X : List (Sum Int Str × D) → Prop} {Q : VK} {E' : Exn → Prop} (hk : SE S tk ρ rk) (hv : SE S tv ρ rv) (e : EnvR S.K W H H0 σ ρ) (w : WOk W H) (hx : ∀ W1 H1, Step W H W1 H1 → ∀ x, E' x → XPost S W1 H1 x)
    (q : (ddispM rk rv fun es => (⟨fun P _ => P es, fun h _ z => h _ z⟩ : M (List (Sum Int Str × D)))).run X E')
    (fin : ∀ p W2 H2 kvs es, Step W H W2 H2 → H p = none → H2 p = some (.dK kvs) → W2.P p = none → W2.N p = none → RepKv S.K W2 kvs es → X es → Q (.ref p) H2) : tDisp [(tk, tv)] σ H Q := by
  show ∀ p, H p = none → tk σ (upd H p (.dK [])) fun x H1 => tv σ H1 fun y H2 => H2 p = some (.dK []) ∧ ∃ kvs : List (Key × V), [(x, y)] = kvs.map (fun kv => (kV kv.1, kv.2)) ∧ kvs.length ≤ 15 ∧ Q (.ref p) (upd H2 p (.dK (mergeK [] kvs)))
  intro p hp
  have s1 := Step.raw w (o := .dK []) hp
  have hP0 := (nopen w hp).1
  have hN0 := (nopen w hp).2
  refine hk.go (e.step s1) s1.ok q (hx _ _ s1) fun x v1 W1 H1 q1 s2 r1 e2 => ?_
  have s12 := s1.trans w s2
  refine hv.go e2 s12.ok q1 (hx _ _ s12) fun d v W2 H2 q2 s3 r2 e3 => ?_
  have s123 := s12.trans w s3
  obtain ⟨kk, ek, q3⟩ := key_rep (r1.mono s3.le) q2
  subst ek
  have n0 : (upd H p (.dK [])) p ≠ none := by rw [upd_same]; intro z; cases z
  have h1 : H1 p = some (.dK []) := s2.old p _ upd_same hN0
  have hP1 : W1.P p = none := (s2.newP p n0).trans hP0
  have hN1 : W1.N p = none := (s2.newN p n0).trans hN0
  have n1 : H1 p ≠ none := by rw [h1]; intro z; cases z
  have h2 : H2 p = some (.dK []) := s3.old p _ h1 hN1
  have hP2 : W2.P p = none := (s3.newP p n1).trans hP1
  have hN2 : W2.N p = none := (s3.newN p n1).trans hN1
  refine ⟨h2, [(kk, v)], rfl, Nat.le_of_ble_eq_true rfl, ?_⟩
  have sf := s123.again (o := .dK (mergeK [] [(kk, v)])) hp hP2 hN2 (soft_dct h2) (fun _ z => nomatch z)
  exact fin p W2 _ [(kk, v)] [(kk, d)] sf hp upd_same hP2 hN2 (.cons r2 .nil) q3
/-- {k: v} -/
theorem se_disp {tk tv : TE} {rk rv : M D} (hk : SE S tk ρ rk) (hv : SE S tv ρ rv) : SE S (tDisp [(tk, tv)]) ρ (ddispM rk rv fun es => pure (.dct es)) := fun σ H W H0 Q e w q => by
  refine disp_fin (X := fun es => Post S.K Q W H (.dct es)) hk hv e w (fun W1 H1 s x z => z.after w s) q fun p W2 H2 kvs es st hp h2 hP hN r qx => ?_
  exact qx (.ref p) _ H2 (st.freeze hp h2 hP hN) (.dct upd_same (r.mono (le_freeze hP)))
/-- x = {k: v} -/
theorem ss_ddisp {i : Nat} {tk tv : TE} {rk rv : M D} {k : List (Sum Int Str × D) → M (Fl T L)} (hk : SE S tk ρ rk) (hv : SE S tv ρ rv) (hb : ∀ es, SS S own tb (ρ.set i (.odc es)) enc encL (k es)) : SS S own (tSeq (tAsg (tDisp [(tk, tv)]) (gName i)) tb) ρ enc encL (ddispM rk rv k) := fun Wf W0 H0 W H σ D w n q => by
  unfold tSeq tAsg
  refine disp_fin (X := fun es => (k es).run (FlPost S own Wf W0 H0 enc encL D) (XPost S W0 H0)) hk hv n.env n.ok (fun W1 H1 s x z => xpost w (n.st.trans w s) x z) q fun p W2 H2 kvs es st hp h2 hP hN r qx => ?_
  refine hb es Wf W0 H0 W2 _ _ D w ⟨(n.env.step st).setOb i h2 hP hN (n.st.free0 w hp) (.dct r) fun j es' _ hj hs => ?_, st.ok, n.st.trans w st, n.fl.trans st.le⟩ qx
  obtain ⟨b, us, g1, g2, _⟩ := n.env.ow j es' hj
  rw [g1] at hs
  cases hs
  rw [hp] at g2
  cases g2
end
end Ev

namespace Ev
open PySem PySem.Spec PyProof.Rows L2
variable [Tb]
/-! ### what a written tuple's parts are: data, a list or a dict of one's own -/
def PartR (K : PySem.W.Frag) (W : Wd) (H H' : Hp) (v : V) : Sl → Prop
  | .no => False
  | .val d => Rep K W v d
  | .ob c => ∃ a o, v = .ref a ∧ H a = none ∧ H' a = some o ∧ W.P a = none ∧ W.N a = none ∧ HoR K W H' o c
def PostU (K : PySem.W.Frag) (Q : VK) (W : Wd) (H : Hp) (s : Sl) : Prop := ∀ v W' H', Step W H W' H' → PartR K W' H H' v s → Q v H'
def SU (S : Sx) (t : TE) (ρ : List Sl) {X : Type} (c : X → Sl) (r : M X) : Prop :=
  ∀ σ H W H0 Q, EnvR S.K W H H0 σ ρ → WOk W H → r.run (fun x => PostU S.K Q W H (c x)) (XPost S W H) → t σ H Q
section
variable {S : Sx} {ρ : List Sl}
theorem SU.go {t : TE} {X : Type} {c : X → Sl} {r : M X} (s : SU S t ρ c r) {σ : L2.St} {H : Hp} {W : Wd} {H0 : Hp} {Q : VK} {R : X → Prop} {E' : Exn → Prop} (e : EnvR S.K W H H0 σ ρ) (w : WOk W H) (h : r.run R E')
    (hx : ∀ x, E' x → XPost S W H x) (hr : ∀ x v W' H', R x → Step W H W' H' → PartR S.K W' H H' v (c x) → EnvR S.K W' H' H0 σ ρ → Q v H') : t σ H Q :=
  s σ H W H0 Q e w (r.mono (fun x hd v W' H' st rp => hr x v W' H' hd st rp (e.step st)) hx h)
theorem su_val {t : TE} {r : M D} (h : SE S t ρ r) : SU S t ρ Sl.val r := fun σ H W H0 Q e w q => h σ H W H0 Q e w (r.mono (fun d hd v W' H' st rp => hd v W' H' st rp) (fun _ z => z) q)
theorem su_own {t : TE} {r : M (List D)} (h : SO S t ρ r) : SU S t ρ Sl.own r := fun σ H W H0 Q e w q => h σ H W H0 Q e w (r.mono (fun d hd a vs W' H' st h0 h1 h2 h3 rp => hd (.ref a) W' H' st ⟨a, _, rfl, h0, h1, h2, h3, .lst rp⟩) (fun _ z => z) q)
theorem su_dnew : SU S tDNewK ρ Sl.odc (pure []) := fun σ H W H0 Q e w q => by
  intro p hp
  exact q (.ref p) W _ (Step.raw w (o := .dK []) hp) ⟨p, _, rfl, hp, upd_same, (nopen w hp).1, (nopen w hp).2, .dct .nil⟩
/-- the parts, one behind the other; old: what was there -/
inductive Cs (K : PySem.W.Frag) (W : Wd) (H H0 : Hp) : (Addr → Prop) → List V → List Sl → Prop
  | nil {old : Addr → Prop} : Cs K W H H0 old [] []
  | val {old : Addr → Prop} {v : V} {d : D} {vs : List V} {ss : List Sl} : Rep K W v d → Cs K W H H0 old vs ss → Cs K W H H0 old (v :: vs) (.val d :: ss)
  | ob {old : Addr → Prop} {a : Addr} {o : HO} {c : OwnC} {vs : List V} {ss : List Sl} : ¬ old a → H a = some o → W.P a = none → W.N a = none → H0 a = none → HoR K W H o c → Cs K W H H0 (fun b => old b ∨ b = a) vs ss → Cs K W H H0 old (.ref a :: vs) (.ob c :: ss)
theorem Cs.part {K : PySem.W.Frag} {Wa W0 W1 W2 : Wd} {Ha H0 H1 H2 : Hp} {old : Addr → Prop} {v : V} {s : Sl} {vs : List V} {ss : List Sl} (w0 : WOk Wa Ha) (w1 : WOk W0 H0) (a1 : Step Wa Ha W0 H0) (s1 : Step W0 H0 W1 H1) (p : PartR K W1 H0 H1 v s) (s2 : Step W1 H1 W2 H2)
    (ho : ∀ b, old b → H0 b ≠ none) (r : (∀ (old' : Addr → Prop), (∀ b, old' b → H1 b ≠ none) → Cs K W2 H2 Ha old' vs ss)) : Cs K W2 H2 Ha old (v :: vs) (s :: ss) := by
  cases s with
  | no => exact p.elim
  | val d => exact .val (p.mono s2.le) (r old fun b hb => s1.keep w1 (ho b hb))
  | ob c =>
    obtain ⟨a, o, rfl, h0, h1, h2, h3, h4⟩ := p
    have nn : H1 a ≠ none := by rw [h1]; intro z; cases z
    refine .ob (fun z => ho a z h0) (s2.old a o h1 h3) ((s2.newP a nn).trans h2) ((s2.newN a nn).trans h3) (a1.free0 w0 h0) (h4.step s2) (r _ fun b hb => ?_)
    rcases hb with hb | rfl
    · exact s1.keep w1 (ho b hb)
    · exact nn
/-- slots set, one behind the other -/
def setSs {α : Type} (l : List α) : List Nat → List α → List α
  | i :: is, x :: xs => setSs (l.set i x) is xs
  | _, _ => l
theorem Cs.env {K : PySem.W.Frag} {W : Wd} {H H0 : Hp} : ∀ {is : List Nat} {old : Addr → Prop} {vs : List V} {ss : List Sl} {σ : L2.St} {ρ : List Sl}, EnvR K W H H0 σ ρ → (∀ (j : Nat) (c : OwnC) (b : Addr), ρ[j]? = some (.ob c) → σ[j]? = some (some (.ref b)) → old b) → Cs K W H H0 old vs ss → is.length = vs.length →
    EnvR K W H H0 (setSs σ is (vs.map some)) (setSs ρ is ss)
  | [], _, _, _, σ, ρ, e, ho, .nil, _ => e
  | i :: is, old, _, _, σ, ρ, e, ho, .val r c, hl => by
    refine Cs.env (is := is) (e.setVal i r) (fun j c b h1 h2 => ?_) c (by simpa using hl)
    obtain ⟨nj, h1⟩ := getElem?_set_no h1 (by intro z; cases z)
    rw [List.getElem?_set_ne nj] at h2
    exact ho j c b h1 h2
  | i :: is, old, _, _, σ, ρ, e, ho, Cs.ob (a := a) (o := o) (c := c) (vs := vs) (ss := ss) n1 h1 h2 h3 h4 r cs, hl => by
    refine Cs.env (is := is) (e.setOb i h1 h2 h3 h4 r fun j es _ hj hs => n1 (ho j es a hj hs)) (fun j c' b g1 g2 => ?_) cs (by simpa using hl)
    by_cases hij : i = j
    · subst hij
      have hl : i < σ.length := by
        rw [← List.length_set (as := σ) (i := i) (a := some (V.ref a))]
        rw [List.getElem?_eq_some_iff] at g2
        exact g2.1
      rw [List.getElem?_set_self hl] at g2
      cases g2
      exact .inr rfl
    · rw [List.getElem?_set_ne hij] at g1 g2
      exact .inl (ho j c' b g1 g2)
end
section
variable {S : Sx} {own : Bool} {ρ : List Sl} {T L : Type} {enc : T → List Sl} {encL : L → List Sl} {ta tb : TS}
/-- a, b = .. of parts of any kind -/
theorem ss_mix2 {t1 t2 : TE} {i j : Nat} {X1 X2 : Type} {c1 : X1 → Sl} {c2 : X2 → Sl} {r1 : M X1} {r2 : M X2} {k : X1 → X2 → M (Fl T L)} (h1 : SU S t1 ρ c1 r1) (h2 : SU S t2 ρ c2 r2)
    (hb : ∀ x y, SS S own tb ((ρ.set i (c1 x)).set j (c2 y)) enc encL (k x y)) :
    SS S own (tSeq (tPar i j (tCons t1 (tCons t2 tNil))) tb) ρ enc encL (r1 >>= fun x => r2 >>= fun y => k x y) := fun Wf W0 H0 W H σ D w n q => by
  refine h1.go n.env n.ok q (xpost w n.st) fun x v W1 H1 q1 s1 p1 e1 => ?_
  refine h2.go e1 s1.ok q1 (xpost w (n.st.trans w s1)) fun y u W2 H2 q2 s2 p2 e2 => ?_
  have cs := Cs.part (old := fun b => H b ≠ none) (vs := [u]) (ss := [c2 y]) w n.ok n.st s1 p1 s2 (fun _ z => z) fun o1 ho1 =>
    Cs.part (vs := []) (ss := []) w s1.ok (n.st.trans w s1) s2 p2 (Step.refl s2.ok) ho1 fun _ _ => .nil
  have e3 := Cs.env (is := [i, j]) e2 (fun m c b g1 g2 => by
    obtain ⟨a, o, z1, z2, _⟩ := n.env.ow m c g1
    rw [z1] at g2
    cases g2
    show H _ ≠ none
    rw [z2]
    intro z
    cases z) cs rfl
  exact ⟨_, _, rfl, hb x y Wf W0 H0 W2 H2 _ D w ⟨e3, s2.ok, (n.st.trans w s1).trans w s2, n.fl.trans (s1.le.trans s2.le)⟩ q2⟩
theorem ss_mix4 {t1 t2 t3 t4 : TE} {i j l m : Nat} {X1 X2 X3 X4 : Type} {c1 : X1 → Sl} {c2 : X2 → Sl} {c3 : X3 → Sl} {c4 : X4 → Sl} {r1 : M X1} {r2 : M X2} {r3 : M X3} {r4 : M X4} {k : X1 → X2 → X3 → X4 → M (Fl T L)} (h1 : SU S t1 ρ c1 r1) (h2 : SU S t2 ρ c2 r2) (h3 : SU S t3 ρ c3 r3) (h4 : SU S t4 ρ c4 r4)
    (hb : ∀ x y z u, SS S own tb ((((ρ.set i (c1 x)).set j (c2 y)).set l (c3 z)).set m (c4 u)) enc encL (k x y z u)) :
    SS S own (tSeq (tAsg (tTupB (tCons t1 (tCons t2 (tCons t3 (tCons t4 tNil))))) (gTup S.K 4 (gCons (gName i) (gCons (gName j) (gCons (gName l) (gCons (gName m) gNil)))))) tb) ρ enc encL (r1 >>= fun x => r2 >>= fun y => r3 >>= fun z => r4 >>= fun u => k x y z u) := fun Wf W0 H0 W H σ D w n q => by
  refine h1.go n.env n.ok q (xpost w n.st) fun x v1 W1 H1 q1 s1 p1 e1 => ?_
  refine h2.go e1 s1.ok q1 (xpost w (n.st.trans w s1)) fun y v2 W2 H2 q2 s2 p2 e2 => ?_
  refine h3.go e2 s2.ok q2 (xpost w ((n.st.trans w s1).trans w s2)) fun z v3 W3 H3 q3 s3 p3 e3 => ?_
  refine h4.go e3 s3.ok q3 (xpost w (((n.st.trans w s1).trans w s2).trans w s3)) fun u v4 W4 H4 q4 s4 p4 e4 => ?_
  refine ⟨Nat.le_of_lt (small1000 (by simp)), fun p ob hp hd => ?_⟩
  have s5 := Step.raw s4.ok (o := .frz ob (.tup [v1, v2, v3, v4])) hp
  have a1 := n.st.trans w s1
  have a2 := a1.trans w s2
  have a3 := a2.trans w s3
  have a4 := a3.trans w s4
  have s45 := s4.trans s3.ok s5
  have s345 := s3.trans s2.ok s45
  have s2345 := s2.trans s1.ok s345
  have cs := Cs.part (old := fun b => H b ≠ none) (vs := [v2, v3, v4]) (ss := [c2 y, c3 z, c4 u]) w n.ok n.st s1 p1 s2345 (fun _ z => z) fun o1 ho1 =>
    Cs.part (vs := [v3, v4]) (ss := [c3 z, c4 u]) w s1.ok a1 s2 p2 s345 ho1 fun o2 ho2 =>
    Cs.part (vs := [v4]) (ss := [c4 u]) w s2.ok a2 s3 p3 s45 ho2 fun o3 ho3 =>
    Cs.part (vs := []) (ss := []) w s3.ok a3 s4 p4 s5 ho3 fun _ _ => .nil
  have e5 := Cs.env (is := [i, j, l, m]) (e4.step s5) (fun g c b g1 g2 => by
    obtain ⟨a, o, z1, z2, _⟩ := n.env.ow g c g1
    rw [z1] at g2
    cases g2
    show H _ ≠ none
    rw [z2]
    intro z
    cases z) cs rfl
  refine ⟨p, _, rfl, (BqT.sq (.inl ⟨ob, upd_same, hd⟩)), rfl, v1, _, rfl, v2, _, rfl, v3, _, rfl, v4, _, rfl, rfl, ?_⟩
  exact hb x y z u Wf W0 H0 W4 _ _ D w ⟨e5, s5.ok, a4.trans w s5, n.fl.trans (s1.le.trans (s2.le.trans (s3.le.trans s45.le)))⟩ q4
theorem ss_failA {t : TS} : SS S own t ρ enc encL fail := fun Wf W0 H0 W H σ D w n q => (show False from q).elim
end
/-! ### None, or a dict of one's own, told by a def -/
def PostOD (K : PySem.W.Frag) (Q : VK) (W : Wd) (H : Hp) (d : D) : Prop := ∀ v W' H', Step W H W' H' → RetV true K W' H' H v d → Q v H'
def SOD (S : Sx) (t : TE) (ρ : List Sl) (r : M D) : Prop :=
  ∀ σ H W H0 Q, EnvR S.K W H H0 σ ρ → WOk W H → r.run (PostOD S.K Q W H) (XPost S W H) → t σ H Q
section
variable {S : Sx} {ρ : List Sl} {ts : TA} {rs : List (M D)} {n j : Nat} {F : List D → M D}
theorem retv_step {K : PySem.W.Frag} {W1 W' : Wd} {W : Wd} {H H1 H' : Hp} {v : V} {d : D} (w : WOk W H) (s1 : Step W H W1 H1) (r : RetV true K W' H' H1 v d) : RetV true K W' H' H v d := by
  rcases r with ⟨a, us, xs, e1, e2, g1, g2, g3, g4, g5⟩ | ⟨a, us, xs, e1, e2, g1, g2, g3, g4, g5⟩ | r
  · exact .inl ⟨a, us, xs, e1, e2, g1, g2, g3, s1.free0 w g4, g5⟩
  · exact .inr (.inl ⟨a, us, xs, e1, e2, g1, g2, g3, s1.free0 w g4, g5⟩)
  · exact .inr (.inr r)
theorem sod_g (h : SA S ts ρ rs) (hn : rs.length = n) : SOD S (tCallG (spD S.K S.mg true n F) S.E ts) ρ (callM F rs) := fun σ H W H0 Q e w q => by
  refine h.go e w (seqL_len q) (fun _ z => z) fun ds vs W1 H1 q1 s1 r1 e1 => ?_
  exact ⟨W1, ds, s1.ok, r1, q1.1.trans hn, (F ds).mono (fun d hd W' H' v s r => hd v W' H' (s1.trans w s) (retv_step w s1 r)) (fun _ z => z.after w s1) q1.2⟩
end
section
variable {S : Sx} {own : Bool} {ρ : List Sl} {T L : Type} {enc : T → List Sl} {encL : L → List Sl} {ta tb : TS}
/-- return of what a def hands back, its own -/
theorem ss_retg {te : TE} {r : M D} (h : SOD S te ρ r) : SS S true (tRet te) ρ enc encL (r >>= fun d => pure (.rt d)) := fun Wf W0 H0 W H σ D w n q => by
  refine h σ H W H0 _ n.env n.ok (r.mono (fun d hd v W' H' st rv => ?_) (fun x hx => xpost w n.st x hx) q)
  exact hd W' H' v (n.st.trans w st) (retv_step w n.st rv)
/-- x = what a def hands back: None, or a dict of one's own -/
theorem ss_odg {te : TE} {i : Nat} {r : M D} {kn : M (Fl T L)} {kd : List (Sum Int Str × D) → M (Fl T L)} (h : SOD S te ρ r) (hn : SS S own tb (ρ.set i (.val .non)) enc encL kn) (hd : ∀ es, SS S own tb (ρ.set i (.odc es)) enc encL (kd es)) :
    SS S own (tSeq (tAsg te (gName i)) tb) ρ enc encL (odM r kn kd) := fun Wf W0 H0 W H σ D w n q => by
  refine h σ H W H0 _ n.env n.ok (r.mono (fun d hq v W' H' st rv => ?_) (fun x hx => xpost w n.st x hx) q)
  rcases rv with ⟨a, us, xs, rfl, rfl, g1, g2, g3, g4, g5⟩ | ⟨a, us, xs, rfl, rfl, g1, g2, g3, g4, g5⟩ | ⟨rfl, rfl⟩
  · exact (show False from hq).elim
  · refine hd xs Wf W0 H0 W' H' _ D w ⟨(n.env.step st).setOb i g1 g2 g3 (n.st.free0 w g4) (.dct g5) fun j es _ hj hs => ?_, st.ok, n.st.trans w st, n.fl.trans st.le⟩ hq
    obtain ⟨b, vs, z1, z2, _⟩ := n.env.ow j es hj
    rw [z1] at hs
    cases hs
    rw [g4] at z2
    cases z2
  · exact hn Wf W0 H0 W' H' _ D w ⟨(n.env.step st).setVal i .non, st.ok, n.st.trans w st, n.fl.trans st.le⟩ hq
end
/-! ### .. by a def that is handed about -/
section
variable {P : Program} {w : World} {K : PySem.W.Frag} {mg : Str → Option Value} {base : Heap}
def CdVo (P : Program) (w : World) (K : PySem.W.Frag) (mg : Str → Option Value) (base : Heap) (k : Nat) (is : List Nat) (n : Nat) (F : Nat → List D → M D) : Prop :=
  ∀ i ∈ is, ∃ (fd : FuncData) (ps : List Str), PySem.W.keepIn K (.ref (Tb.fa i)) = true ∧ Binds K fd ps [] ∧ GOk P w K mg base false k (Tb.fa i) fd ps (spD K mg true n (F i))
theorem cdvo_nil {k n : Nat} {F : Nat → List D → M D} : CdVo P w K mg base k [] n F := fun _ h => nomatch h
theorem cdvo_cons {x : Str} {i j k n : Nat} {is : List Nat} {ps : List Str} {F : Nat → List D → M D} {G : List D → M D} (c : Cd false P w K mg base x j ps (spD K mg true n G)) (hx : mg x = some (.ref (Tb.fa i))) (hF : F i = G) (h : CdVo P w K mg base k is n F) (hjk : j ≤ k := by decide) : CdVo P w K mg base k (i :: is) n F := fun m hm => by
  rcases List.mem_cons.mp hm with rfl | hm
  · obtain ⟨f, fd, g, kp, b, G1⟩ := c
    rw [hx] at g
    cases g
    rw [hF]
    exact ⟨fd, ps, kp, b, G1.mono hjk⟩
  · exact h m hm
end
def tCallVo (K : PySem.W.Frag) (mg : Str → Option Value) (j : Nat) (is : List Nat) (n : Nat) (F : Nat → List D → M D) (E : XK) (t : TA) : TE := fun σ H Q => ∃ i, i ∈ is ∧ σ[j]? = some (some (.ref (Tb.fa i))) ∧ t σ H fun vs H1 => spD K mg true n (F i) vs H1 Q E
section
variable {X : Cx} {k n j : Nat} {is : List Nat} {F : Nat → List D → M D} {E : XK} {x : Str} {p pos : Pos} {e : Expr} {es : List Expr} {t : TA}
theorem pe_cdvo {K : PySem.W.Frag} {mg : Str → Option Value} (c : CdVo X.prog X.w K mg X.base k is n F) (hr : Room k X.A) (hx : Passes (L2.CX X.prog X.w) X E) (ha : PA X (e :: es) t) (hN : X.N[j]? = some x := by rfl) (hv : Vis X.env.scope x := by first | exact Or.inl rfl | exact Or.inr (Or.inl rfl) | exact Or.inr (Or.inr rfl))
    (hdb : (x == ("__debug__" : Str)) = false := by decide) (hcd : (x == ("__classdict__" : Str)) = false := by decide)
    (he : starEach (e :: es) X.env = (false, eval e X.env) :: starEach es X.env := by rfl) (hpl : (backTo pos (starEach es X.env)).any (·.1) = false := by rfl)
    (hK : X.K = K := by rfl) (hmg : X.mg = mg := by rfl) : PE X (.Call (.Name x p) (e :: es) [] pos) (tCallVo K mg j is n F E t) := by
  subst hK hmg
  constructor
  intro pins s σ H Q I h
  obtain ⟨i, hi, hs, ht⟩ := h
  obtain ⟨fd, ps, kp, b, G⟩ := c i hi
  apply wpAny_Call_Name_kw
  refine thn ((pe_var (pos := p) hN hv hdb hcd).run pins s σ H (fun v H1 => v = .ref (Tb.fa i) ∧ H1 = H) I ⟨.ref (Tb.fa i), hs, rfl, rfl⟩) ?_
  rintro u s1 ⟨v, H1, I1, r1, rfl, rfl⟩
  cases r1
  refine PySem.W.callWith_K (h₀ := X.base) I.ok.mod.kin kp (thn (ha.run pos pins s1 σ _ _ I1 ht) ?_) he hpl
  rintro us s2 ⟨vs, H2, I2, r, q⟩
  exact ⟨I2.kIn, run_g G hr (fun z => nomatch z) b hx I2 r q⟩
end
section
variable {S : Sx} {ρ : List Sl} {ts : TA} {rs : List (M D)} {n j : Nat} {is : List Nat} {F : Nat → List D → M D}
theorem sod_cdv {d : D} (hj : ρ[j]? = some (.val d)) (h : SA S ts ρ rs) (hn : rs.length = n) (hs : ∀ i ∈ is, i < 1000000 := by decide) : SOD S (tCallVo S.K S.mg j is n F S.E ts) ρ (callV is F d rs) := fun σ H W H0 Q e w q => by
  cases d with
  | opq m =>
    unfold callV at q
    by_cases c : m / 2 ∈ is ∧ m % 2 = 0
    · simp only [if_pos c] at q
      obtain ⟨v, hv, rv⟩ := e.dat j _ hj
      have em : m = 2 * (m / 2) := by omega
      rw [em] at rv
      rw [fn_rep (hs _ c.1) rv] at hv
      refine ⟨m / 2, c.1, hv, ?_⟩
      refine h.go e w (seqL_len q) (fun _ z => z) fun ds vs W1 H1 q1 s1 r1 e1 => ?_
      exact ⟨W1, ds, s1.ok, r1, q1.1.trans hn, (F (m / 2) ds).mono (fun d hd W' H' v s r => hd v W' H' (s1.trans w s) (retv_step w s1 r)) (fun _ z => z.after w s1) q1.2⟩
    · simp only [if_neg c] at q
      exact (show False from q).elim
  | _ => exact (show False from q).elim
end
/-! ### dicts of one's own, lent -/
section
variable {S : Sx} {ρ : List Sl}
theorem se_lendD {t : TE} {r : M D} {i : Nat} {ds : List (Sum Int Str × D)} (h : ρ[i]? = some (.odc ds)) (s : SE S t (ρ.set i (.val (.dct ds))) r) : SE S t ρ (r >>= fun d => guard d.scal >>= fun _ => pure d) := fun σ H W H0 Q e w q => by
  obtain ⟨W1, e1, w1, old, back⟩ := lentD e w h
  refine s σ H W1 H0 Q e1 w1 (r.mono (fun d hd v W' H' st rp => ?_) (fun x hx cv dx W' H' st rp => xpost_lendD w old back st hx rp) q)
  exact hd.2 v _ H' (back W' H' st) (scal_rep hd.1 rp)
theorem so_lendD {t : TE} {r : M (List D)} {i : Nat} {ds : List (Sum Int Str × D)} (h : ρ[i]? = some (.odc ds)) (s : SO S t (ρ.set i (.val (.dct ds))) r) : SO S t ρ (r >>= fun xs => guard (∀ d ∈ xs, d.scal) >>= fun _ => pure xs) := fun σ H W H0 Q e w q => by
  obtain ⟨W1, e1, w1, old, back⟩ := lentD e w h
  refine s σ H W1 H0 Q e1 w1 (r.mono (fun xs hd a vs W' H' st h0 g1 g2 g3 rp => ?_) (fun x hx cv dx W' H' st rp => xpost_lendD w old back st hx rp) q)
  refine hd.2 a vs _ H' (back W' H' st) h0 g1 ?_ (nopen w h0).2 (scal_reps hd.1 rp)
  rw [backW_new (nopen w h0).1 h0]
  unfold tupP
  rw [g2]
end
end Ev

namespace Ev
open PySem PySem.Spec PyProof.Rows L2
variable [Tb]
/-! ### a def that hands its lambda on to another one -/
theorem un_past {fs fs' : List Addr} {H H1 H2 : Hp} {h h1 h2 : Heap} (a : Un fs [] H H1 h h1) (b : Un fs' [] H1 H2 h1 h2) (hf : ∀ x ∈ fs', x ∈ fs ∨ h.get? x = none) : Un fs [] H H2 h h2 where
  keep := fun c o q n hc hx => b.keep c o (a.keep c o q n hc hx) (a.free c o q n hx) (fun z => by
    rcases hf c z with z | z
    · exact hc z
    · rw [z] at q; cases q) hx
  slot := fun c o q n hc hx => by
    obtain ⟨sl, q1⟩ := a.slot c o q n hc hx
    obtain ⟨sl2, q2⟩ := b.any q1 (a.free c o q n hx) hx
    exact ⟨sl2, q2⟩
  free := fun c o q n hx => by
    obtain ⟨o', q'⟩ := a.there c o q hx
    exact b.free c o' q' (a.free c o q n hx) hx
  there := fun c o q hx => by
    obtain ⟨o', q'⟩ := a.there c o q hx
    exact b.there c o' q' hx
  tups := fun c xs q => b.tups c xs (a.tups c xs q)
  frzs := fun c o u q => b.frzs c o u (a.frzs c o u q)
  tbls := fun c ps q => by
    obtain ⟨m, q'⟩ := a.tbls c ps q
    obtain ⟨m2, q2⟩ := b.tbls c _ q'
    exact ⟨m ++ m2, by rw [← Array.append_assoc]; exact q2⟩
section
variable {X : Cx} {pins : List (Addr × Obj)} {σ : L2.St} {H : Hp} {s : Shared}
/-- x(), in a def that got the lambda from a def that got it -/
theorem pe_act2 {CXg : CXT} {Eg : XK} {Ng : List Str} {qg : Str} {sg : Scope} {g f c' : Addr} {cdg pm ctv : Value} {params : Arguments} {body : Expr} {scope : Scope} {k i : Nat} {a : Str} {pn : List (Addr × Obj)} {xe : Value → Shared → Prop} {W : WX} {E : XK} {tb : TE} {p1 p2 : Pos}
    {A0 : Around} {st0 : List Env} {s0 : Shared} {H0 : Hp}
    (I : L2.Inv X pins σ H s) (L : LamX.LamS X.env.scope scope) (hf : s.heap.get? f = some (PySem.W.kla_obj "<lambda>" (X.env.qual ++ "<lambda>") params body scope (cloFrom X.env.cells scope.names []) pm c' ctv)) (hfn : H f = none) (hfr : f ∉ frs X.stack)
    (hbind : bindArgs (PySem.W.kla_fn "<lambda>" (X.env.qual ++ "<lambda>") params body scope (cloFrom X.env.cells scope.names []) pm (.ref c') ctv) ⟨[], []⟩ = pure [])
    (tk : Takes ((cxOf CXg X.prog X.w X.K X.mg X.base Ng qg sg g cdg A0 st0 s0 H0 Eg).tr pn xe) W) (hW : ∀ cls d σ' H', E cls d H' → W cls d σ' H') (hr : Room (k + 1) (A0.deeper (envOfC qg sg s0.heap.objs.size g cdg)))
    (past0 : Un (frs X.stack) [] H H0 s.heap s0.heap) (hsub : ∀ b ∈ frs st0, b ∈ frs X.stack ∨ s.heap.get? b = none)
    (hbody : ∀ (A : Around) (outer : List Env) (s : Shared) (H : Hp), Room k (A.deeper (LamX.lamEnv X scope s.heap.objs.size f c')) → PE (LamX.lamCx X A outer s H E scope f c') body tb)
    (hN : Ng[i]? = some a) (hv : Vis sg a) (hd : (a == ("__debug__" : Str)) = false) (hcd : (a == ("__classdict__" : Str)) = false) :
    PE ((cxOf CXg X.prog X.w X.K X.mg X.base Ng qg sg g cdg A0 st0 s0 H0 Eg).tr pn xe) (.Call (.Name a p1) [] [] p2)
      (fun σZ HZ Q => σZ[i]? = some (some (.ref f)) ∧ HZ c' = some (LamX.CodeO c' (X.env.qual ++ "<lambda>")) ∧ tb σ HZ Q) := by
  constructor
  intro pinsZ sZ σZ HZ Q IZ h
  obtain ⟨hs, hc, ht⟩ := h
  apply wpAny_Call_Name_kw
  refine thn ((pe_var (pos := p1) (i := i) hN hv hd hcd).run pinsZ sZ σZ HZ (fun v H1 => v = .ref f ∧ H1 = HZ) IZ ⟨.ref f, hs, rfl, rfl⟩) ?_
  rintro u s1 ⟨v, H1, I1, rv, rfl, rfl⟩
  cases rv
  have un1 : Un (frs st0) [] H0 H1 s0.heap s1.heap := I1.base
  have un : Un (frs X.stack) [] H H1 s.heap s1.heap := un_past past0 un1 hsub
  have of1 : s1.heap.get? f = some (PySem.W.kla_obj "<lambda>" (X.env.qual ++ "<lambda>") params body scope (cloFrom X.env.cells scope.names []) pm c' ctv) := un.keep f _ hf hfn hfr (fun z => nomatch (show f ∈ ([] : List Addr) from z))
  apply PySem.W.callWith_F0 ⟨_, _, _, _, of1⟩
  obtain ⟨⟨oc, vs, t, hoc, hdc, hvc⟩, _, _⟩ := I1.hok c' _ hc
  have rc : codeAny (model X.prog X.w) (A0.deeper (envOfC qg sg s0.heap.objs.size g cdg)) (.call (.ref f) ⟨[], []⟩) (CR (L2.CX X.prog X.w) (envOfC qg sg s0.heap.objs.size g cdg :: st0) X.prog X.w H1 s1 Q E) s1 := by
    apply PySem.W.kla_callFunE hr.depth of1 rfl L.co L.gen rfl ⟨c', oc, vs, t, rfl, hoc, hdc, hvc⟩
    rw [hbind]
    apply wpAny_pure
    refine wpAny_newFunctionEnv (fun y hy => (L.own y hy).2) (fun y hy => absurd hy (by simp)) (fun h₁ hns hsb => ⟨I1.nolimit.fresh _ hsb, ?_⟩) L.kind
    show codeAny _ _ (.expr body (LamX.lamEnv X scope s1.heap.objs.size f c')) _ _
    have kp : ∀ b o, s1.heap.get? b = some o → h₁.get? b = some o := fun b o e => hsb.extBut b o (Nat.ne_of_lt (Heap.lt_size e)) (Heap.get?_push_of_some _ e)
    have J : L2.Inv (LamX.lamCx X (A0.deeper (envOfC qg sg s0.heap.objs.size g cdg)) (envOfC qg sg s0.heap.objs.size g cdg :: st0) s1 H1 E scope f c') [] σ H1 { s1 with heap := h₁, toks := s1.toks + ([] : List (Str × Value)).length } :=
      LamX.lam_start2 I L I1.env0 hr.hd un hns kp
    apply PySem.W.kla_codeExpr
    refine wpAny_mono ((hbody _ _ s1 H1 (hr.deeper _)).run [] _ _ H1 Q J ht) (fun v s' hq => ?_) fun _ _ z => z
    obtain ⟨w', H', J', rv, q⟩ := hq
    exact ⟨w', H', J'.os, J'.bare, J'.base, J'.hok, rv, q⟩
  have hx : Passes (L2.CX X.prog X.w) ((cxOf CXg X.prog X.w X.K X.mg X.base Ng qg sg g cdg A0 st0 s0 H0 Eg).tr pn xe) E := passes_call tk hW
  apply wpAny_call
  refine codeAny_mono rc ?_
  intro r s' hq
  match r, hq with
  | .error e, hq => exact hx pinsZ σZ H1 s1 e s' I1 hq
  | .ok (.ret u), hq => exact I1.after hq
  | .ok .next, hq => exact False.elim hq
  | .ok .brk, hq => exact False.elim hq
  | .ok .cont, hq => exact False.elim hq
end
/-- like Gv, with room for one call more -/
def Gv1 (P : Program) (w : World) (K : PySem.W.Frag) (mg : Str → Option Value) (base : Heap) (x : Str) (TT : (XK → Hp → VK → Prop) → Hp → VK → Prop) : Prop :=
  ∀ (X : Cx) {c B : Addr} {k : Nat} {pa : Arguments} {bo : Expr} {sc : Scope} {t : XK → TE} {p lpos pos : Pos}, X.prog = P → X.w = w → X.K = K → X.mg = mg → X.base = base → Gl X x → LamX.TabB X.base X.mg c B → X.env.code = .ref c →
    (B, X.env.qual ++ "<lambda>") ∈ Tb.T → (∀ p ∈ Tb.T, p.1 = B → p.2 = X.env.qual ++ "<lambda>") → Room (k + 5) X.A → LamX.LamS X.env.scope sc → defaultsOf pa X.env = ([], []) →
    (∀ (q : Str) (cl : List (Str × Addr)) (pm cv ctv : Value), bindArgs (PySem.W.kla_fn "<lambda>" q pa bo sc cl pm cv ctv) ⟨[], []⟩ = pure []) →
    (∀ (A : Around) (outer : List Env) (s : Shared) (H : Hp) (E : XK) (f N : Addr), Room k (A.deeper (LamX.lamEnv X sc s.heap.objs.size f N)) → PE (LamX.lamCx X A outer s H E sc f N) bo (t E)) →
    PE X (.Call (.Name x p) [.Lambda pa bo sc lpos] [] pos) (tLm TT t)
theorem pe_gv1 {X : Cx} {x : Str} {TT : (XK → Hp → VK → Prop) → Hp → VK → Prop} {c B : Addr} {k : Nat} {pa : Arguments} {bo : Expr} {sc : Scope} {t : XK → TE} {p lpos pos : Pos} (G : Gv1 X.prog X.w X.K X.mg X.base x TT) (hgl : Gl X x) (tB : LamX.TabB X.base X.mg c B) (hcode : X.env.code = .ref c)
    (hmT : (B, X.env.qual ++ "<lambda>") ∈ Tb.T) (hu : ∀ p ∈ Tb.T, p.1 = B → p.2 = X.env.qual ++ "<lambda>") (hr : Room (k + 5) X.A) (L : LamX.LamS X.env.scope sc) (hdef : defaultsOf pa X.env = ([], []))
    (hbind : ∀ (q : Str) (cl : List (Str × Addr)) (pm cv ctv : Value), bindArgs (PySem.W.kla_fn "<lambda>" q pa bo sc cl pm cv ctv) ⟨[], []⟩ = pure [])
    (hbody : ∀ (A : Around) (outer : List Env) (s : Shared) (H : Hp) (E : XK) (f N : Addr), Room k (A.deeper (LamX.lamEnv X sc s.heap.objs.size f N)) → PE (LamX.lamCx X A outer s H E sc f N) bo (t E)) :
    PE X (.Call (.Name x p) [.Lambda pa bo sc lpos] [] pos) (tLm TT t) := G X rfl rfl rfl rfl rfl hgl tB hcode hmT hu hr L hdef hbind hbody
/-- what the other one tells is gone on with -/
def FwdP (K : PySem.W.Frag) (B : D → M (Fl Unit Empty)) (Q : VK) : VK := fun v H' => ∃ W d, WOk W H' ∧ Rep K W v d ∧ (endB false (B d)).run (fun dd => ∀ W'' H'' v', Step W H' W'' H'' → Rep K W'' v' dd → Q v' H'') (fun _ => False)
def TTfwd (K : PySem.W.Frag) (TT : (XK → Hp → VK → Prop) → Hp → VK → Prop) (B : D → M (Fl Unit Empty)) : (XK → Hp → VK → Prop) → Hp → VK → Prop := fun tl H Q => TT tl H (FwdP K B Q)
theorem se_fgot {S : Sx} {ρ : List Sl} {r : M D} {t : XK → TE} {xs : List Str} {F : Str → List D → M D} {B : D → M (Fl Unit Empty)} (h : ∀ E, SE ⟨S.K, S.mg, E⟩ (t E) ρ r) : SE S (tLm (TTfwd S.K (TTgot S.K S.mg xs F) B) t) ρ (gotM xs F r >>= fun d => nox (endB false (B d))) := fun σ H W H0 Q en w q => by
  have g := se_got (S := S) (ρ := ρ) (xs := xs) (F := F) h σ H W H0 (FwdP S.K B Q) en w ((gotM xs F r).mono (fun d hd v W' H' st rv => ?_) (fun _ z => z) q)
  · exact g
  · have hd : (endB false (B d)).run (Post S.K Q W H) (fun _ => False) := hd
    exact ⟨W', d, st.ok, rv, (endB false (B d)).mono (fun dd hq W'' H'' v' s'' r'' => hq v' W'' H'' (st.trans w s'') r'') (fun _ z => z) hd⟩
set_option maxHeartbeats 400000 in
theorem fwd_gv {P : Program} {w : World} {K : PySem.W.Frag} {mg : Str → Option Value} {base : Heap} {x y a v1 : Str} {st : Stmt} {rest : List Stmt} {TT : (XK → Hp → VK → Prop) → Hp → VK → Prop} {B : D → M (Fl Unit Empty)} {pv0 py pa0 pc pq : Pos} (d : Df K mg x st [a]) (sc : FnScope [a, v1] [a] (defScope st)) (c2 : Gk P w K mg base y TT)
    (hb0 : defBody st = .Assign [.Name v1 pv0] (.Call (.Name y py) [.Name a pa0] [] pc) pq :: rest) (hva : Vis (defScope st) a) (hgy : (defScope st).names.lookup y = some NameKind.globalImplicit) (hlv : (defScope st).names.lookup v1 = some NameKind.local)
    (hrest : ∀ (g : Addr) (cdv : Value) (A : Around) (outer : List Env) (s : Shared) (H : Hp), Room 3 (A.deeper (envOfC x (defScope st) s.heap.objs.size g cdv)) →
      ∃ t, PSs (cxOf C8.CX0 P w K mg base [a, v1] x (defScope st) g cdv A outer s H C8.E0) rest t ∧ ∀ dd, SS ⟨K, mg, C8.E0⟩ false t [.no, .val dd] (enc0 2) noE (B dd))
    (hdb : (x == ("__debug__" : Str)) = false := by decide) (hda : (a == ("__debug__" : Str)) = false := by decide) (hca : (a == ("__classdict__" : Str)) = false := by decide) (hdy : (y == ("__debug__" : Str)) = false := by decide) : Gv1 P w K mg base x (TTfwd K TT B) := by
  intro X c Bc k pa bo scl t p lpos pos hP hw hK hmg hbase hgl tB hcode hmT hu hr L hdef hbind hbody
  subst hP hw hK hmg hbase
  obtain ⟨g, fd, Fn, hm, hb, _⟩ := d
  obtain ⟨oc, od, kV, doc, pm, an, cdv, ct, osl, rfl, lk, hcg⟩ := Fn.ex
  obtain ⟨a2, st2, Ng2, ⟨g2, fd2, Fn2, hm2, hb2, _⟩, sc2, hNg2, hva2, G2, hda2, hca2⟩ := c2
  obtain ⟨oc2, od2, kV2, doc2, pm2, an2, cdv2, ct2, osl2, rfl, lk2, hcg2⟩ := Fn2.ex
  constructor
  intro pins s σ H Q I h
  obtain ⟨hT, h⟩ := h
  apply wpAny_Call_Name_kw
  refine ld_glob I hgl hm (PySem.W.callWith_K (h₀ := X.base) I.ok.mod.kin Fn.kp ?_ (by rfl) (by rfl)) hdb
  show wpAny _ _ (spliced ((false, eval (.Lambda pa bo scl lpos) X.env) :: backTo pos (starEach [] X.env))) _ _ s
  apply Calls.spliced_cons
  apply make_lam I tB hcode hmT hu hT hdef (L.has I.ok)
  intro f N pm' ctv H1 s' J turns T1 hf hfn hfr hco
  refine Calls.spliced_nil ⟨J.kIn, ?_⟩
  apply wpAny_call
  have ran : codeAny (model X.prog X.w) X.A (.call (.ref g) ⟨[.ref f], []⟩) (CR C8.CX0 X.stack X.prog X.w H1 s' Q C8.E0) s' := by
    apply LamX.run_ofS (N := [a, v1]) (ps := [a]) (us := [.ref f]) (vs := [.ref f]) (k := k + 4) lk hcg sc hr J.env0 (hb s' [.ref f] J.kIn rfl) (.cons rfl .nil) rfl
    intro hr'
    obtain ⟨tr, pr, sr⟩ := hrest g cdv X.A X.stack s' H1 (hr'.mono (by omega))
    have hsub : ∀ b ∈ frs (envOfC x (defScope st) s'.heap.objs.size g cdv :: X.stack), b ∈ frs X.stack ∨ s'.heap.get? b = none := fun b hb => by
      rcases List.mem_cons.mp (show b ∈ s'.heap.objs.size :: frs X.stack from hb) with rfl | hb
      · refine .inr ?_
        cases e : s'.heap.get? s'.heap.objs.size with
        | none => rfl
        | some o => exact absurd (Heap.lt_size e) (Nat.lt_irrefl _)
      · exact .inl hb
    -- the call of the other one
    have pcall : PE (cxOf C8.CX0 X.prog X.w X.K X.mg X.base [a, v1] x (defScope st) g cdv X.A X.stack s' H1 C8.E0) (.Call (.Name y py) [.Name a pa0] [] pc)
        (fun σZ HZ Q' => ∃ Q0 : VK, (∀ v H', Q0 v H' → Q' v H') ∧ σZ[0]? = some (some (.ref f)) ∧ HZ N = some (LamX.CodeO N (X.env.qual ++ "<lambda>")) ∧ TT (fun E H' Q'' => t E σ H' Q'') HZ Q0) := by
      constructor
      intro pinsZ sZ σZ HZ Q' IZ hz
      obtain ⟨Q0, hQ0, h0, hcN, hTT⟩ := hz
      have pv : PE (cxOf C8.CX0 X.prog X.w X.K X.mg X.base [a, v1] x (defScope st) g cdv X.A X.stack s' H1 C8.E0) (.Name a pa0) (tVar 0) := pe_var (i := 0) rfl hva hda hca
      apply wpAny_Call_Name_kw
      refine ld_glob IZ hgy hm2 (PySem.W.callWith_K (h₀ := X.base) IZ.ok.mod.kin Fn2.kp (thn ((pa_cons pv pa_nil).run pc pinsZ sZ σZ HZ (fun vs H3 => vs = [.ref f] ∧ H3 = HZ) IZ ⟨_, h0, rfl, rfl⟩) ?_) (by rfl) (by rfl)) hdy
      rintro us s2 ⟨vs, H2, I2, rv, rfl, rfl⟩
      refine ⟨I2.kIn, wpAny_call ?_⟩
      have past : Un (frs X.stack) [] H1 H2 s'.heap s2.heap := I2.base
      have e20 : Env0 X.prog X.w X.K X.mg X.base (X.A.deeper (envOfC x (defScope st) s'.heap.objs.size g cdv)) (envOfC x (defScope st) s'.heap.objs.size g cdv :: X.stack) s2 H2 := I2.env0
      have ran2 : codeAny (model X.prog X.w) (X.A.deeper (envOfC x (defScope st) s'.heap.objs.size g cdv)) (.call (.ref g2) ⟨us, []⟩) (CR C8.CX0 (envOfC x (defScope st) s'.heap.objs.size g cdv :: X.stack) X.prog X.w H2 s2 Q0 C8.E0) s2 := by
        apply LamX.run_ofS (N := Ng2) (ps := [a2]) (us := us) (vs := [.ref f]) (k := k + 3) lk2 hcg2 sc2 hr' e20 (by
          obtain ⟨u, rfl, ru⟩ := rv.one
          exact hb2 s2 [u] I2.kIn rfl) rv rfl
        intro hr2
        have act := fun (W : WX) (pn : List (Addr × Obj)) (xe : Value → Shared → Prop) (E : XK) (q1 q2 : Pos) (tk : Takes ((cxOf C8.CX0 X.prog X.w X.K X.mg X.base Ng2 y (defScope st2) g2 cdv2 (X.A.deeper (envOfC x (defScope st) s'.heap.objs.size g cdv)) (envOfC x (defScope st) s'.heap.objs.size g cdv :: X.stack) s2 H2 C8.E0).tr pn xe) W) (hW : ∀ cls d σ' H', E cls d H' → W cls d σ' H') =>
          pe_act2 (A0 := X.A.deeper (envOfC x (defScope st) s'.heap.objs.size g cdv)) (st0 := envOfC x (defScope st) s'.heap.objs.size g cdv :: X.stack) (s0 := s2) (H0 := H2) (k := k) (i := 0) (p1 := q1) (p2 := q2) J L hf hfn hfr (hbind _ _ _ _ _) tk hW (hr2.mono (by omega)) past hsub (fun A outer s H hr3 => hbody A outer s H E f N hr3) hNg2 hva2 hda2 hca2
        obtain ⟨t', ht', hq'⟩ := G2 (cxOf C8.CX0 X.prog X.w X.K X.mg X.base [a, v1] x (defScope st) g cdv X.A X.stack s' H1 C8.E0) g2 cdv2 (X.env.qual ++ "<lambda>") s2 H2 rfl rfl rfl rfl rfl (hr2.mono (by omega)) f N Q0 (fun E H' Q'' => t E σ H' Q'') act hcN hTT
        exact ⟨t', ht'.nox, hq'⟩
      refine codeAny_mono ran2 ?_
      intro r s3 hq
      match r, hq with
      | .error e, hq => exact (show False from hq).elim
      | .ok (.ret u), hq =>
        obtain ⟨v', H', I', rv', q'⟩ := I2.after hq
        exact ⟨v', H', I', rv', hQ0 _ _ q'⟩
      | .ok .next, hq => exact False.elim hq
      | .ok .brk, hq => exact False.elim hq
      | .ok .cont, hq => exact False.elim hq
    rw [hb0]
    refine ⟨_, pss_cons (ps_set (i := 1) sc.nd rfl (.inl hlv) pcall) pr, ?_⟩
    refine ⟨FwdP X.K B Q, fun v H' hv => ?_, rfl, hco, h H1 turns T1⟩
    obtain ⟨W, dd, wk, rd, q⟩ := hv
    refine sr dd W W H' W H' [some (.ref f), some v] _ wk ⟨⟨fun j d' hj => ?_, fun j es hj => ?_, fun j l es fs b hjk g1 g2 g3 => ?_, rfl⟩, wk, Step.refl wk, Le.refl W⟩ ?_
    · match j, hj with
      | 0, hj => cases hj
      | 1, hj => cases hj; exact ⟨v, rfl, rd⟩
      | j + 2, hj => simp at hj
    · match j, hj with
      | 0, hj => cases hj
      | 1, hj => cases hj
      | j + 2, hj => simp at hj
    · match j, g1 with
      | 0, g1 => cases g1
      | 1, g1 => cases g1
      | j + 2, g1 => simp at g1
    · refine (B dd).mono (fun fl hf => ?_) (fun _ z => z.elim) q
      cases fl with
      | nx _ => exact fun W' H' σ n => hf W' H' .non n.st .non
      | rt d => exact hf
      | bk e => exact e.elim
      | ct e => exact e.elim
  refine codeAny_mono ran ?_
  intro r s2 hq
  match r, hq with
  | .error e, hq => exact (show False from hq).elim
  | .ok (.ret u), hq => exact J.after hq
  | .ok .next, hq => exact False.elim hq
  | .ok .brk, hq => exact False.elim hq
  | .ok .cont, hq => exact False.elim hq
end Ev

namespace PySem.SeqAt
open AutoSeq1 (wpAny_loadPart')
open MeetsSeq
section
variable {M : Model} {A : Around} {E : Value → Shared → Prop} {s : Shared}
theorem dict_eq_declines_str (l : Addr) (dt : Data) (dd : Option Addr) (sl : Array (Option Value)) (b : Str) (u : Tok) :
    Meets (Builtin.«dict.__eq__» ⟨[.ref l, .str b u], []⟩) (fun _ R s => s.heap.get? l = some { cls := .type "dict", dict := dd, data := dt, slots := sl } ∧ R (.ok (.ret .notImplemented)) s) :=
  .of_wp fun prog w A R s h => by
    obtain ⟨hp, g, d, tk, os⟩ := s
    obtain ⟨hl, h⟩ := h
    have f1 := F.sub_str_dict
    wp_walk using wpAny_loadPart' hl
    exact ⟨_, rfl, h⟩
theorem str_eq_declines_dct (b : Str) (u : Tok) (l : Addr) (c : Value) (es : Array DictEntry) (ep : Nat) (dd : Option Addr) (sl : Array (Option Value)) :
    Meets (Builtin.«str.__eq__» ⟨[.str b u, .ref l], []⟩) (fun _ R s => s.heap.get? l = some { cls := c, dict := dd, data := .dict es ep, slots := sl } ∧ R (.ok (.ret .notImplemented)) s) :=
  .of_wp fun prog w A R s h => by obtain ⟨hp, g, d, tk, os⟩ := s; obtain ⟨hl, h⟩ := h; wp_walk using wpAny_loadPart' hl, wpAny_load hl; exact ⟨_, rfl, h⟩
end
end PySem.SeqAt
namespace Ev
open PySem PySem.Spec PyProof.Rows L2
variable [Tb]
/-! ### texts: the rules -/
section
variable {X : Cx}
theorem op_eq_ds (hu : X.A.units + 64 < cLine) : OpR X (compareOp .Eq) (fun x y H Q => ∃ a kvs z, x = .ref a ∧ H a = some (.dK kvs) ∧ y = .str z ∧ Q (.bl false) H) := by
  intro pins s σ H x y v u Q I rx ry h
  obtain ⟨a, kvs, z, rfl, ha, rfl, q⟩ := h
  obtain rfl : v = Value.ref a := rx
  obtain ⟨t, rfl⟩ := ry
  obtain ⟨hz, hsys, vs, rel, dof⟩ := dk_of I.hok ha
  obtain ⟨⟨cls, dd, dt, sl⟩, es, ep, ho, hx, hd, _⟩ := dof
  obtain ⟨hc, _⟩ := hx
  simp only at hc hd
  subst hc hd
  show wpAny _ _ (richCompare .Eq (.ref a) (.str z t)) _ _ _
  exact SeqAt.rc_eq_decline_or (k := false) ⟨_, ho, rfl⟩ (typeIs_str s z t) (by decide) F.sub_str_dict F.slot_dict_eq F.slot_str_eq_refl
    (fun _ hq => call_meets F.slot_dict_eq ⟨_, ho, rfl⟩ F.entry_dict_eq (F.args_dict_eq_2 _ _) (SeqAt.dict_eq_declines_str a (.dict es ep) dd sl z t) ⟨ho, hq⟩)
    (fun _ hq => call_meets F.slot_str_eq_refl (typeIs_str s z t) F.entry_str_eq (F.args_str_eq_2 _ _) (SeqAt.str_eq_declines_dct z t a (.type "dict") es ep dd sl) ⟨ho, hq⟩)
    (fun _ hq => wpAny_of_eq (rfl : isSame (.ref a) (.str z t) = pure false) hq) (.inr (by omega)) ⟨.bl false, H, I, rfl, q⟩
theorem op_mulStr : OpR X (binaryOp .Mult) (fun x y H Q => ∃ z n, x = .str z ∧ y = .int n ∧ 0 ≤ n ∧ n ≤ 1000 ∧ z.length ≤ 1000 ∧ Q (.str (Txt.mul z n)) H) := by
  intro pins s σ H x y v u Q I rx ry h
  obtain ⟨z, n, rfl, rfl, n0, n1, hz, q⟩ := h
  obtain ⟨t, rfl⟩ := rx
  obtain ⟨t', rfl⟩ := ry
  refine SB.mul ⟨?_, fun h1 _ h2 => ?_, fun h1 _ => ?_⟩ fun t2 k => ⟨.str _, H, I.tok _, ⟨_, rfl⟩, q⟩
  · rw [decide_eq_false (by omega), decide_eq_false (by omega)]
    rfl
  · have : (1000 : Int) ≤ (2 ^ 63 - 1) / n := Int.le_ediv_of_mul_le (by omega) (by omega)
    omega
  · have h3 : z.length * n.toNat ≤ 1000 * 1000 := Nat.mul_le_mul hz (by omega)
    show decide (_ > sizeLine) = false
    exact decide_eq_false (by rw [sizeLine_eq]; omega)
theorem op_mulX {K : PySem.W.Frag} (hK : X.K = K) : OpR X (binaryOp .Mult) (fun x y H Q => (∃ z n, x = .str z ∧ y = .int n ∧ 0 ≤ n ∧ n ≤ 1000 ∧ z.length ≤ 1000 ∧ Q (.str (Txt.mul z n)) H) ∨ rMulB K x y H Q) := op_mulStr.or (op_mulB hK)
/-- gone through: a list, a tuple, a text -/
def iAll (K : PySem.W.Frag) (tl : TE) : TI := fun σ H R => tl σ H fun x H1 => (∃ a, x = .ref a ∧ ((∃ xs, SqL K H1 a xs) ∧ R (Itl K a) H1 ∨ (∃ xs, SqT K H1 a xs) ∧ R (Itt K a) H1)) ∨ ∃ z, x = .str z ∧ R (Its z) H1
theorem pi_all {K : PySem.W.Frag} {tg l : Expr} {tl : TE} (hK : X.K = K) (hl : PE X l tl) : PI X tg l (iAll K tl) := by
  subst hK
  constructor
  intro pins s σ H R I h
  refine thn (hl.run pins s σ H _ I h) ?_
  rintro v s1 ⟨x, H1, I1, r1, q⟩
  rcases q with ⟨a, rfl, q⟩ | ⟨z, rfl, q⟩
  · have ev : v = Value.ref a := r1
    subst ev
    have new : ∀ o : Obj, L2.Inv X pins σ H1 { s1 with heap := s1.heap.push o } := fun o => I1.kept (t' := s1.toks) fun b u e => Heap.get?_push_of_some _ e
    have fp : ∀ b ∈ [s1.heap.objs.size], FpOk X pins H1 b := by
      intro b hb
      obtain rfl := List.mem_singleton.mp hb
      exact I1.fpOk (Nat.le_refl _) (I1.hok.fresh (Nat.le_refl _))
    rcases q with ⟨⟨xs, hx⟩, q⟩ | ⟨⟨xs, hx⟩, q⟩
    · obtain ⟨its, rv, pl, _⟩ := I1.list hx
      exact wpAny_pyIter_list pl.isList
        ⟨_, _, _, _, H1, rfl, new _, turn_list a _, ⟨_, Heap.get?_push_size _ rfl, rfl, rfl⟩, fp, q⟩
    · obtain ⟨its, rv, pl, _⟩ := I1.tuple hx
      exact wpAny_pyIter_tuple (show s1.heap.IsTuple a its.toArray from pl)
        ⟨_, _, _, _, H1, rfl, new _, turn_tuple a _, ⟨_, Heap.get?_push_size _ rfl, rfl, rfl⟩, fp, q⟩
  · obtain ⟨t, rfl⟩ := r1
    cases ha : z.cps.all (· < 128)
    · exact wpAny_pyIter_wide ha (pi_one (tk := s1.toks) I1 _ (turn_str _ z t "str_iterator" (.inr rfl)) ⟨_, Heap.get?_push_size _ rfl, rfl, rfl⟩ q)
    · exact wpAny_pyIter_ascii ha (pi_one (tk := s1.toks) I1 _ (turn_str _ z t "str_ascii_iterator" (.inl rfl)) ⟨_, Heap.get?_push_size _ rfl, rfl, rfl⟩ q)
theorem ix_X {K : PySem.W.Frag} (h : X.K = K) : IxR X (fun x y H Q => rIxS x y H Q ∨ rIxA K x y H Q) := ix_str.or (ix_anyK h)
theorem sl_X {K : PySem.W.Frag} (h : X.K = K) : SlR X (fun x lo hi H Q => L2.rSlS x lo hi H Q ∨ rSlAll K x lo hi H Q) := sl_str.or (sl_anyK h)
def rInS (neg : Bool) : R2 := fun x y H Q => ∃ (c : Nat) (z : Str), x = .str ⟨#[c]⟩ ∧ y = .str z ∧ Q (.bl (if neg then !decide (c ∈ z.cps.toList) else decide (c ∈ z.cps.toList))) H
theorem op_inX {K : PySem.W.Frag} {k : Nat} (hK : X.K = K) (hr : Room k X.A) : OpR X (compareOp .In) (fun x y H Q => rInS false x y H Q ∨ rInA K x y H Q) := OpR.or (r := rInS false) op_in_sign (op_inA hK hr)
theorem op_notinX {K : PySem.W.Frag} {k : Nat} (hK : X.K = K) (hr : Room k X.A) : OpR X (compareOp .NotIn) (fun x y H Q => rInS true x y H Q ∨ rNotInA K x y H Q) := OpR.or (r := rInS true) op_notIn_sign (op_notinA hK hr)
theorem op_eqX {K : PySem.W.Frag} (hK : X.K = K) (hu : X.A.units + 64 < cLine) : OpR X (compareOp .Eq) (fun x y H Q => (∃ a kvs z, x = .ref a ∧ H a = some (.dK kvs) ∧ y = .str z ∧ Q (.bl false) H) ∨ rEqA K x y H Q) := (op_eq_ds hu).or (op_eqK hK hu)
end
/-! ### texts: what they mean -/
section
variable {S : Sx} {ρ : List Sl} {K : PySem.W.Frag} {ta tb : TE} {ra rb : M D}
theorem os_ixX : OpS K (fun x y H Q => rIxS x y H Q ∨ rIxA K x y H Q) D.ixX := by
  intro W H x y dx dy Q E w rx ry h
  unfold D.ixX at h
  split at h
  · rename_i z i
    obtain ⟨hz, h⟩ := h
    obtain ⟨c, e, q⟩ := ofO_run h
    have ex := rx.inj_str
    have ey := ry.inj_int
    subst ex
    subst ey
    have e2 := atI_map z.cps.toList (id : Nat → Nat) i
    rw [List.map_id, e] at e2
    exact .inl ⟨z, i, c, rfl, rfl, hz, e2, post_here w q (.str _)⟩
  · exact .inr (os_ix W H x y _ _ Q E w rx ry h)
theorem cutT_eq (z : Str) (lo hi : Option Int) : cutT z lo hi = cutS z lo hi := by
  have hl : z.cps.toList.length = z.length := by simp [Str.length]
  unfold cutT cutS cutL
  rw [hl, sIx_eq z.length 0 lo (Nat.zero_le _), sIx_eq z.length z.length hi (Nat.le_refl _)]
theorem ss_cutX : SSl K (fun x lo hi H Q => L2.rSlS x lo hi H Q ∨ rSlAll K x lo hi H Q) D.cutX := by
  intro W H x d lo hi Q E w rx h
  unfold D.cutX at h
  split at h
  · rename_i z
    obtain ⟨hz, q⟩ := h
    have ex := rx.inj_str
    subst ex
    rw [cutT_eq] at q
    exact .inl ⟨z, rfl, hz, post_here w q (.str _)⟩
  · exact .inr (ss_cut W H x _ lo hi Q E w rx h)
theorem one_of {y : Str} {c : Nat} (h : y.cps.toList = [c]) : y = ⟨#[c]⟩ := by
  cases y with
  | mk cps =>
    have : cps = #[c] := by
      apply Array.toList_inj.mp
      exact h
    rw [this]
theorem os_inX : OpS K (fun x y H Q => rInS false x y H Q ∨ rInA K x y H Q) (D.innX false) := by
  intro W H x y dx dy Q E w rx ry h
  unfold D.innX at h
  split at h
  · split at h
    · split at h
      · rename_i z _ y' _ c e
        have ex := rx.inj_str
        have ey := ry.inj_str
        subst ex
        subst ey
        exact .inl ⟨c, z, by rw [one_of e], rfl, post_here w h (.bl _)⟩
      · exact (show False from h).elim
    · exact (show False from h).elim
  · exact .inr (os_in W H x y _ _ Q E w rx ry h)
theorem os_notinX : OpS K (fun x y H Q => rInS true x y H Q ∨ rNotInA K x y H Q) (D.innX true) := by
  intro W H x y dx dy Q E w rx ry h
  unfold D.innX at h
  split at h
  · split at h
    · split at h
      · rename_i z _ y' _ c e
        have ex := rx.inj_str
        have ey := ry.inj_str
        subst ex
        subst ey
        exact .inl ⟨c, z, by rw [one_of e], rfl, post_here w h (.bl _)⟩
      · exact (show False from h).elim
    · exact (show False from h).elim
  · exact .inr (os_notin W H x y _ _ Q E w rx ry h)
theorem os_eqX : OpS K (fun x y H Q => (∃ a kvs z, x = .ref a ∧ H a = some (.dK kvs) ∧ y = .str z ∧ Q (.bl false) H) ∨ rEqA K x y H Q) D.eqX := by
  intro W H x y dx dy Q E w rx ry h
  unfold D.eqX at h
  split at h
  · obtain ⟨a, kvs, rfl, ha, _⟩ := dct_rep rx
    have ey := ry.inj_str
    subst ey
    exact .inl ⟨a, kvs, _, rfl, w.sub _ _ ha, rfl, post_here w h (.bl _)⟩
  · exact .inr (os_eqA W H x y _ _ Q E w rx ry h)
theorem os_mulX : OpS K (fun x y H Q => (∃ z n, x = .str z ∧ y = .int n ∧ 0 ≤ n ∧ n ≤ 1000 ∧ z.length ≤ 1000 ∧ Q (.str (Txt.mul z n)) H) ∨ rMulB K x y H Q) D.mulX := by
  intro W H x y dx dy Q E w rx ry h
  unfold D.mulX at h
  split at h
  · obtain ⟨⟨h1, h2, h3⟩, q⟩ := h
    have ex := rx.inj_str
    have ey := ry.inj_int
    subst ex
    subst ey
    exact .inl ⟨_, _, rfl, rfl, h1, h2, h3, post_here w q (.str _)⟩
  · exact .inr (os_mulB W H x y _ _ Q E w rx ry h)
theorem reps_strs {W : Wd} : ∀ ys : List Str, Reps K W (ys.map V.str) (ys.map D.str)
  | [] => .nil
  | y :: r => .cons (.str y) (reps_strs r)
theorem si_all (h : SE S ta ρ ra) : SI S (iAll S.K ta) ρ (ra >>= itemsX) := fun σ H W H0 R e w q => by
  refine h.go e w q (fun _ z => z) fun d v W1 H1 q1 s1 r1 e1 => ?_
  unfold itemsX at q1
  cases r1 with
  | @tup a vs ds hx r => exact .inl ⟨a, rfl, .inr ⟨⟨vs, s1.ok.sqT hx⟩, q1 _ W1 H1 s1 (walks_tup hx r)⟩⟩
  | @lst a vs ds hx r => exact .inl ⟨a, rfl, .inl ⟨⟨vs, .inl (.inl (s1.ok.sub _ _ hx))⟩, q1 _ W1 H1 s1 (walks_list (.inl (.inl hx)) r)⟩⟩
  | @scr a ns hx =>
    refine .inl ⟨a, rfl, .inl ⟨⟨_, s1.ok.sqL hx⟩, q1 _ W1 H1 s1 (walks_list hx ?_)⟩⟩
    have key : ∀ ns : List Int, Reps S.K W1 (ns.map V.int) (ns.map D.int) := fun ns => by
      induction ns with
      | nil => exact .nil
      | cons n r ih => exact .cons (.int n) ih
    exact key ns
  | str z =>
    have hl : (z.cps.toList.map fun c => D.str (oneS c)).length = z.cps.size := by rw [List.length_map, Array.length_toList]
    refine .inr ⟨z, rfl, q1 _ W1 H1 s1 ⟨fun W' H' l w => ?_, fun i W' H' l w hi => ?_, fun i x W' H' v H'' l w hx y => ?_⟩⟩
    · show z.cps.size ≤ _
      rw [hl]
      exact Nat.le_refl _
    · show i < z.cps.size
      rw [← hl]
      exact hi
    · obtain ⟨rfl, c, hc, rfl⟩ := y
      refine ⟨W', Step.refl w, ?_⟩
      rw [List.getElem?_map, Option.map_eq_some_iff] at hx
      obtain ⟨c', e1, rfl⟩ := hx
      rw [Array.getElem?_toList, hc] at e1
      cases e1
      exact .str _
  | _ => exact (show False from q1).elim
theorem so_split (ho : SE S ta ρ ra) (he : SE S tb ρ rb) : SO S (tM1 (fun x xs H Q => ∃ a b, x = .str a ∧ xs = [.str b] ∧ (b.length == 0) = false ∧ a.length + 2 ≤ sizeLine ∧ rNewStrs (Txt.split a b) H Q) ta tb) ρ (splitM ra rb) := fun σ H W H0 Q e w q => by
  refine ho.go e w q (fun _ z => z) fun d v W1 H1 q1 s1 r1 e1 => ?_
  cases d with
  | str a =>
    have ev := r1.inj_str
    subst ev
    refine ⟨⟨a, rfl⟩, ?_⟩
    refine he.go e1 s1.ok q1 (fun x z => z.after w s1) fun d2 v2 W2 H2 q2 s2 r2 e2 => ?_
    cases d2 with
    | str b =>
      have ev := r2.inj_str
      subst ev
      obtain ⟨⟨h1, h2⟩, q3⟩ := q2
      have q3 : PostO S.K Q W H ((Txt.split a b).map D.str) := q3
      exact ⟨a, b, rfl, rfl, h1, h2, fun p hp => post_own s2.ok (q3.after w (s1.trans w s2)) (reps_strs _) p hp⟩
    | _ => exact (show False from q2).elim
  | _ => exact (show False from q1).elim
theorem se_sidx (ho : SE S ta ρ ra) (he : SE S tb ρ rb) : SE S (tM1 (fun x xs H Q => ∃ a b i rest, x = .str a ∧ xs = [.str b] ∧ Builtin.Str.occurrences a b 0 a.length 1 = i :: rest ∧ Q (.int (i : Nat)) H) ta tb) ρ (sidxM ra rb) := fun σ H W H0 Q e w q => by
  refine ho.go e w q (fun _ z => z) fun d v W1 H1 q1 s1 r1 e1 => ?_
  cases d with
  | str a =>
    have ev := r1.inj_str
    subst ev
    refine ⟨⟨a, rfl⟩, ?_⟩
    refine he.go e1 s1.ok q1 (fun x z => z.after w s1) fun d2 v2 W2 H2 q2 s2 r2 e2 => ?_
    cases d2 with
    | str b =>
      have ev := r2.inj_str
      subst ev
      cases eo : Builtin.Str.occurrences a b 0 a.length 1 with
      | nil =>
        have q2 : (match Builtin.Str.occurrences a b 0 a.length 1 with | i :: _ => pure (.int (i : Nat)) | [] => fail : M D).run _ _ := q2
        rw [eo] at q2
        exact (show False from q2).elim
      | cons i rest =>
        have q2 : (match Builtin.Str.occurrences a b 0 a.length 1 with | i :: _ => pure (.int (i : Nat)) | [] => fail : M D).run (Post S.K Q W H) (XPost S W H) := q2
        rw [eo] at q2
        exact ⟨a, b, i, rest, rfl, rfl, eo, q2 _ W2 H2 (s1.trans w s2) (.int _)⟩
    | _ => exact (show False from q2).elim
  | _ => exact (show False from q1).elim
theorem call_intX {X : Cx} : CallR X (.type "int") (fun xs H Q => ((∃ i, xs = [.int i] ∧ Q (.int i) H) ∨ ∃ k, xs = [.bl k] ∧ Q (.int (if k then 1 else 0)) H) ∨ ∃ a n, xs = [.str a] ∧ PySem.intText? a = some n ∧ a.length ≤ 640 ∧ Q (.int n) H) := call_int1.or call_int_str
theorem cs_intX : CaS K (fun xs H Q => ((∃ i, xs = [.int i] ∧ Q (.int i) H) ∨ ∃ k, xs = [.bl k] ∧ Q (.int (if k then 1 else 0)) H) ∨ ∃ a n, xs = [.str a] ∧ PySem.intText? a = some n ∧ a.length ≤ 640 ∧ Q (.int n) H) (f1 D.toIntX) := by
  intro W H vs ds Q E w rs h
  obtain ⟨d, rfl, h⟩ := f1_run h
  obtain ⟨v, rfl, r⟩ := rs.of1
  cases r with
  | int i => exact .inl (.inl ⟨i, rfl, post_here w h (.int _)⟩)
  | bl k => exact .inl (.inr ⟨k, rfl, post_here w h (.int _)⟩)
  | str a =>
    obtain ⟨hl, h⟩ := h
    obtain ⟨n, e, q⟩ := ofO_run h
    exact .inr ⟨a, n, rfl, e, hl, post_here w q (.int _)⟩
  | _ => exact (show False from h).elim
theorem se_orS (h : SE S ta ρ ra) (h2 : SE S tb ρ rb) : SE S (tOrT S.K ta tb) ρ (orS ra rb) := fun σ H W H0 Q en w q => by
  refine h.go en w q (fun _ z => z) fun d v W1 H1 q1 s1 r1 e1 => ?_
  cases d with
  | str y =>
    have ev := r1.inj_str
    subst ev
    obtain ⟨hl, q1⟩ := q1
    refine ⟨_, ⟨hl, rfl⟩, ?_⟩
    cases hk : ((y.length : Int) != 0) with
    | false =>
      rw [hk] at q1
      exact iteF (h2.go e1 s1.ok q1 (fun _ z => z.after w s1) fun d v W2 H2 q2 s2 r2 _ => q2 v W2 H2 (s1.trans w s2) r2)
    | true =>
      rw [hk] at q1
      exact iteT (q1 _ W1 H1 s1 (.str _))
  | _ => exact (show False from q1).elim
end
end Ev

namespace Ev
open PySem PySem.Spec PyProof.Rows L2
open RZ
variable [Tb]
/-! ### zip of two tuples, its pairs bare -/
def ItzB (K : PySem.W.Frag) (a b : Addr) : It :=
  ⟨fun i H => ∃ (xs ys : List V) (x y : V), SqT K H a xs ∧ SqT K H b ys ∧ xs[i]? = some x ∧ ys[i]? = some y,
    fun i H v H' => ∃ T x y ob, v = .ref T ∧ H T = none ∧ H' = upd H T (.frz ob (.tup [x, y])) ∧ ob.dict = none ∧ (∀ xs, SqT K H a xs → xs[i]? = some x) ∧ ∀ ys, SqT K H b ys → ys[i]? = some y,
    fun i H => ∃ xs ys : List V, SqT K H a xs ∧ SqT K H b ys ∧ (xs.length ≤ i ∨ ys.length ≤ i)⟩
theorem turn_zipB {P : Program} {w : World} {K : PySem.W.Frag} {elts : List Expr} {kk : Nat} {tpos : Pos} {a b z TI TO i1 i2 : Addr} (D : ZipApart z TI TO i1 i2 a b) :
    Turn P w K (.Tuple elts kk tpos) (ItzB K a b) [z, TI, TO, i1, i2] z (fun i h => IsZip h z TI TO .none ∧ IsPair h TI (.ref i1) (.ref i2) ∧ (∃ x y, IsPair h TO x y) ∧ h.IsTupleIter i1 a i ∧ h.IsTupleIter i2 b i) where
  mem := by simp
  obj := (turn_zipT (P := P) (w := w) (K := K) (elts := elts) (kk := kk) (tpos := tpos) D).obj
  keep := (turn_zipT (P := P) (w := w) (K := K) (elts := elts) (kk := kk) (tpos := tpos) D).keep
  item := by
    intro X hP hw hK hc i pins s σ H E I hf st hg
    subst hP hw hK
    obtain ⟨hz, hTI, ⟨x0, y0, hTO⟩, h1, h2⟩ := st
    obtain ⟨xs, ys, x, y, hqx, hqy, hx, hy⟩ := hg
    obtain ⟨its, rv, p, _⟩ := I.tuple hqx
    obtain ⟨its2, rv2, p2, _⟩ := I.tuple hqy
    obtain ⟨u, hu, ru⟩ := rv.get hx
    obtain ⟨u2, hu2, ru2⟩ := rv2.get hy
    have lz : z < s.heap.objs.size := Heap.lt_size hz
    refine pyNext_zipT_item D hz hTI hTO h1 h2 p p2 (x := u) (y := u2) (by simpa using hu) (by simpa using hu2) ?_
    intro g1 z1 o1 j1 j2 hT _ keep1
    refine ⟨_, rfl, wpAny_letOwnedTupleGo_zip (s := { s with heap := g1 }) z1 ?_⟩
    intro g2 z2 sb
    have hT2 : g2.get? s.heap.objs.size = some { cls := .type "tuple", data := .seq #[u, u2] } := (sb.2 _ (Nat.ne_of_gt lz)).trans hT
    have fresh : H s.heap.objs.size = none := I.hok.fresh (Nat.le_refl _)
    have nw : ObjOk X.prog X.w (upd H s.heap.objs.size (.frz { cls := .type "tuple", data := .seq #[u, u2] } (.tup [x, y]))) g2 s.heap.objs.size (.frz { cls := .type "tuple", data := .seq #[u, u2] } (.tup [x, y])) :=
      ⟨hT2, by show 2 ≤ sizeLine; decide, [u, u2], .cons ru (.cons ru2 .nil), ⟨_, hT2, rfl, _, rfl⟩⟩
    have J : L2.Inv X pins σ (upd H s.heap.objs.size (.frz { cls := .type "tuple", data := .seq #[u, u2] } (.tup [x, y]))) { s with heap := g2 } :=
      I.turnedNew (t' := s.toks) (ch := [z, TI, TO, i1, i2]) (fun c o hb q => (sb.2 c (fun e => hb (by simp [e]))).trans (keep1 c o (fun e => hb (by simp [e])) (fun e => hb (by simp [e])) (fun e => hb (by simp [e])) (fun e => hb (by simp [e])) q)) hf (Nat.le_refl _) nw
    refine ⟨.ref s.heap.objs.size, _, J, rfl, ⟨_, x, y, _, rfl, fresh, rfl, rfl, fun l hl => by rw [I.tuple_inj hl hqx]; exact hx, fun l hl => by rw [I.tuple_inj hl hqy]; exact hy⟩, ⟨z2, (sb.2 _ D.TIz).trans (keep1 _ _ D.TIz D.TITO D.TIi1 D.TIi2 hTI), ⟨u, u2, (sb.2 _ D.TOz).trans o1⟩, j1.at fun o q => (sb.2 _ D.i1z).trans q, j2.at fun o q => (sb.2 _ D.i2z).trans q⟩, fun c hcm => ?_⟩
    have hlt : c < s.heap.objs.size := by
      have e' : c = z ∨ c = TI ∨ c = TO ∨ c = i1 ∨ c = i2 := by simpa using hcm
      rcases e' with rfl | rfl | rfl | rfl | rfl
      · exact lz
      · exact Heap.lt_size hTI
      · exact Heap.lt_size hTO
      · obtain ⟨_, e1, _⟩ := h1; exact Heap.lt_size e1
      · obtain ⟨_, e2, _⟩ := h2; exact Heap.lt_size e2
    rw [upd_ne (Nat.ne_of_lt hlt)]
    exact (hf c hcm).1
  done := (turn_zipT (P := P) (w := w) (K := K) (elts := elts) (kk := kk) (tpos := tpos) D).done
  self := (turn_zipT (P := P) (w := w) (K := K) (elts := elts) (kk := kk) (tpos := tpos) D).self
def iZipB (K : PySem.W.Frag) (ta : TA) : TI := fun σ H R => ta σ H fun vs H1 => ∃ a b xs ys, vs = [.ref a, .ref b] ∧ SqT K H1 a xs ∧ SqT K H1 b ys ∧ R (ItzB K a b) H1
theorem pi_zipB {X : Cx} {K : PySem.W.Frag} {e e2 : Expr} {ta : TA} {p pos tpos : Pos} {elts : List Expr} {kk : Nat} (hK : X.K = K) (hg : Gl X "zip") (hm : X.mg "zip" = none) (ha : PA X [e, e2] ta)
    (hs : starEach [e, e2] X.env = (false, eval e X.env) :: starEach [e2] X.env := by rfl) (hpl : (backTo pos (starEach [e2] X.env)).any (·.1) = false := by rfl) :
    PI X (.Tuple elts kk tpos) (.Call (.Name "zip" p) [e, e2] [] pos) (iZipB K ta) := by
  subst hK
  constructor
  intro pins s σ H R I h
  refine Call_ (ld_blt I hg hm PyProof.Rows.boot_zip (PyProof.Rows.callWith_type1 (thn (ha.run pos pins s σ H _ I h) ?_) hs hpl))
  rintro us s1 ⟨vs, H1, I1, rv, a, b, xs, ys, rfl, hqx, hqy, q⟩
  obtain ⟨va, vb, rfl, ra, rb⟩ : ∃ va vb, us = [va, vb] ∧ RelV (.ref a) va ∧ RelV (.ref b) vb := by
    cases rv with
    | cons r rr => cases rr with
      | cons r' rr => cases rr; exact ⟨_, _, rfl, r, r'⟩
  obtain rfl : va = .ref a := ra
  obtain rfl : vb = .ref b := rb
  have five : ∀ c, c ∈ [s1.heap.objs.size + 4, s1.heap.objs.size + 2, s1.heap.objs.size + 3, s1.heap.objs.size, s1.heap.objs.size + 1] → FpOk X pins H1 c := fun c hcm => by
    have hle : s1.heap.objs.size ≤ c := by
      simp only [List.mem_cons, List.not_mem_nil, or_false] at hcm
      omega
    exact I1.fpOk hle (I1.hok.fresh hle)
  obtain ⟨its, _, p1, _⟩ := I1.tuple hqx
  obtain ⟨its2, _, p2, _⟩ := I1.tuple hqy
  obtain ⟨o1, ho1, _⟩ := id p1
  obtain ⟨o2, ho2, _⟩ := id p2
  refine call_zipT (show s1.heap.IsTuple a its.toArray from p1) (show s1.heap.IsTuple b its2.toArray from p2) ?_
  intro h' hz hTI hTO h1 h2 _ hk
  refine wpAny_pyIter_zip hz ?_
  have I2 : L2.Inv X pins σ H1 { s1 with heap := h' } := I1.kept (t' := s1.toks) hk
  exact ⟨s1.heap.objs.size + 4, [s1.heap.objs.size + 4, s1.heap.objs.size + 2, s1.heap.objs.size + 3, s1.heap.objs.size, s1.heap.objs.size + 1], _, _, H1, rfl, I2, turn_zipB (PySem.W.ktu_apart s1.heap.objs.size a b (Heap.lt_size ho1) (Heap.lt_size ho2)), ⟨hz, hTI, ⟨_, _, hTO⟩, h1, h2⟩, five, q⟩
section
variable {K : PySem.W.Frag} {W : Wd}
theorem zipL_get {xs ys : List D} {i : Nat} {x : D} (h : (zipL xs ys)[i]? = some x) : ∃ a b, xs[i]? = some a ∧ ys[i]? = some b ∧ x = .tup [a, b] := by
  unfold zipL at h
  rw [List.getElem?_zipWith] at h
  cases ea : xs[i]? with
  | none => rw [ea] at h; cases h
  | some a =>
    cases eb : ys[i]? with
    | none => rw [ea, eb] at h; cases h
    | some b =>
      rw [ea, eb] at h
      exact ⟨a, b, rfl, rfl, (Option.some.inj h).symm⟩
theorem zipL_len (xs ys : List D) : (zipL xs ys).length = min xs.length ys.length := by
  unfold zipL
  rw [List.length_zipWith]
theorem walks_zipB {a b : Addr} {vs us : List V} {ds es : List D} (h : BqT K W.P a vs) (r : Reps K W vs ds) (h2 : BqT K W.P b us) (r2 : Reps K W us es) : Walks K W (ItzB K a b) (zipL ds es) where
  stop := fun W' H' l w => ⟨vs, us, w.sqT (l.bqT h), w.sqT (l.bqT h2), by
    rw [zipL_len, r.length, r2.length]
    omega⟩
  go := fun i W' H' l w hi => by
    rw [zipL_len] at hi
    exact ⟨vs, us, _, _, w.sqT (l.bqT h), w.sqT (l.bqT h2), List.getElem?_eq_getElem (by rw [r.length]; omega), List.getElem?_eq_getElem (by rw [r2.length]; omega)⟩
  yld := fun i x W' H' v H'' l w hx y => by
    obtain ⟨T, v1, v2, ob, rfl, hT, rfl, hd, f1, f2⟩ := y
    obtain ⟨d1, d2, g1, g2, rfl⟩ := zipL_get hx
    obtain ⟨u1, k1, m1⟩ := r.get g1
    obtain ⟨u2, k2, m2⟩ := r2.get g2
    have e1 := f1 vs (w.sqT (l.bqT h))
    rw [k1] at e1
    cases e1
    have e2 := f2 us (w.sqT (l.bqT h2))
    rw [k2] at e2
    cases e2
    have s := Step.dat w (o := .frz ob (.tup [v1, v2])) hT
    exact ⟨_, s, .tup (.inl ⟨ob, upd_same, hd⟩) (.cons ((m1.mono l).mono s.le) (.cons ((m2.mono l).mono s.le) .nil))⟩
end
section
variable {S : Sx} {ρ : List Sl}
theorem si_zipB {ts : TA} {rs : List (M D)} (h : SA S ts ρ rs) : SI S (iZipB S.K ts) ρ (zipT rs) := fun σ H W H0 R e w q => by
  refine h.go e w q (fun _ z => z) fun ds vs W1 H1 q1 s1 r1 e1 => ?_
  match ds, r1, q1 with
  | [.tup xs, .tup ys], r1, q1 =>
    obtain ⟨u, v, rfl, g1, g2⟩ := r1.of2
    cases g1 with
    | tup h1 k1 => cases g2 with
      | tup h2 k2 => exact ⟨_, _, _, _, rfl, s1.ok.sqT h1, s1.ok.sqT h2, q1 _ W1 H1 s1 (walks_zipB h1 k1 h2 k2)⟩
end
end Ev

namespace L2
open PySem PySem.Spec PyProof.Rows
/-! ### set(l) of a list of numbers -/
section
variable {P : Program} {w : World} {A : Around} {E : Value → Shared → Prop} {s : Shared}
set_option maxHeartbeats 3200000 in
theorem set_of_listI {l : Addr} {items : Array Value} (ns : List Int) {Q : Value → Shared → Prop} (hh : A.handled = none) (hl : s.heap.IsList l items) (hit : IntsAre items.toList ns) (hb : ns.length + 1 < scanBound)
    (h : ∀ (h' : Heap) (tk c : Nat), SetR w h' s.heap.objs.size (fun j => decide (j ∈ ns)) c → c ≤ ns.length → (∀ b o, s.heap.get? b = some o → h'.get? b = some o) → Q (.ref s.heap.objs.size) { s with heap := h', toks := tk }) :
    wpAny (model P w) A (call (.type "set") [.ref l]) Q E s := by
  have hisz : items.size = ns.length := by
    have q := IntsAre.length hit
    rw [Array.length_toList] at q
    exact q
  obtain ⟨c, tl, hmro⟩ := F.called_set.mro
  have hmade := F.called_set.made
  have hsub := F.called_set.sub
  refine wpAny_call (codeAny_of_tree ?_)
  show wpAny _ _ (callAny (.type "set") _) _ _ _
  refine wpAny_pure ⟨Code.quiet_builtin _ (by decide +kernel), codeAny_builtin F.entry_type_call ?_⟩
  rw [Around.under_plain (weight_type_call_type "set" [.ref l] []) rfl]
  have h1 := F.called_set.notType
  have h2 := F.called_set.canCreate
  have hct := F.typeCall_set_1 (.ref l)
  repeat (any_goals (first | assumption | wp_step))
  refine codeAny_mono (code_set_led1 (.ref l) (E := E) (Q₁ := fun obj s₁ => obj = .ref s.heap.objs.size ∧ s₁ = { s with heap := s.heap.push { cls := .type "set", dict := none, data := .set #[] 0 (.fresh 0 0 (!w.params.followText "set-order")) } }) ⟨rfl, rfl⟩) fun r s₁ hr => ?_
  cases r with
  | error e => exact hr
  | ok fl =>
    cases fl with
    | ret obj =>
      obtain ⟨rfl, rfl⟩ := hr
      have hS : (s.heap.push { cls := .type "set", dict := none, data := .set #[] 0 (.fresh 0 0 (!w.params.followText "set-order")) }).get? s.heap.objs.size = some { cls := .type "set", dict := none, data := .set #[] 0 (.fresh 0 0 (!w.params.followText "set-order")) } := Heap.get?_push_size _ rfl
      have hT : Shared.TypeIs { s with heap := s.heap.push { cls := .type "set", dict := none, data := .set #[] 0 (.fresh 0 0 (!w.params.followText "set-order")) } } (.ref s.heap.objs.size) "set" := ⟨_, hS, rfl⟩
      have hli := F.called_set.init.lookup
      have hbi := F.called_set.init.bind (.ref s.heap.objs.size)
      repeat (any_goals (first | assumption | wp_step))
      refine codeAny_mono (codeAny_call_builtin (R := wants (fun r s₂ => r = .none ∧ ∃ h' tk c, s₂ = { s with heap := h', toks := tk } ∧ SetR w h' s.heap.objs.size (fun j => decide (j ∈ ns)) c ∧ c ≤ ns.length ∧
          (∀ b o, s.heap.get? b = some o → h'.get? b = some o)) E) F.called_set.init.plain F.entry_set_init (check_set_init_1 hT ?_)) fun r₂ s₂ hr₂ => ?_
      · obtain ⟨ol, hol, hcl, nl, hdl⟩ := id hl
        obtain ⟨ocls, odict, odata, oslots⟩ := ol
        simp only at hcl hdl
        subst hcl; subst hdl
        have hol' : (s.heap.push { cls := .type "set", dict := none, data := .set #[] 0 (.fresh 0 0 (!w.params.followText "set-order")) }).get? l = some { cls := .type "list", dict := odict, data := .seq items nl, slots := oslots } := Heap.get?_push_of_some _ hol
        have hsls := F.sub_list_set
        have hslf := F.sub_list_frozenset
        have hne : (Value.type "list" == Value.type "dict") = false := by decide
        have hl1 : (s.heap.push { cls := .type "set", dict := none, data := .set #[] 0 (.fresh 0 0 (!w.params.followText "set-order")) }).IsList l items := ⟨_, hol', rfl, nl, rfl⟩
        unfold Builtin.«set.__init__» noKeywords Builtin.Frozenset.updateFrom
        generalize hPI : pyIter = PI
        wp_walk
        subst hPI
        refine wpAny_pyIter_list hl1 ?_
        refine wpAny_bind (wpAny_runValue ?_)
        have hlS : l < s.heap.objs.size := Heap.lt_size hol
        have hz1 : (s.heap.push { cls := .type "set", dict := none, data := .set #[] 0 (.fresh 0 0 (!w.params.followText "set-order")) }).objs.size = s.heap.objs.size + 1 := Heap.size_push ..
        have hneI : l ≠ (s.heap.push { cls := .type "set", dict := none, data := .set #[] 0 (.fresh 0 0 (!w.params.followText "set-order")) }).objs.size := by rw [hz1]; exact Nat.ne_of_lt (Nat.lt_succ_of_lt hlS)
        have hval : ∀ (i : Nat) (v : Value), items[i]? = some v → ∃ k t, ns[i]? = some k ∧ v = .int k t := fun i v hv => by
          have hi : i < ns.length := by rw [← hisz]; exact (Array.getElem?_eq_some_iff.mp hv).1
          obtain ⟨t, e⟩ := PyProof.Rows.IntsAre.int_at hit i v (by rw [Array.getElem?_toList]; exact hv)
          refine ⟨ns[i], t, List.getElem?_eq_getElem hi, ?_⟩
          rw [e, List.getD_eq_getElem?_getD, List.getElem?_eq_getElem hi] <;> rfl
        refine set_update_ints ((Walks.list (by simp [hh]) _ l hneI items).toS) s.heap.objs.size ?hf ns hisz hb hval (items.size - 0) 0 _ (by omega) (Nat.zero_le _) ⟨⟨_, Heap.get?_push_size _ rfl, rfl, rfl⟩, (hl1.push _)⟩ ?hS0 ?hR
        case hf =>
          simp only [List.mem_cons, List.mem_singleton, List.not_mem_nil, or_false, not_or]
          exact ⟨by rw [hz1]; exact Nat.ne_of_lt (Nat.lt_succ_self _), Nat.ne_of_gt hlS⟩
        case hS0 => exact ⟨0, Nat.le_refl 0, setR_new_at (Heap.get?_push_of_some _ hS)⟩
        case hR =>
          intro s' c' hm hc' hS'
          obtain ⟨h', g2, d', tk', os'⟩ := s'
          obtain rfl : g2 = s.gens := hm.gens
          obtain rfl : d' = s.drawn := hm.drawn
          obtain rfl : os' = s.os := hm.os
          show wpAny _ _ _ _ _ _
          refine wpAny_pure ?_
          show wpAny _ _ (ret Value.none) _ _ _
          rw [hisz] at hc'
          refine wpAny_pure ⟨rfl, h', tk', c', rfl, hS', hc', fun b o e => ?_⟩
          have hb0 : b < s.heap.objs.size := Heap.lt_size e
          refine hm.heap b o ?_ (Heap.get?_push_of_some _ (Heap.get?_push_of_some _ e))
          simp only [List.mem_cons, List.mem_singleton, List.not_mem_nil, or_false, not_or]
          exact ⟨Nat.ne_of_lt hb0, by rw [hz1]; exact Nat.ne_of_lt (Nat.lt_succ_of_lt hb0)⟩
      · cases r₂ with
        | error e => exact hr₂
        | ok fl₂ =>
          cases fl₂ with
          | ret r =>
            obtain ⟨rfl, h', tk, c', rfl, hS', hc', hk'⟩ := hr₂
            repeat (any_goals (first | assumption | wp_step))
            exact h _ _ _ hS' hc' hk'
          | _ => exact hr₂.elim
    | _ => exact hr.elim
end
end L2
namespace Ev
open PySem PySem.Spec PyProof.Rows L2
variable [Tb]
/-- set(x), x a list or a tuple of numbers -/
def rSetX (K : PySem.W.Frag) (w : World) : List V → Hp → VK → Prop := fun xs H Q => ∃ (l : Addr) (ns : List Int), xs = [.ref l] ∧ (SqL K H l (ns.map V.int) ∨ SqT K H l (ns.map V.int)) ∧ ns.length ≤ 4000 ∧
  ∀ (a : Addr) (S : Int → Bool), H a = none → (∀ k, S k = true ↔ k ∈ ns) → Q (.ref a) (upd H a (SetO w a S (ddI ns).length))
theorem call_setX {X : Cx} {K : PySem.W.Frag} {w : World} (hK : X.K = K) (hw : X.w = w) (hc : X.calm = true) : CallR X (.type "set") (rSetX K w) := by
  intro pins s σ H xs us Q I r h
  obtain ⟨l, ns, rfl, hs, hn, q⟩ := h
  rcases hs with hs | hs
  · subst hK hw
    obtain ⟨u, rfl, ru⟩ := vals1 r
    cases ru
    obtain ⟨its, rv, pt, hz⟩ := I.list hs
    refine set_of_listI ns (I.ok.hd hc) pt.isList (ints_of_vals rv) (by unfold scanBound; omega) fun h' tk c R hcn k => ?_
    have e := setR_count (ns := ns) R fun k => by rw [decide_eq_true_eq]
    subst e
    exact ⟨.ref s.heap.objs.size, upd H s.heap.objs.size (SetO X.w s.heap.objs.size (fun j => decide (j ∈ ns)) (ddI ns).length), I.laid (t' := tk) k (Nat.le_refl _) (setO_new R), rfl, q _ _ (I.hok.fresh (Nat.le_refl _)) fun k => by rw [decide_eq_true_eq]⟩
  · exact call_setN hK hw hc pins s σ H _ us Q I r ⟨l, ns, rfl, hs, hn, q⟩
section
variable {S : Sx} {ρ : List Sl} {ta : TE} {ra : M D}
theorem so_sortSetX {w : World} (h : SE S ta ρ ra) : SO S (tCB (rSortedSet w) (tCons (tCB (rSetX S.K w) (tCons ta tNil)) tNil)) ρ (ra >>= sortSetX) := fun σ H W H0 Q e wk q => by
  refine h.go e wk q (fun _ z => z) fun d v W1 H1 q1 s1 r1 e1 => ?_
  have fin : ∀ (a : Addr) (ns : List Int), (SqL S.K H1 a (ns.map V.int) ∨ SqT S.K H1 a (ns.map V.int)) → ns.length ≤ 4000 → (ddI ns).length < 64 → PostO S.K Q W H ((sortZ (ddI ns)).map D.int) →
      ∃ (l : Addr) (ms : List Int), [V.ref a] = [.ref l] ∧ (SqL S.K H1 l (ms.map V.int) ∨ SqT S.K H1 l (ms.map V.int)) ∧ ms.length ≤ 4000 ∧ ∀ (b : Addr) (S' : Int → Bool), H1 b = none → (∀ k, S' k = true ↔ k ∈ ms) → tNil σ (upd H1 b (SetO w b S' (ddI ms).length)) fun us H2 => rSortedSet w (.ref b :: us) H2 Q := fun a ns hq q2 q3 q4 => by
    refine ⟨a, ns, rfl, hq, q2, fun b S' hb hS => ?_⟩
    refine ⟨b, S', _, rfl, upd_same, q3, fun ms p h1 h2 h3 hp => ?_⟩
    have e2 : ms = sortZ (ddI ns) := sortZ_of h1 (ddI_ok ns).1 fun k => by rw [h2, hS, (ddI_ok ns).2]
    subst e2
    have s2 := Step.raw s1.ok (o := SetO w b S' (ddI ns).length) hb
    have s3 := Step.raw s2.ok (o := .lst ((sortZ (ddI ns)).map V.int)) hp
    have np := nopen s2.ok hp
    exact q4 p _ W1 _ ((s1.trans wk s2).trans wk s3) (s1.free0 wk (s2.free0 s1.ok hp)) upd_same np.1 np.2 (reps_ints _)
  cases r1 with
  | @tup a vs ds hx r =>
    obtain ⟨ns, hn, ⟨q2, q3⟩, q4⟩ := ofO_run q1
    have ev := ints_rep r hn
    exact fin a ns (.inr (by rw [← ev]; exact s1.ok.sqT hx)) q2 q3 q4
  | @lst a vs ds hx r =>
    obtain ⟨ns, hn, ⟨q2, q3⟩, q4⟩ := ofO_run q1
    have ev := ints_rep r hn
    exact fin a ns (.inl (by rw [← ev]; exact .inl (.inl (s1.ok.sub _ _ hx)))) q2 q3 q4
  | _ => exact (show False from q1).elim
end
end Ev

/-! Mathematics over M: laws of the mirrors' words. -/
namespace Ev
open PySem (Str PyData)
/-! ### what always comes out -/
def Sat {α : Type} (m : M α) (P : α → Prop) : Prop := m.run P (fun _ => False)
section
variable {α β : Type} {P : α → Prop} {Q : β → Prop} {m : M α} {f : α → M β}
theorem Sat.pur {a : α} (h : P a) : Sat (pure a) P := h
theorem Sat.bind (h : Sat m P) (k : ∀ a, P a → Sat (f a) Q) : Sat (m >>= f) Q := m.mono k (fun _ z => z) h
theorem Sat.mono {P' : α → Prop} (h : Sat m P) (k : ∀ a, P a → P' a) : Sat m P' := m.mono k (fun _ z => z) h
theorem Sat.grd {p : Prop} {k : Unit → M β} (h : p) (s : Sat (k ()) Q) : Sat (guard p >>= k) Q := ⟨h, s⟩
theorem Sat.ite {c : Prop} [Decidable c] {a b : M α} (h : c → Sat a P) (k : ¬c → Sat b P) : Sat (if c then a else b) P := by
  by_cases e : c
  · rw [if_pos e]; exact h e
  · rw [if_neg e]; exact k e
theorem Sat.nox (h : Sat m P) : Sat (nox m) P := h
theorem Sat.drw {k : Bool} {many : Int} (h0 : 0 < many) (h1 : many < 1073741824) : Sat (drawF k [.pen k, .int many]) (fun d => ∃ i : Int, d = .int i ∧ 0 ≤ i ∧ i < many) := by
  show Sat (if k = k then draw many else fail) _
  rw [if_pos rfl]
  exact ⟨⟨h0, h1⟩, fun i a b => ⟨i, rfl, a, b⟩⟩
theorem Sat.of_eq {a : α} (e : m = pure a) (h : P a) : Sat m P := by rw [e]; exact h
end
@[simp] theorem nox_pure {α : Type} (a : α) : nox (pure a : M α) = pure a := M.ext' fun _ _ => Iff.rfl
@[simp] theorem ite_bindM {α β : Type} (c : Prop) [Decidable c] (a b : M α) (f : α → M β) : ((if c then a else b) >>= f) = if c then a >>= f else b >>= f := by
  by_cases e : c
  · rw [if_pos e, if_pos e]
  · rw [if_neg e, if_neg e]
/-! ### the words -/
@[simp] theorem seqL_nil : seqL [] = pure [] := rfl
@[simp] theorem seqL_cons (m : M D) (r : List (M D)) : seqL (m :: r) = m >>= fun x => seqL r >>= fun xs => pure (x :: xs) := rfl
@[simp] theorem bin_def (f : D → D → M D) (a b : M D) : bin f a b = a >>= fun x => b >>= fun y => f x y := rfl
@[simp] theorem callM_def (f : List D → M D) (rs : List (M D)) : callM f rs = seqL rs >>= f := rfl
@[simp] theorem f1_one (g : D → M D) (x : D) : f1 g [x] = g x := rfl
@[simp] theorem f2_two (g : D → D → M D) (x y : D) : f2 g [x, y] = g x y := rfl
@[simp] theorem fo1_one (g : D → M (List D)) (x : D) : fo1 g [x] = g x := rfl
@[simp] theorem asB_def (r : M D) : asB r = r >>= isB := rfl
@[simp] theorem isB_bl (b : Bool) : isB (.bl b) = pure b := rfl
@[simp] theorem andM_def (a b : M Bool) : andM a b = a >>= fun x => if x then b else pure false := rfl
@[simp] theorem orM_def (a b : M Bool) : orM a b = a >>= fun x => if x then pure true else b := rfl
@[simp] theorem notM_def (a : M Bool) : notM a = a >>= fun x => pure (!x) := rfl
@[simp] theorem andV_def (a b : M D) : andV a b = a >>= isB >>= fun k => if k then b else pure (.bl false) := rfl
@[simp] theorem orV_def (a b : M D) : orV a b = a >>= isB >>= fun k => if k then pure (.bl true) else b := rfl
@[simp] theorem notV_def (a : M D) : notV a = a >>= isB >>= fun k => pure (.bl (!k)) := rfl
@[simp] theorem chainM_def (a b c : M D) (f f' : D → D → M D) : chainM a b c f f' = a >>= fun x => b >>= fun y => f x y >>= isB >>= fun k => if k then (c >>= fun z => f' y z) else pure (.bl false) := rfl
@[simp] theorem tupM_def (rs : List (M D)) : tupM rs = seqL rs >>= fun ds => pure (.tup ds) := rfl
@[simp] theorem tg1_def (d : D) : tg1 d = pure d := rfl
@[simp] theorem leave_rt {T L : Type} (d : D) : leave (T := T) (L := L) (pure (.rt d)) = pure (.rt d) := rfl
@[simp] theorem leave_bind {T L α : Type} (m : M α) (f : α → M (Fl Empty L)) : leave (T := T) (m >>= f) = m >>= fun a => leave (f a) := rfl
@[simp] theorem leave_ite {T L : Type} (c : Prop) [Decidable c] (a b : M (Fl Empty L)) : leave (T := T) (if c then a else b) = if c then leave a else leave b := by
  by_cases e : c
  · rw [if_pos e, if_pos e]
  · rw [if_neg e, if_neg e]
@[simp] theorem seqM_nx {S T L : Type} (s : S) (k : S → M (Fl T L)) : seqM (pure (.nx s)) k = k s := rfl
@[simp] theorem seqM_rt {S T L : Type} (d : D) (k : S → M (Fl T L)) : seqM (pure (.rt d) : M (Fl S L)) k = pure (.rt d) := rfl
@[simp] theorem seqM_bind {S T L α : Type} (m : M α) (f : α → M (Fl S L)) (k : S → M (Fl T L)) : seqM (m >>= f) k = m >>= fun a => seqM (f a) k := rfl
@[simp] theorem seqM_ite {S T L : Type} (c : Prop) [Decidable c] (a b : M (Fl S L)) (k : S → M (Fl T L)) : seqM (if c then a else b) k = if c then seqM a k else seqM b k := by
  by_cases e : c
  · rw [if_pos e, if_pos e]
  · rw [if_neg e, if_neg e]
@[simp] theorem endB_rt {L : Type} (own : Bool) (d : D) : endB (L := L) own (pure (.rt d)) = pure d := by cases own <;> rfl
@[simp] theorem endB_nx {L : Type} : endB (L := L) false (pure (.nx ())) = pure .non := rfl
@[simp] theorem endB_bind {L α : Type} (own : Bool) (m : M α) (f : α → M (Fl Unit L)) : endB own (m >>= f) = m >>= fun a => endB own (f a) := by cases own <;> rfl
@[simp] theorem endB_ite {L : Type} (own : Bool) (c : Prop) [Decidable c] (a b : M (Fl Unit L)) : endB own (if c then a else b) = if c then endB own a else endB own b := by
  by_cases e : c
  · rw [if_pos e, if_pos e]
  · rw [if_neg e, if_neg e]
@[simp] theorem asL_lst (xs : List D) : asL (.lst xs) = pure xs := rfl
def asI : D → M (Option Int)
  | .int i => pure (some i)
  | _ => fail
@[simp] theorem asI_int (i : Int) : asI (.int i) = pure (some i) := rfl
@[simp] theorem partM_def (r : M D) : partM r = r >>= asI := by
  unfold partM
  congr 1
@[simp] theorem cutM_def (r : M D) (lo hi : M (Option Int)) (f : D → Option Int → Option Int → M D) : cutM r lo hi f = r >>= fun d => lo >>= fun l => hi >>= fun h => f d l h := rfl
@[simp] theorem cutI_tup (xs : List D) (l h : Option Int) : D.cutI (.tup xs) l h = pure (.tup (cutL xs l h)) := rfl
@[simp] theorem cutI_lst (xs : List D) (l h : Option Int) : D.cutI (.lst xs) l h = pure (.lst (cutL xs l h)) := rfl
@[simp] theorem items_tup (xs : List D) : itemsL (.tup xs) = pure xs := rfl
@[simp] theorem items_lst (xs : List D) : itemsL (.lst xs) = pure xs := rfl
@[simp] theorem items_scr (ns : List Int) : itemsL (.scr ns) = pure (ns.map D.int) := rfl
@[simp] theorem un2_two (a b : D) : un2 (.tup [a, b]) = pure (a, b) := rfl
@[simp] theorem un3_three (a b c : D) : un3 (.tup [a, b, c]) = pure (a, b, c) := rfl
@[simp] theorem rng1_one (r : M D) : rng1 [r] = r >>= range1 := rfl
@[simp] theorem rng2_two (r s : M D) : rng2 [r, s] = r >>= fun a => s >>= fun b => range2 a b := rfl
theorem range1_ok {j : Int} (h : j < 2 ^ 62) (h2 : -(2 ^ 62) ≤ j) : range1 (.int j) = pure (rangeL 0 j) := by
  show (guard _ >>= fun _ => _) = _
  rw [guard_bind (show inR j from ⟨h2, h⟩)]
theorem range2_ok {i j : Int} (h : inR i) (h2 : inR j) : range2 (.int i) (.int j) = pure (rangeL i j) := by
  show (guard _ >>= fun _ => _) = _
  rw [guard_bind ⟨h, h2⟩]
@[simp] theorem parM_two {A : Type} (a b : M D) (k : D → D → M A) : parM [a, b] k = a >>= fun d => b >>= fun e => k d e := rfl
@[simp] theorem par3M_three {A : Type} (a b c : M D) (k : D → D → D → M A) : par3M [a, b, c] k = a >>= fun d => b >>= fun e => c >>= fun f => k d e f := rfl
@[simp] theorem appM_def {A : Type} (ds : List D) (r : M D) (k : D → M A) : appM ds r k = r >>= fun d => guard (ds.length < line) >>= fun _ => k d := rfl
@[simp] theorem extM_def {A : Type} (ds : List D) (r : M D) (k : List D → M A) : extM ds r k = r >>= fun d => asL d >>= fun es => guard (ds.length + es.length ≤ line) >>= fun _ => k es := by
  unfold extM
  congr 1
  funext d
  cases d <;> rfl
@[simp] theorem forF_def {T L V : Type} (rit : M (List D)) (tg : D → M V) (s0 : T) (body : V → T → M (Fl T T)) : forF (L := L) rit tg s0 body = rit >>= fun xs => forM (fun x s => tg x >>= fun v => body v s) xs s0 := rfl
@[simp] theorem isNF_def (x : D) : isNF x .non = pure (.bl x.isN) := rfl
@[simp] theorem notNF_def (x : D) : notNF x .non = pure (.bl (!x.isN)) := rfl
/-! operators on what we know -/
@[simp] theorem len_tup (xs : List D) : D.len (.tup xs) = pure (.int xs.length) := rfl
@[simp] theorem len_lst (xs : List D) : D.len (.lst xs) = pure (.int xs.length) := rfl
@[simp] theorem len_scr (xs : List Int) : D.len (.scr xs) = pure (.int xs.length) := rfl
@[simp] theorem add_int (i j : Int) : D.add (.int i) (.int j) = pure (.int (i + j)) := rfl
@[simp] theorem sub_int (i j : Int) : D.sub (.int i) (.int j) = pure (.int (i - j)) := rfl
@[simp] theorem neg_int (i : Int) : D.neg (.int i) = pure (.int (-i)) := rfl
@[simp] theorem lt_int (i j : Int) : D.lt (.int i) (.int j) = pure (.bl (decide (i < j))) := rfl
@[simp] theorem le_int (i j : Int) : D.le (.int i) (.int j) = pure (.bl (decide (i ≤ j))) := rfl
@[simp] theorem gt_int (i j : Int) : D.gt (.int i) (.int j) = pure (.bl (decide (j < i))) := rfl
@[simp] theorem ge_int (i j : Int) : D.ge (.int i) (.int j) = pure (.bl (decide (j ≤ i))) := rfl
@[simp] theorem toTup_lst (xs : List D) : D.toTup (.lst xs) = pure (.tup xs) := rfl
@[simp] theorem toTup_tup (xs : List D) : D.toTup (.tup xs) = pure (.tup xs) := rfl
@[simp] theorem toLst_lst (xs : List D) : D.toLst (.lst xs) = pure (.lst xs) := rfl
@[simp] theorem toLst_tup (xs : List D) : D.toLst (.tup xs) = pure (.lst xs) := rfl
@[simp] theorem toLst'_lst (xs : List D) : D.toLst' (.lst xs) = pure xs := rfl
@[simp] theorem toLst'_tup (xs : List D) : D.toLst' (.tup xs) = pure xs := rfl
@[simp] theorem toInt_int (i : Int) : D.toInt (.int i) = pure (.int i) := rfl
@[simp] theorem toInt_bl (b : Bool) : D.toInt (.bl b) = pure (.int (if b then 1 else 0)) := rfl
@[simp] theorem max2_int (i j : Int) : D.max2 (.int i) (.int j) = pure (.int (max i j)) := by
  show pure (D.int _) = _
  congr 2
  by_cases h : j > i
  · rw [if_pos h]; omega
  · rw [if_neg h]; omega
@[simp] theorem min2_int (i j : Int) : D.min2 (.int i) (.int j) = pure (.int (min i j)) := by
  show pure (D.int _) = _
  congr 2
  by_cases h : j < i
  · rw [if_pos h]; omega
  · rw [if_neg h]; omega
theorem mod_ok {i j : Int} (h : 0 < j) : D.mod (.int i) (.int j) = pure (.int (i % j)) := by
  show (guard _ >>= fun _ => _) = _
  rw [guard_bind h]
theorem fdiv_ok {i j : Int} (h : 0 < j) (h2 : j < 1073741824) : D.fdiv (.int i) (.int j) = pure (.int (i / j)) := by
  show (guard _ >>= fun _ => _) = _
  rw [guard_bind ⟨h, h2⟩]
theorem mul_ok {i j : Int} (h : smallI i ∨ smallI j) : D.mulA (.int i) (.int j) = pure (.int (i * j)) := by
  show (guard _ >>= fun _ => _) = _
  rw [guard_bind h]
theorem pow_ok {i j : Int} (h : 0 ≤ j ∧ j ≤ 1000000 ∧ i.natAbs < 2 ^ 64) : D.pow (.int i) (.int j) = pure (.int (i ^ j.toNat)) := by
  show (guard _ >>= fun _ => _) = _
  rw [guard_bind h]
theorem line_eq : line = 16777216 := PySem.sizeLine_eq
theorem add_tup {xs ys : List D} (h : xs.length + ys.length ≤ 16777216) : D.add (.tup xs) (.tup ys) = pure (.tup (xs ++ ys)) := by
  show (guard _ >>= fun _ => _) = _
  rw [guard_bind (by rw [line_eq]; exact h)]
theorem add_lst {xs ys : List D} (h : xs.length + ys.length ≤ 16777216) : D.add (.lst xs) (.lst ys) = pure (.lst (xs ++ ys)) := by
  show (guard _ >>= fun _ => _) = _
  rw [guard_bind (by rw [line_eq]; exact h)]
theorem mul_tup {xs : List D} {k : Int} (h : xs.length ≤ 1000 ∧ -1000 ≤ k ∧ k ≤ 1000) : D.mulA (.tup xs) (.int k) = pure (.tup (rep k xs)) := by
  show (if xs ≠ [] ∧ 2 ≤ k then D.mul (.tup xs) (.int k) else guard (-(2 ^ 63) ≤ k ∧ k < 2 ^ 63) >>= fun _ => pure (.tup (rep k xs))) = _
  by_cases c : xs ≠ [] ∧ 2 ≤ k
  · rw [if_pos c]
    show (guard _ >>= fun _ => _) = _
    rw [guard_bind ⟨c.1, c.2, h.2.2, h.1⟩]
  · rw [if_neg c, guard_bind (by omega)]
theorem mul_lst {xs : List D} {k : Int} (h : k ≤ 1000 ∧ xs.length ≤ 1000 ∧ -(2 ^ 63) ≤ k) : D.mulA (.lst xs) (.int k) = pure (.lst (rep k xs)) := by
  show (guard _ >>= fun _ => _) = _
  rw [guard_bind h]
theorem ix_tup {xs : List D} {i : Int} (h0 : 0 ≤ i) (h1 : i < xs.length) : D.ix (.tup xs) (.int i) = pure (xs[i.toNat]'(by omega)) := by
  show ofO (atI' xs i) = _
  unfold atI'
  rw [if_pos h0, if_pos h1, List.getElem?_eq_getElem (by omega)]
  rfl
theorem ix_lst {xs : List D} {i : Int} (h0 : 0 ≤ i) (h1 : i < xs.length) : D.ix (.lst xs) (.int i) = pure (xs[i.toNat]'(by omega)) := by
  show ofO (atI' xs i) = _
  unfold atI'
  rw [if_pos h0, if_pos h1, List.getElem?_eq_getElem (by omega)]
  rfl
theorem ix_scr {xs : List Int} {i : Int} (h0 : 0 ≤ i) (h1 : i < xs.length) : D.ix (.scr xs) (.int i) = pure (.int (xs[i.toNat]'(by omega))) := by
  show (ofO (atI' xs i) >>= _) = _
  unfold atI'
  rw [if_pos h0, if_pos h1, List.getElem?_eq_getElem (by omega)]
  rfl
/-! loops and comprehensions -/
@[simp] theorem forM_nil {S L : Type} (body : D → S → M (Fl S S)) (s : S) : forM (L := L) body [] s = pure (.nx s) := rfl
theorem forM_cons {S L : Type} (body : D → S → M (Fl S S)) (x : D) (r : List D) (s : S) : forM (L := L) body (x :: r) s = body x s >>= fun f => match f with
    | .nx s' => forM body r s'
    | .ct s' => forM body r s'
    | .bk s' => pure (.nx s')
    | .rt d => pure (.rt d) := rfl
/-- a loop that only turns its state -/
theorem forM_fold {S L : Type} {body : D → S → M (Fl S S)} {g : S → D → S} : ∀ {xs : List D} {s : S}, (∀ x ∈ xs, ∀ s, body x s = pure (.nx (g s x))) → forM (L := L) body xs s = pure (.nx (xs.foldl g s))
  | [], s, _ => rfl
  | x :: r, s, h => by
    rw [forM_cons, h x (List.mem_cons_self) s, pure_bind, List.foldl_cons]
    exact forM_fold fun y hy => h y (List.mem_cons_of_mem x hy)
/-- what a loop keeps -/
theorem Sat.for' {S L : Type} {body : D → S → M (Fl S S)} {R : Fl S L → Prop} (Inv : Nat → S → Prop) : ∀ {xs : List D} {s : S} (i : Nat), Inv i s → (∀ k x s, xs[k]? = some x → Inv (i + k) s → Sat (body x s) (fun f => match f with
    | .nx s' => Inv (i + k + 1) s'
    | .ct s' => Inv (i + k + 1) s'
    | .bk s' => R (.nx s')
    | .rt d => R (.rt d))) → (∀ s, Inv (i + xs.length) s → R (.nx s)) → Sat (forM body xs s) R
  | [], s, i, h, _, e => e s h
  | x :: r, s, i, h, b, e => by
    rw [forM_cons]
    refine Sat.bind (b 0 x s rfl h) fun f hf => ?_
    have nxt : ∀ s', Inv (i + 1) s' → Sat (forM (L := L) body r s') R := fun s' hs => Sat.for' Inv (i + 1) hs
      (fun k y s2 hk hi => by
        have hb := b (k + 1) y s2 (by rw [List.getElem?_cons_succ]; exact hk) (by rw [show i + (k + 1) = i + 1 + k by omega]; exact hi)
        rw [show i + (k + 1) + 1 = i + 1 + k + 1 by omega] at hb
        exact hb)
      (fun s2 h2 => e s2 (by rw [List.length_cons, show i + (r.length + 1) = i + 1 + r.length by omega]; exact h2))
    cases f with
    | nx s' => exact nxt s' hf
    | ct s' => exact nxt s' hf
    | bk s' => exact hf
    | rt d => exact hf
/-- .. without counting -/
theorem Sat.for0 {S L : Type} {body : D → S → M (Fl S S)} {R : Fl S L → Prop} (Inv : S → Prop) {xs : List D} {s : S} (h : Inv s) (b : ∀ x ∈ xs, ∀ s, Inv s → Sat (body x s) (fun f => match f with
    | .nx s' => Inv s'
    | .ct s' => Inv s'
    | .bk s' => R (.nx s')
    | .rt d => R (.rt d))) (e : ∀ s, Inv s → R (.nx s)) : Sat (forM body xs s) R :=
  Sat.for' (fun _ s => Inv s) 0 h (fun k x s hk hi => b x (List.mem_of_getElem? hk) s hi) e
theorem lcM_eq {f : D → M (Option D)} {g : D → Option D} : ∀ {xs acc : List D}, (∀ x ∈ xs, f x = pure (g x)) → acc.length + xs.length ≤ 16777216 → lcM f xs acc = pure (acc ++ xs.filterMap g)
  | [], acc, _, _ => by rw [List.filterMap_nil, List.append_nil]; rfl
  | x :: r, acc, h, hl => by
    rw [List.length_cons] at hl
    show (f x >>= _) = _
    rw [h x (List.mem_cons_self), pure_bind]
    cases e : g x with
    | none =>
      rw [List.filterMap_cons_none e]
      exact lcM_eq (fun y hy => h y (List.mem_cons_of_mem x hy)) (by omega)
    | some y =>
      rw [List.filterMap_cons_some e]
      show (guard _ >>= fun _ => _) = _
      rw [guard_bind (by rw [line_eq]; omega), lcM_eq (fun y hy => h y (List.mem_cons_of_mem x hy)) (by rw [List.length_append]; simp; omega)]
      simp
/-- a comprehension over known things -/
theorem lcF_eq {T : Type} {rit : M (List D)} {xs : List D} {tg : D → M T} {rt : T → M Bool} {re : T → M D} {t : D → T} {p : D → Bool} {g : D → D} (h0 : rit = pure xs) (hl : xs.length ≤ 16777216) (h1 : ∀ x ∈ xs, tg x = pure (t x)) (h2 : ∀ x ∈ xs, rt (t x) = pure (p x)) (h3 : ∀ x ∈ xs, p x = true → re (t x) = pure (g x)) :
    lcF rit tg rt re = pure ((xs.filter p).map g) := by
  unfold lcF
  rw [h0, pure_bind, lcM_eq (g := fun x => if p x then some (g x) else none) (fun x hx => ?_) (by simpa using hl), nox_pure]
  · congr 1
    rw [List.nil_append]
    clear h0 hl h1 h2 h3
    induction xs with
    | nil => rfl
    | cons x r ih =>
      by_cases e : p x = true
      · rw [List.filter_cons_of_pos e, List.map_cons, List.filterMap_cons_some (by rw [if_pos e]), ih]
      · rw [List.filter_cons_of_neg e, List.filterMap_cons_none (by rw [if_neg e]), ih]
  · rw [h1 x hx, pure_bind, lcIf, h2 x hx, pure_bind]
    by_cases e : p x = true
    · rw [if_pos e, if_pos e, h3 x hx e, pure_bind]
    · rw [if_neg e, if_neg e]
theorem lcF_map {T : Type} {rit : M (List D)} {xs : List D} {tg : D → M T} {re : T → M D} {t : D → T} {g : D → D} (h0 : rit = pure xs) (hl : xs.length ≤ 16777216) (h1 : ∀ x ∈ xs, tg x = pure (t x)) (h3 : ∀ x ∈ xs, re (t x) = pure (g x)) :
    lcF rit tg (fun _ => pure true) re = pure (xs.map g) := by
  rw [lcF_eq (p := fun _ => true) h0 hl h1 (fun _ _ => rfl) (fun x hx _ => h3 x hx)]
  congr 2
  exact List.filter_eq_self.mpr fun _ _ => rfl
theorem Sat.lcM {f : D → M (Option D)} {P : D → Prop} {n : Nat} : ∀ {xs acc : List D}, (∀ x ∈ xs, Sat (f x) (fun o => ∃ y, o = some y ∧ P y)) → acc.length + xs.length = n → n ≤ 16777216 → (∀ y ∈ acc, P y) → Sat (lcM f xs acc) (fun ys => ys.length = n ∧ ∀ y ∈ ys, P y)
  | [], acc, _, hl, _, ha => ⟨by simpa using hl, ha⟩
  | x :: r, acc, h, hl, hn, ha => by
    rw [List.length_cons] at hl
    refine Sat.bind (h x (List.mem_cons_self)) fun o ho => ?_
    obtain ⟨y, rfl, hy⟩ := ho
    refine Sat.grd (by rw [line_eq]; omega) (Sat.lcM (fun y hy => h y (List.mem_cons_of_mem x hy)) (by rw [List.length_append]; simp; omega) hn fun z hz => ?_)
    rcases List.mem_append.mp hz with z1 | z1
    · exact ha z z1
    · rw [List.mem_singleton.mp z1]; exact hy
/-- a comprehension that draws -/
theorem Sat.lcF {T : Type} {rit : M (List D)} {xs : List D} {tg : D → M T} {re : T → M D} {t : D → T} {P : D → Prop} (h0 : rit = pure xs) (hl : xs.length ≤ 16777216) (h1 : ∀ x ∈ xs, tg x = pure (t x)) (h3 : ∀ x ∈ xs, Sat (re (t x)) P) :
    Sat (lcF rit tg (fun _ => pure true) re) (fun ys => ys.length = xs.length ∧ ∀ y ∈ ys, P y) := by
  unfold Ev.lcF
  rw [h0, pure_bind]
  refine Sat.nox (Sat.lcM (fun x hx => ?_) (by simp) hl (by simp))
  rw [h1 x hx, pure_bind, lcIf, pure_bind, if_pos rfl]
  exact Sat.bind (h3 x hx) fun y hy => ⟨y, rfl, hy⟩
theorem rangeL_length (a b : Int) : (rangeL a b).length = (b - a).toNat := by
  unfold rangeL
  rw [List.length_map, List.length_range]
theorem rangeL_mem {a b : Int} {d : D} : d ∈ rangeL a b ↔ ∃ i : Int, d = .int i ∧ a ≤ i ∧ i < b := by
  unfold rangeL
  rw [List.mem_map]
  constructor
  · rintro ⟨k, hk, rfl⟩
    rw [List.mem_range] at hk
    exact ⟨_, rfl, by omega, by omega⟩
  · rintro ⟨i, rfl, h1, h2⟩
    exact ⟨(i - a).toNat, List.mem_range.mpr (by omega), by congr 1; omega⟩
theorem boolsL_map {α : Type} (f : α → Bool) : ∀ xs : List α, boolsL (xs.map fun x => D.bl (f x)) = some (xs.map f)
  | [] => rfl
  | x :: r => by simp [boolsL, boolsL_map f r]
theorem intsL_map {α : Type} (f : α → Int) : ∀ xs : List α, intsL (xs.map fun x => D.int (f x)) = some (xs.map f)
  | [] => rfl
  | x :: r => by simp [intsL, intsL_map f r]
theorem all_map {α : Type} (f : α → Bool) (xs : List α) : D.all (.lst (xs.map fun x => D.bl (f x))) = pure (.bl (xs.all f)) := by
  show (ofO (boolsL _) >>= _) = _
  rw [boolsL_map]
  show pure (D.bl _) = _
  rw [List.all_map]
  rfl
theorem any_map {α : Type} (f : α → Bool) (xs : List α) : D.any (.lst (xs.map fun x => D.bl (f x))) = pure (.bl (xs.any f)) := by
  show (ofO (boolsL _) >>= _) = _
  rw [boolsL_map]
  show pure (D.bl _) = _
  rw [List.any_map]
  rfl
/-- a loop that leaves at the first thing of a kind -/
theorem forM_any {S L : Type} {body : D → S → M (Fl S S)} {p : D → Bool} {d : D} : ∀ {xs : List D} {s : S}, (∀ x ∈ xs, ∀ s, body x s = if p x = true then pure (.rt d) else pure (.nx s)) → forM (L := L) body xs s = if xs.any p = true then pure (.rt d) else pure (.nx s)
  | [], s, _ => rfl
  | x :: r, s, h => by
    rw [forM_cons, h x (List.mem_cons_self) s]
    by_cases e : p x = true
    · rw [if_pos e, pure_bind, if_pos (by rw [List.any_cons, e]; rfl)]
    · rw [if_neg e, pure_bind, List.any_cons, Bool.eq_false_iff.mpr e, Bool.false_or]
      exact forM_any fun y hy => h y (List.mem_cons_of_mem x hy)
theorem plains_mem {k : Bool} {xs : List D} (h : D.plains k xs = true) : ∀ x ∈ xs, x.plain k = true := by
  rw [D.plains_all] at h
  exact List.all_eq_true.mp h
/-! one name as the target -/
theorem lcF_map1 {xs : List D} {re : D → M D} (g : D → D) (hl : xs.length ≤ 16777216) (h3 : ∀ x ∈ xs, re x = pure (g x)) : lcF (pure xs) tg1 (fun _ => pure true) re = pure (xs.map g) :=
  lcF_map (t := id) rfl hl (fun _ _ => rfl) h3
theorem lcF_eq1 {xs : List D} {rt : D → M Bool} {re : D → M D} (p : D → Bool) (g : D → D) (hl : xs.length ≤ 16777216) (h2 : ∀ x ∈ xs, rt x = pure (p x)) (h3 : ∀ x ∈ xs, p x = true → re x = pure (g x)) : lcF (pure xs) tg1 rt re = pure ((xs.filter p).map g) :=
  lcF_eq (t := id) rfl hl (fun _ _ => rfl) h2 h3
theorem Sat.lcF1 {xs : List D} {re : D → M D} {P : D → Prop} (hl : xs.length ≤ 16777216) (h3 : ∀ x ∈ xs, Sat (re x) P) : Sat (Ev.lcF (pure xs) tg1 (fun _ => pure true) re) (fun ys => ys.length = xs.length ∧ ∀ y ∈ ys, P y) :=
  Sat.lcF (t := id) rfl hl (fun _ _ => rfl) h3
/-- .. over a range -/
theorem lcF_rng {a b : Int} {re : D → M D} (g : Int → D) (hl : b - a ≤ 16777216) (h3 : ∀ i : Int, a ≤ i → i < b → re (.int i) = pure (g i)) : lcF (pure (rangeL a b)) tg1 (fun _ => pure true) re = pure ((List.range (b - a).toNat).map fun k : Nat => g (a + k)) := by
  rw [lcF_map1 (fun d => match d with | .int i => g i | _ => d) (by rw [rangeL_length]; omega) fun x hx => ?_]
  · unfold rangeL
    rw [List.map_map]
    rfl
  · obtain ⟨i, rfl, h1, h2⟩ := rangeL_mem.mp hx
    exact h3 i h1 h2
theorem cutL_le {α : Type} (xs : List α) (l h : Option Int) : (cutL xs l h).length ≤ xs.length := by
  unfold cutL
  rw [List.length_take, List.length_drop]
  omega
theorem cutL_mem {α : Type} {xs : List α} {l h : Option Int} {x : α} (m : x ∈ cutL xs l h) : x ∈ xs := List.mem_of_mem_drop (List.mem_of_mem_take m)
theorem rep_length {α : Type} (k : Int) (xs : List α) : (rep k xs).length = k.toNat * xs.length := by
  unfold rep
  induction k.toNat with
  | zero => simp
  | succ n ih => rw [List.replicate_succ, List.flatten_cons, List.length_append, ih, Nat.succ_mul, Nat.add_comm]
theorem rep_mem {α : Type} {k : Int} {xs : List α} {x : α} (m : x ∈ rep k xs) : x ∈ xs := by
  unfold rep at m
  rw [List.mem_flatten] at m
  obtain ⟨l, h1, h2⟩ := m
  rw [(List.mem_replicate.mp h1).2] at h2
  exact h2
/-! blocks and ends -/
theorem Sat.seq {S T L : Type} {m : M (Fl S L)} {k : S → M (Fl T L)} {R : Fl T L → Prop} (h : Sat m (fun f => match f with
    | .nx s => Sat (k s) R
    | .rt d => R (.rt d)
    | .bk l => R (.bk l)
    | .ct l => R (.ct l))) : Sat (seqM m k) R := Sat.bind h fun f hf => by
  cases f with
  | nx s => exact hf
  | rt d => exact hf
  | bk l => exact hf
  | ct l => exact hf
theorem Sat.endseq {S : Type} {own : Bool} {m : M (Fl S Empty)} {k : S → M (Fl Unit Empty)} {P : D → Prop} (h : Sat m (fun f => match f with
    | .nx s => Sat (endB own (k s)) P
    | .rt d => P d
    | .bk _ => False
    | .ct _ => False)) : Sat (endB own (seqM m k)) P := by
  have key : ∀ f : Fl S Empty, (match f with
    | .nx s => Sat (endB own (k s)) P
    | .rt d => P d
    | .bk _ => False
    | .ct _ => False) → Sat (endB own (seqM (pure f) k)) P := fun f hf => by
    cases f with
    | nx s => exact hf
    | rt d => rw [seqM_rt, endB_rt]; exact hf
    | bk l => exact l.elim
    | ct l => exact l.elim
  cases own with
  | false => exact m.mono (fun f hf => key f hf) (fun _ z => z) h
  | true => exact m.mono (fun f hf => key f hf) (fun _ z => z) h
/-! loops that run through -/
theorem forM_run {S L : Type} {body : D → S → M (Fl S S)} : ∀ {xs : List D} (st : Nat → S) {s : S}, s = st 0 → (∀ i x, xs[i]? = some x → body x (st i) = pure (.nx (st (i + 1)))) → forM (L := L) body xs s = pure (.nx (st xs.length))
  | [], st, s, h0, _ => by rw [h0]; rfl
  | x :: r, st, s, h0, h => by
    rw [forM_cons, h0, h 0 x rfl, pure_bind]
    exact forM_run (fun i => st (i + 1)) rfl fun i y hy => h (i + 1) y (by rw [List.getElem?_cons_succ]; exact hy)
theorem rangeL_get {a b : Int} {i : Nat} {x : D} (h : (rangeL a b)[i]? = some x) : i < (b - a).toNat ∧ x = .int (a + i) := by
  have hl : i < (rangeL a b).length := (List.getElem?_eq_some_iff.mp h).1
  rw [rangeL_length] at hl
  refine ⟨hl, ?_⟩
  unfold rangeL at h
  rw [List.getElem?_map, List.getElem?_range hl] at h
  exact (Option.some.inj h).symm
theorem forM_rng {S L : Type} {body : D → S → M (Fl S S)} {a b : Int} (st : Nat → S) {s : S} (h0 : s = st 0) (h : ∀ i : Nat, i < (b - a).toNat → body (.int (a + i)) (st i) = pure (.nx (st (i + 1)))) : forM (L := L) body (rangeL a b) s = pure (.nx (st (b - a).toNat)) := by
  rw [forM_run st h0 fun i x hx => ?_, rangeL_length]
  obtain ⟨h1, rfl⟩ := rangeL_get hx
  exact h i h1
theorem forM_rng0 {S L : Type} {body : D → S → M (Fl S S)} {n : Nat} (st : Nat → S) {s : S} (h0 : s = st 0) (h : ∀ i : Nat, i < n → body (.int i) (st i) = pure (.nx (st (i + 1)))) : forM (L := L) body (rangeL 0 n) s = pure (.nx (st n)) := by
  rw [forM_rng st h0 fun i hi => ?_]
  · rw [show ((n : Int) - 0).toNat = n by omega]
  · rw [Int.zero_add]
    exact h i (by omega)
theorem lcF_rng0 {n : Nat} {re : D → M D} (g : Nat → D) (hl : n ≤ 16777216) (h3 : ∀ i : Nat, i < n → re (.int i) = pure (g i)) : lcF (pure (rangeL 0 n)) tg1 (fun _ => pure true) re = pure ((List.range n).map g) := by
  rw [lcF_rng (fun i => g i.toNat) (by omega) fun i h1 h2 => ?_]
  · rw [show ((n : Int) - 0).toNat = n by omega]
    congr 1
    apply List.map_congr_left
    intro k _
    congr 1
    omega
  · have := h3 i.toNat (by omega)
    rw [show ((i.toNat : Nat) : Int) = i by omega] at this
    exact this
theorem filter_lt {p : Nat → Bool} {k : Nat} : ∀ {m : Nat}, k ≤ m → (∀ j, j < m → (p j = true ↔ j < k)) → (List.range m).filter p = List.range k
  | 0, hk, _ => by
    rw [show k = 0 by omega]
    rfl
  | m + 1, hk, h => by
    rw [List.range_succ, List.filter_append]
    by_cases e : k = m + 1
    · have e1 : p m = true := (h m (by omega)).mpr (by omega)
      rw [List.filter_cons_of_pos e1, List.filter_nil, e, List.range_succ]
      congr 1
      exact List.filter_eq_self.mpr fun j hj => (h j (by rw [List.mem_range] at hj; omega)).mpr (by rw [List.mem_range] at hj; omega)
    · have e1 : ¬ p m = true := fun z => by have := (h m (by omega)).mp z; omega
      rw [List.filter_cons_of_neg e1, List.filter_nil, List.append_nil]
      exact filter_lt (by omega) fun j hj => h j (by omega)
theorem grd_line {α : Type} {n : Nat} (h : n ≤ 16777216) (k : Unit → M α) : (guard (n ≤ line) >>= k) = k () := guard_bind (by rw [line_eq]; exact h) k
theorem grd_line' {α : Type} {n : Nat} (h : n < 16777216) (k : Unit → M α) : (guard (n < line) >>= k) = k () := guard_bind (by rw [line_eq]; exact h) k
@[simp] theorem ix_zero (x : D) (r : List D) : D.ix (.lst (x :: r)) (.int 0) = pure x := by
  rw [ix_lst (Int.le_refl 0) (by rw [List.length_cons]; omega)]
  rfl
@[simp] theorem ix_zeroT (x : D) (r : List D) : D.ix (.tup (x :: r)) (.int 0) = pure x := by
  rw [ix_tup (Int.le_refl 0) (by rw [List.length_cons]; omega)]
  rfl
theorem minmax_all (x : Int) (r : List Int) : decide (r.foldl min x = r.foldl max x) = (x :: r).all fun y => decide (y = x) := by
  obtain ⟨m1, m2⟩ := foldl_min_mem r x
  obtain ⟨n1, n2⟩ := foldl_max_mem r x
  rw [Bool.eq_iff_iff, decide_eq_true_iff, List.all_eq_true]
  constructor
  · intro e y hy
    have a := m2 y hy
    have b := n2 y hy
    have c := m2 x (List.mem_cons_self)
    have d := n2 x (List.mem_cons_self)
    exact decide_eq_true (by omega)
  · intro h
    have a := of_decide_eq_true (h _ m1)
    have b := of_decide_eq_true (h _ n1)
    omega
/-! enumerate -/
@[simp] theorem enumM_tup (xs : List D) : enumM (pure (.tup xs)) = pure (enumL xs) := rfl
@[simp] theorem enumM_lst (xs : List D) : enumM (pure (.lst xs)) = pure (enumL xs) := rfl
def pairOf : D → D × D
  | .tup [a, b] => (a, b)
  | d => (d, d)
theorem lcF_enum {xs : List D} {rt : D × D → M Bool} {re : D × D → M D} (p : Nat → Bool) (g : Nat → D) (hl : xs.length ≤ 16777216) (h : ∀ (i : Nat) (x : D), xs[i]? = some x → rt (.int i, x) = pure (p i) ∧ (p i = true → re (.int i, x) = pure (g i))) :
    lcF (pure (enumL xs)) un2 rt re = pure (((List.range xs.length).filter p).map g) := by
  let ix : D → Nat := fun d => match d with | .tup [.int i, _] => i.toNat | _ => 0
  have key : ∀ x ∈ enumL xs, ∃ (i : Nat) (z : D), xs[i]? = some z ∧ x = .tup [.int i, z] ∧ ix x = i := fun x hx => by
    obtain ⟨i, hi⟩ := List.mem_iff_getElem?.mp hx
    obtain ⟨z, h1, rfl⟩ := enumL_get hi
    exact ⟨i, z, h1, rfl, by simp [ix]⟩
  rw [lcF_eq (t := pairOf) (p := fun d => p (ix d)) (g := fun d => g (ix d)) rfl (by rw [enumL_len]; exact hl) (fun x hx => ?_) (fun x hx => ?_) (fun x hx hp => ?_)]
  · congr 1
    unfold enumL
    rw [List.filter_map, List.map_map]
    have e : ∀ i : Nat, ix (D.tup [D.int (i : Nat), xs.getD i .non]) = i := fun i => by simp [ix]
    have e1 : ((fun d => g (ix d)) ∘ fun i : Nat => D.tup [D.int (i : Nat), xs.getD i .non]) = g := funext fun i => congrArg g (e i)
    have e2 : ((fun d => p (ix d)) ∘ fun i : Nat => D.tup [D.int (i : Nat), xs.getD i .non]) = p := funext fun i => congrArg p (e i)
    rw [e1, e2]
  · obtain ⟨i, z, h1, rfl, e⟩ := key x hx
    rfl
  · obtain ⟨i, z, h1, rfl, e⟩ := key x hx
    rw [e]
    exact (h i z h1).1
  · obtain ⟨i, z, h1, rfl, e⟩ := key x hx
    rw [e] at hp ⊢
    exact (h i z h1).2 hp
/-- a loop over enumerate -/
theorem forM_enum {S L : Type} {body : D → S → M (Fl S S)} {xs : List D} (st : Nat → S) {s : S} (h0 : s = st 0) (h : ∀ (i : Nat) (x : D), xs[i]? = some x → body (.tup [.int i, x]) (st i) = pure (.nx (st (i + 1)))) : forM (L := L) body (enumL xs) s = pure (.nx (st xs.length)) := by
  rw [forM_run st h0 fun i x hx => ?_, enumL_len]
  obtain ⟨z, h1, rfl⟩ := enumL_get hx
  exact h i z h1
theorem stepL_mem {α : Type} {xs : List α} {lo hi : Option Int} {st : Int} {x : α} (h : x ∈ stepL xs lo hi st) : x ∈ xs := by
  unfold stepL at h
  rw [List.mem_filterMap] at h
  obtain ⟨k, _, e⟩ := h
  exact List.mem_of_getElem? e
theorem stepL_map {α β : Type} (f : α → β) (xs : List α) (lo hi : Option Int) (st : Int) : stepL (xs.map f) lo hi st = (stepL xs lo hi st).map f := by
  unfold stepL
  rw [List.length_map, List.map_filterMap]
  congr 1
  funext k
  rw [List.getElem?_map]
theorem cutL_map {α β : Type} (f : α → β) (xs : List α) (lo hi : Option Int) : cutL (xs.map f) lo hi = (cutL xs lo hi).map f := by
  unfold cutL
  rw [List.length_map, List.map_take, List.map_drop]
theorem stepL_len2 {α : Type} (xs : List α) {st : Int} (h : 0 < st) : (stepL xs none none st).length ≤ xs.length := by
  refine Nat.le_trans (List.length_filterMap_le _ _) ?_
  rw [List.length_range]
  unfold PySem.Builtin.Slice.slicePlaces PySem.Builtin.Slice.sliceAdjust
  simp only [show ¬ st < 0 by omega, if_false, if_pos h]
  by_cases c : (0 : Int) < xs.length
  · rw [if_pos c]
    have : ((xs.length : Int) - 0 - 1) / st ≤ (xs.length : Int) - 0 - 1 := Int.ediv_le_self _ (by omega)
    omega
  · rw [if_neg c]
    omega
end Ev

/-! Data: kinds, equality, texts of things. -/
namespace Ev
open PySem (Str PyData)
@[simp] theorem isaM_non (t : Ty) : isaM t .non = pure (.bl false) := rfl
@[simp] theorem isaM_bl (t : Ty) (b : Bool) : isaM t (.bl b) = pure (.bl (t == .bool || t == .int)) := rfl
@[simp] theorem isaM_int (t : Ty) (i : Int) : isaM t (.int i) = pure (.bl (t == .int)) := rfl
@[simp] theorem isaM_str (t : Ty) (i : Str) : isaM t (.str i) = pure (.bl (t == .str)) := rfl
@[simp] theorem isaM_tup (t : Ty) (i : List D) : isaM t (.tup i) = pure (.bl (t == .tuple)) := rfl
@[simp] theorem isaM_lst (t : Ty) (i : List D) : isaM t (.lst i) = pure (.bl (t == .list)) := rfl
@[simp] theorem isaM_dct (t : Ty) (i : List (Sum Int Str × D)) : isaM t (.dct i) = pure (.bl (t == .dict)) := rfl
@[simp] theorem isN_non : D.isN .non = true := rfl
@[simp] theorem isN_bl (b : Bool) : D.isN (.bl b) = false := rfl
@[simp] theorem isN_int (b : Int) : D.isN (.int b) = false := rfl
@[simp] theorem isN_str (b : Str) : D.isN (.str b) = false := rfl
@[simp] theorem isN_tup (b : List D) : D.isN (.tup b) = false := rfl
@[simp] theorem isN_lst (b : List D) : D.isN (.lst b) = false := rfl
/-- a thing whose kind is known -/
def D.kn : D → Prop
  | .pen _ | .scr _ | .opq _ => False
  | _ => True
theorem kn_of_plain {k : Bool} {d : D} (h : d.plain k = true) : d.kn := by
  cases d <;> simp_all [D.plain, D.kn]

/-! ### what may be compared -/
def D.cm (n : Nat) (d : D) : Prop := d.plain false = true ∧ d.py.canLay0 = true ∧ d.py.depth ≤ n
theorem cm_non (n : Nat) : D.cm n .non := ⟨rfl, by simp [D.py, PyData.canLay0], by simp [D.py, PyData.depth]⟩
theorem cm_bl (n : Nat) (b : Bool) : D.cm n (.bl b) := ⟨rfl, by simp [D.py, PyData.canLay0], by simp [D.py, PyData.depth]⟩
theorem cm_int (n : Nat) (b : Int) : D.cm n (.int b) := ⟨rfl, by simp [D.py, PyData.canLay0], by simp [D.py, PyData.depth]⟩
theorem cm_str (n : Nat) (b : Str) (h : PyData.strOk b = true) : D.cm n (.str b) := ⟨rfl, by simp [D.py, PyData.canLay0, h], by simp [D.py, PyData.depth]⟩
theorem cms {n : Nat} : ∀ {xs : List D}, (∀ x ∈ xs, x.cm n) → D.plains false xs = true ∧ PyData.canLayAll0 (D.pys xs) = true ∧ PyData.depthAll (D.pys xs) ≤ n
  | [], _ => ⟨rfl, by simp [D.pys, PyData.canLayAll0], by simp [D.pys, PyData.depthAll]⟩
  | x :: r, h => by
    obtain ⟨a, b, c⟩ := h x (List.mem_cons_self)
    obtain ⟨d, e, f⟩ := cms fun y hy => h y (List.mem_cons_of_mem x hy)
    exact ⟨by simp [D.plains, a, d], by simp [D.pys, PyData.canLayAll0, b, e], by simp [D.pys, PyData.depthAll]; omega⟩
theorem cm_tup {n : Nat} {xs : List D} (h : ∀ x ∈ xs, x.cm n) : D.cm (n + 1) (.tup xs) := by
  obtain ⟨a, b, c⟩ := cms h
  exact ⟨by simpa [D.plain] using a, by simpa [D.py, PyData.canLay0] using b, by simpa [D.py, PyData.depth] using c⟩
theorem cm_lst {n : Nat} {xs : List D} (h : ∀ x ∈ xs, x.cm n) : D.cm (n + 1) (.lst xs) := by
  obtain ⟨a, b, c⟩ := cms h
  exact ⟨by simpa [D.plain] using a, by simpa [D.py, PyData.canLay0] using b, by simpa [D.py, PyData.depth] using c⟩
theorem cm_mono {m n : Nat} {d : D} (h : d.cm m) (l : m ≤ n) : d.cm n := ⟨h.1, h.2.1, Nat.le_trans h.2.2 l⟩
theorem cm_cmp {n : Nat} {d : D} (h : d.cm n) (l : n ≤ 64) : d.cmp = true := by
  unfold D.cmp
  rw [h.1, h.2.1, decide_eq_true (Nat.le_trans h.2.2 l)]
  rfl
/-- .. then == says whether they are equal -/
theorem eqA_cm {n : Nat} {a b : D} (h : a.cm n) (k : b.cm n) (l : n ≤ 64) : D.eqA a b = pure (.bl (a.eqv b)) := by
  unfold D.eqA
  split
  · congr 2
  · unfold D.eq
    rw [guard_bind ⟨cm_cmp h l, cm_cmp k l⟩]
theorem neA_cm {n : Nat} {a b : D} (h : a.cm n) (k : b.cm n) (l : n ≤ 64) : D.neA a b = pure (.bl (!a.eqv b)) := by
  unfold D.neA
  split
  · congr 3
  · unfold D.ne
    rw [guard_bind ⟨cm_cmp h l, cm_cmp k l⟩]
@[simp] theorem eqA_int (i j : Int) : D.eqA (.int i) (.int j) = pure (.bl (decide (i = j))) := by
  rw [eqA_cm (cm_int 0 i) (cm_int 0 j) (by decide)]
  congr 2
@[simp] theorem neA_int (i j : Int) : D.neA (.int i) (.int j) = pure (.bl (!decide (i = j))) := by
  rw [neA_cm (cm_int 0 i) (cm_int 0 j) (by decide)]
  congr 3
@[simp] theorem eqA_bl (i j : Bool) : D.eqA (.bl i) (.bl j) = pure (.bl (i == j)) := by
  rw [eqA_cm (cm_bl 0 i) (cm_bl 0 j) (by decide)]
  simp only [D.eqv, D.py, PyData.eqv]
@[simp] theorem neA_bl (i j : Bool) : D.neA (.bl i) (.bl j) = pure (.bl (!(i == j))) := by
  rw [neA_cm (cm_bl 0 i) (cm_bl 0 j) (by decide)]
  simp only [D.eqv, D.py, PyData.eqv]
@[simp] theorem eqA_str (i j : Str) : D.eqA (.str i) (.str j) = pure (.bl (decide (i = j))) := rfl
@[simp] theorem neA_str (i j : Str) : D.neA (.str i) (.str j) = pure (.bl (!decide (i = j))) := rfl
/-- data told by something that has its own equality -/
structure Enc {α : Type} [DecidableEq α] (n : Nat) (f : α → D) : Prop where
  cm : ∀ a, (f a).cm n
  eq : ∀ a b, (f a).eqv (f b) = decide (a = b)
section
variable {α β : Type} [DecidableEq α] [DecidableEq β] {f : α → D} {g : β → D} {n : Nat}
theorem Enc.eqA (e : Enc n f) (h : n ≤ 64) (a b : α) : D.eqA (f a) (f b) = pure (.bl (decide (a = b))) := by
  rw [eqA_cm (e.cm a) (e.cm b) h, e.eq]
theorem Enc.neA (e : Enc n f) (h : n ≤ 64) (a b : α) : D.neA (f a) (f b) = pure (.bl (!decide (a = b))) := by
  rw [neA_cm (e.cm a) (e.cm b) h, e.eq]
theorem enc_int (n : Nat) : Enc n D.int := ⟨cm_int n, fun a b => by
  simp only [D.eqv, D.py, PyData.eqv]
  rw [Bool.eq_iff_iff]
  simp⟩
theorem eqvAll_map (h : ∀ a b, (f a).eqv (f b) = decide (a = b)) : ∀ xs ys : List α, PyData.eqvAll (D.pys (xs.map f)) (D.pys (ys.map f)) = decide (xs = ys)
  | [], [] => by simp [D.pys, PyData.eqvAll]
  | [], y :: ys => by simp [D.pys, PyData.eqvAll]
  | x :: xs, [] => by simp [D.pys, PyData.eqvAll]
  | x :: xs, y :: ys => by
    simp only [List.map_cons, D.pys, PyData.eqvAll]
    rw [eqvAll_map h xs ys]
    rw [show PyData.eqv (f x).py (f y).py = decide (x = y) from h x y]
    rw [Bool.eq_iff_iff]
    simp
theorem Enc.tup (e : Enc n f) : Enc (n + 1) (fun xs : List α => D.tup (xs.map f)) := ⟨fun a => cm_tup fun x hx => by
  obtain ⟨y, _, rfl⟩ := List.mem_map.mp hx
  exact e.cm y, fun a b => by
  simp only [D.eqv, D.py, PyData.eqv]
  exact eqvAll_map e.eq a b⟩
theorem Enc.lst (e : Enc n f) : Enc (n + 1) (fun xs : List α => D.lst (xs.map f)) := ⟨fun a => cm_lst fun x hx => by
  obtain ⟨y, _, rfl⟩ := List.mem_map.mp hx
  exact e.cm y, fun a b => by
  simp only [D.eqv, D.py, PyData.eqv]
  exact eqvAll_map e.eq a b⟩
theorem Enc.pair (e : Enc n f) (e2 : Enc n g) : Enc (n + 1) (fun p : α × β => D.tup [f p.1, g p.2]) := ⟨fun a => cm_tup fun x hx => by
  rcases List.mem_cons.mp hx with rfl | hx
  · exact e.cm _
  · rw [List.mem_singleton.mp hx]
    exact e2.cm _, fun a b => by
  simp only [D.eqv, D.py, PyData.eqv, D.pys, PyData.eqvAll]
  rw [show PyData.eqv (f a.1).py (f b.1).py = decide (a.1 = b.1) from e.eq _ _, show PyData.eqv (g a.2).py (g b.2).py = decide (a.2 = b.2) from e2.eq _ _, Bool.eq_iff_iff]
  simp [Prod.ext_iff]⟩
end
/-- tuples of numbers -/
def ti (xs : List Int) : D := .tup (xs.map .int)
theorem enc_ti (n : Nat) : Enc (n + 1) ti := (enc_int n).tup
/-- lists of them -/
def lti (xs : List (List Int)) : D := .lst (xs.map ti)
theorem enc_lti (n : Nat) : Enc (n + 2) lti := (enc_ti n).lst
def li (xs : List Int) : D := .lst (xs.map .int)
theorem enc_li (n : Nat) : Enc (n + 1) li := (enc_int n).lst
@[simp] theorem eqA_ti (a b : List Int) : D.eqA (ti a) (ti b) = pure (.bl (decide (a = b))) := (enc_ti 0).eqA (by decide) a b
@[simp] theorem neA_ti (a b : List Int) : D.neA (ti a) (ti b) = pure (.bl (!decide (a = b))) := (enc_ti 0).neA (by decide) a b
@[simp] theorem eqA_lti (a b : List (List Int)) : D.eqA (lti a) (lti b) = pure (.bl (decide (a = b))) := (enc_lti 0).eqA (by decide) a b
@[simp] theorem neA_lti (a b : List (List Int)) : D.neA (lti a) (lti b) = pure (.bl (!decide (a = b))) := (enc_lti 0).neA (by decide) a b
@[simp] theorem eqA_li (a b : List Int) : D.eqA (li a) (li b) = pure (.bl (decide (a = b))) := (enc_li 0).eqA (by decide) a b
@[simp] theorem neA_li (a b : List Int) : D.neA (li a) (li b) = pure (.bl (!decide (a = b))) := (enc_li 0).neA (by decide) a b

/-! ### texts of things -/
theorem slen_app (a b : Str) : (a ++ b).length = a.length + b.length := by
  show (a.cps ++ b.cps).size = _
  rw [Array.size_append]
  rfl
mutual
def D.wt : D → Nat
  | .non => 4 | .bl _ => 5 | .int i => (toString i).length | .str x => (PySem.reprText x).length
  | .tup xs => D.wts xs + 3
  | .lst xs => D.wts xs + 3
  | .dct kvs => D.wtKv kvs + 3
  | .pen _ | .scr _ | .opq _ => 4
def D.wts : List D → Nat
  | [] => 0
  | x :: r => x.wt + 2 + D.wts r
def D.wtKv : List (Sum Int Str × D) → Nat
  | [] => 0
  | (k, v) :: r => (keyPy k).shown.length + v.wt + 4 + D.wtKv r
end
def lens : List Str → Nat
  | [] => 0
  | x :: r => x.length + 2 + lens r
theorem piled_lens : ∀ ts : List Str, PySem.piled ts = lens ts
  | [] => by simp [PySem.piled, lens]
  | x :: r => by
    have := piled_lens r
    simp [PySem.piled, lens] at this ⊢
    omega
theorem join_len (ts : List Str) : ((Str.ofString ", ").join ts).length ≤ lens ts := by
  by_cases h : ts = []
  · subst h
    exact Nat.le_of_eq rfl
  · have := PySem.join_length_add ts h
    rw [piled_lens] at this
    omega
theorem from_len : ∀ (ts : List Str) (k : Nat) (acc : Str), (PySem.textFrom k acc ts).length ≤ acc.length + lens ts
  | [], k, acc => by simp [PySem.textFrom, lens]
  | x :: r, k, acc => by
    rw [PySem.textFrom]
    refine Nat.le_trans (from_len r _ _) ?_
    rw [slen_app, slen_app, lens]
    have : (Str.ofString (if k > 0 then ", " else "")).length ≤ 2 := by
      by_cases h : k > 0
      · rw [if_pos h]; decide +kernel
      · rw [if_neg h]; decide +kernel
    omega
mutual
theorem shown_wt : ∀ d : D, d.py.shown.length ≤ d.wt
  | .non => by rw [D.py, PyData.shown, D.wt]; decide +kernel
  | .bl b => by
    rw [D.py, PyData.shown, D.wt]
    cases b <;> decide +kernel
  | .int i => by
    rw [D.py, PyData.shown, D.wt, PySem.ofString_length]
    exact Nat.le_refl _
  | .str x => by
    rw [D.py, PyData.shown, D.wt]
    exact Nat.le_refl _
  | .tup xs => by
    rw [D.py, PyData.shown, D.wt, PySem.tupleText, slen_app, slen_app]
    have h := shown_wts xs
    have j := join_len (PyData.shownAll (D.pys xs))
    have e : (Str.ofString "(").length = 1 := by decide +kernel
    have e2 : (Str.ofString (if ((PyData.shownAll (D.pys xs)).length == 1) = true then ",)" else ")")).length ≤ 2 := by
      by_cases h : ((PyData.shownAll (D.pys xs)).length == 1) = true
      · rw [if_pos h]; decide +kernel
      · rw [if_neg h]; decide +kernel
    omega
  | .lst xs => by
    rw [D.py, PyData.shown, D.wt, PySem.listText, slen_app]
    have h := shown_wts xs
    have j := from_len (PyData.shownAll (D.pys xs)) 0 (Str.ofString "[")
    have e : (Str.ofString "[").length = 1 := by decide +kernel
    have e2 : (Str.ofString "]").length = 1 := by decide +kernel
    omega
  | .dct kvs => by
    rw [D.py, PyData.shown, D.wt, PySem.dictText, slen_app, slen_app]
    have h := shown_wtKv kvs
    have j := join_len (PyData.shownKv (D.pyKv kvs))
    have e : (Str.ofString "{").length = 1 := by decide +kernel
    have e2 : (Str.ofString "}").length = 1 := by decide +kernel
    omega
  | .pen _ => by rw [D.py, PyData.shown, D.wt]; decide +kernel
  | .scr _ => by rw [D.py, PyData.shown, D.wt]; decide +kernel
  | .opq _ => by rw [D.py, PyData.shown, D.wt]; decide +kernel
theorem shown_wts : ∀ xs : List D, lens (PyData.shownAll (D.pys xs)) ≤ D.wts xs
  | [] => by rw [D.pys, PyData.shownAll, D.wts, lens]; exact Nat.le_refl _
  | x :: r => by
    have a := shown_wt x
    have b := shown_wts r
    rw [D.pys, PyData.shownAll, D.wts, lens]
    omega
theorem shown_wtKv : ∀ xs : List (Sum Int Str × D), lens (PyData.shownKv (D.pyKv xs)) ≤ D.wtKv xs
  | [] => by rw [D.pyKv, PyData.shownKv, D.wtKv, lens]; exact Nat.le_refl _
  | (k, v) :: r => by
    have a := shown_wt v
    have b := shown_wtKv r
    have e : (Str.ofString ": ").length = 2 := by decide +kernel
    rw [D.pyKv, PyData.shownKv, D.wtKv, lens, slen_app, slen_app]
    omega
end
/-- what may stand in a thing that is shown: n: how deep, m: how long -/
structure D.itm (n m : Nat) (d : D) : Prop where
  pl : d.plain true = true
  sh : d.py.showable = true
  de : d.py.depth ≤ n
  we : d.wt ≤ m
theorem digits_len {i : Int} {k : Nat} (hk : 0 < k) (h : i.natAbs < 10 ^ k) : (toString i).length ≤ k + 1 := by
  have key : ∀ n : Nat, n < 10 ^ k → (toString n).length ≤ k := fun n hn => by
    show (Nat.repr n).length ≤ k
    unfold Nat.repr
    rw [String.length_ofList]
    exact (Nat.length_toDigits_le_iff (by decide) hk).mpr hn
  cases i with
  | ofNat n => exact Nat.le_succ_of_le (key n h)
  | negSucc n =>
    show ("-" ++ toString (n + 1)).length ≤ _
    rw [String.length_append]
    have := key (n + 1) h
    have e : ("-" : String).length = 1 := by decide +kernel
    omega
theorem itm_int {n m : Nat} {i : Int} {k : Nat} (hk : 0 < k) (h : i.natAbs < 10 ^ k) (hm : k + 1 ≤ m) (k5 : k ≤ 500) : D.itm n m (.int i) where
  pl := rfl
  sh := by
    rw [D.py, PyData.showable]
    have h2 : i.natAbs < 2 ^ 1920 := Nat.lt_of_lt_of_le h (Nat.le_trans (Nat.pow_le_pow_right (by decide) k5) (by decide +kernel))
    by_cases z : i.natAbs = 0
    · rw [z]; decide +kernel
    · exact decide_eq_true ((Nat.log2_lt z).mpr h2)
  de := by rw [D.py, PyData.depth]; exact Nat.zero_le _
  we := by
    rw [D.wt]
    exact Nat.le_trans (digits_len hk h) hm
theorem itm_bl {n m : Nat} {b : Bool} (h : 5 ≤ m) : D.itm n m (.bl b) := ⟨rfl, by rw [D.py, PyData.showable], by rw [D.py, PyData.depth]; exact Nat.zero_le _, by rw [D.wt]; exact h⟩
theorem itm_non {n m : Nat} (h : 4 ≤ m) : D.itm n m .non := ⟨rfl, by rw [D.py, PyData.showable], by rw [D.py, PyData.depth]; exact Nat.zero_le _, by rw [D.wt]; exact h⟩
theorem itm_str {n m : Nat} {x : Str} (h : (PySem.reprText x).length ≤ m) : D.itm n m (.str x) := ⟨rfl, by rw [D.py, PyData.showable], by rw [D.py, PyData.depth]; exact Nat.zero_le _, by rw [D.wt]; exact h⟩
theorem itms {n m : Nat} : ∀ {xs : List D}, (∀ x ∈ xs, x.itm n m) → D.plains true xs = true ∧ PyData.showableAll (D.pys xs) = true ∧ PyData.depthAll (D.pys xs) ≤ n ∧ D.wts xs ≤ xs.length * (m + 2)
  | [], _ => ⟨rfl, by simp [D.pys, PyData.showableAll], by simp [D.pys, PyData.depthAll], by simp [D.wts]⟩
  | x :: r, h => by
    obtain ⟨a, b, c, d⟩ := h x (List.mem_cons_self)
    obtain ⟨e, f, g, i⟩ := itms fun y hy => h y (List.mem_cons_of_mem x hy)
    refine ⟨by simp [D.plains, a, e], by simp [D.pys, PyData.showableAll, b, f], by simp [D.pys, PyData.depthAll]; omega, ?_⟩
    rw [D.wts, List.length_cons, Nat.succ_mul]
    omega
theorem itm_tup {n m k l : Nat} {xs : List D} (h : ∀ x ∈ xs, x.itm n m) (hl : xs.length ≤ k) (hm : k * (m + 2) + 3 ≤ l) : D.itm (n + 1) l (.tup xs) := by
  obtain ⟨a, b, c, d⟩ := itms h
  refine ⟨by simpa [D.plain] using a, by simpa [D.py, PyData.showable] using b, by simpa [D.py, PyData.depth] using c, ?_⟩
  rw [D.wt]
  have := Nat.mul_le_mul_right (m + 2) hl
  omega
theorem itm_lst {n m k l : Nat} {xs : List D} (h : ∀ x ∈ xs, x.itm n m) (hl : xs.length ≤ k) (hm : k * (m + 2) + 3 ≤ l) : D.itm (n + 1) l (.lst xs) := by
  obtain ⟨a, b, c, d⟩ := itms h
  refine ⟨by simpa [D.plain] using a, by simpa [D.py, PyData.showable] using b, by simpa [D.py, PyData.depth] using c, ?_⟩
  rw [D.wt]
  have := Nat.mul_le_mul_right (m + 2) hl
  omega
theorem itm_dct0 {n m : Nat} (h : 3 ≤ m) : D.itm (n + 1) m (.dct []) := ⟨rfl, by simp [D.py, D.pyKv, PyData.showable, PyData.showableKv], by simp [D.py, D.pyKv, PyData.depth, PyData.depthKv], by rw [D.wt, D.wtKv]; exact h⟩
theorem itm_mono {n m n' m' : Nat} {d : D} (h : d.itm n m) (h1 : n ≤ n') (h2 : m ≤ m') : d.itm n' m' := ⟨h.pl, h.sh, Nat.le_trans h.de h1, Nat.le_trans h.we h2⟩
/-- no dicts -/
def D.noD (d : D) : Prop := d.py.hasDict = false
def D.noL (d : D) : Prop := nolst d.py = true
theorem noD_of {d : D} (h : d.plain false = true) : d.noD := by
  have key : ∀ n : Nat, ∀ d : D, sizeOf d ≤ n → d.plain false = true → d.py.hasDict = false := by
    intro n
    induction n with
    | zero => intro d h; cases d <;> simp at h
    | succ n ih =>
      intro d hs hp
      have go : ∀ xs : List D, sizeOf xs ≤ n → D.plains false xs = true → PyData.hasDictAll (D.pys xs) = false := by
        intro xs
        induction xs with
        | nil => intro _ _; simp [D.pys, PyData.hasDictAll]
        | cons x r ihr =>
          intro hs hp
          rw [D.plains, Bool.and_eq_true] at hp
          simp at hs
          simp [D.pys, PyData.hasDictAll, ih x (by omega) hp.1, ihr (by omega) hp.2]
      cases d with
      | tup xs => simp at hs; rw [D.plain] at hp; rw [D.py, PyData.hasDict]; exact go xs (by omega) hp
      | lst xs => simp at hs; rw [D.plain] at hp; rw [D.py, PyData.hasDict]; exact go xs (by omega) hp
      | dct k => simp [D.plain] at hp
      | pen _ => simp [D.plain] at hp
      | scr _ => simp [D.plain] at hp
      | opq _ => simp [D.plain] at hp
      | _ => simp [D.py, PyData.hasDict]
  exact key _ d (Nat.le_refl _) h
theorem noD_tup {xs : List D} (h : ∀ x ∈ xs, x.noD) : D.noD (.tup xs) := by
  unfold D.noD
  rw [D.py, PyData.hasDict]
  induction xs with
  | nil => simp [D.pys, PyData.hasDictAll]
  | cons x r ih =>
    rw [D.pys, PyData.hasDictAll, ih fun y hy => h y (List.mem_cons_of_mem x hy), show x.py.hasDict = false from h x (List.mem_cons_self)]
    rfl
theorem noD_lst {xs : List D} (h : ∀ x ∈ xs, x.noD) : D.noD (.lst xs) := by
  have t := noD_tup h
  unfold D.noD at t ⊢
  rw [D.py, PyData.hasDict] at t
  rw [D.py, PyData.hasDict]
  exact t
theorem noL_tup {xs : List D} (h : ∀ x ∈ xs, x.noL) : D.noL (.tup xs) := by
  unfold D.noL
  rw [D.py, nolst]
  induction xs with
  | nil => simp [D.pys, nolsts]
  | cons x r ih =>
    rw [D.pys, nolsts, ih fun y hy => h y (List.mem_cons_of_mem x hy), show nolst x.py = true from h x (List.mem_cons_self)]
    rfl
theorem can_show {n m : Nat} {d : D} (h : d.itm n m) (hn : n ≤ 60) (hm : m ≤ 16777216) (hd : d.noD ∨ d.noL) : d.canShow :=
  ⟨h.pl, h.sh, Nat.le_trans h.de hn, by rw [line_eq]; exact Nat.le_trans (shown_wt d) (Nat.le_trans h.we hm), fun z => hd.elim (fun k => by rw [k] at z; cases z) fun k => k⟩
theorem repr_ok {d : D} (h : d.canShow) : D.repr d = pure (.str d.shown) := by
  unfold D.repr
  rw [guard_bind h]
/-- a number within bounds -/
def inI (a b : Int) (d : D) : Prop := ∃ i : Int, d = .int i ∧ a ≤ i ∧ i < b
theorem exists_ints {a b : Int} : ∀ {ys : List D}, (∀ y ∈ ys, inI a b y) → ∃ l : List Int, ys = l.map .int ∧ ∀ x ∈ l, a ≤ x ∧ x < b
  | [], _ => ⟨[], rfl, by simp⟩
  | y :: r, h => by
    obtain ⟨i, rfl, h1, h2⟩ := h y (List.mem_cons_self)
    obtain ⟨l, rfl, hl⟩ := exists_ints fun z hz => h z (List.mem_cons_of_mem _ hz)
    refine ⟨i :: l, rfl, fun x hx => ?_⟩
    rcases List.mem_cons.mp hx with rfl | hx
    · exact ⟨h1, h2⟩
    · exact hl x hx
theorem ix_li {l : List Int} {i : Int} (h0 : 0 ≤ i) (h1 : i < l.length) : D.ix (.lst (l.map .int)) (.int i) = pure (.int (l[i.toNat]'(by omega))) := by
  rw [ix_lst h0 (by rw [List.length_map]; exact h1)]
  simp
theorem ix_ti {l : List Int} {i : Int} (h0 : 0 ≤ i) (h1 : i < l.length) : D.ix (ti l) (.int i) = pure (.int (l[i.toNat]'(by omega))) := by
  unfold ti
  rw [ix_tup h0 (by rw [List.length_map]; exact h1)]
  simp
theorem noD_int (i : Int) : D.noD (.int i) := by unfold D.noD; rw [D.py, PyData.hasDict]
theorem noL_int (i : Int) : D.noL (.int i) := by unfold D.noL; rw [D.py, nolst]
/-- what is put in: one thing that may be a list or a dict -/
def oddOk (d : D) : Prop := d.itm 3 100 ∧ (d.noD ∨ d.noL)
theorem oddOk_int {i : Int} (h : i.natAbs < 10 ^ 50) : oddOk (.int i) := ⟨itm_int (k := 50) (by decide) h (by decide) (by decide), .inl (noD_int i)⟩
theorem show_tup {ys : List D} {o : D} (ho : oddOk o) (h : ∀ x ∈ ys, x = o ∨ inI (-(10 ^ 40)) (10 ^ 40) x) (hl : ys.length ≤ 1000) : D.canShow (.tup ys) := by
  have hi : ∀ x ∈ ys, x.itm 3 100 := fun x hx => by
    rcases h x hx with rfl | ⟨i, rfl, h0, h1⟩
    · exact ho.1
    · exact itm_int (k := 50) (by decide) (by omega) (by decide) (by decide)
  refine can_show (itm_tup hi hl (Nat.le_refl _)) (by decide) (by decide) ?_
  rcases ho.2 with k | k
  · refine .inl (noD_tup fun x hx => ?_)
    rcases h x hx with rfl | ⟨i, rfl, _⟩
    · exact k
    · exact noD_int i
  · refine .inr (noL_tup fun x hx => ?_)
    rcases h x hx with rfl | ⟨i, rfl, _⟩
    · exact k
    · exact noL_int i
theorem show_lst {ys : List D} (h : ∀ x ∈ ys, inI (-(10 ^ 40)) (10 ^ 40) x) (hl : ys.length ≤ 1000) : D.canShow (.lst ys) := by
  have hi : ∀ x ∈ ys, x.itm 3 100 := fun x hx => by
    obtain ⟨i, rfl, h0, h1⟩ := h x hx
    exact itm_int (k := 50) (by decide) (by omega) (by decide) (by decide)
  refine can_show (itm_lst hi hl (Nat.le_refl _)) (by decide) (by decide) (.inl (noD_lst fun x hx => ?_))
  obtain ⟨i, rfl, _⟩ := h x hx
  exact noD_int i
theorem show_odd {o : D} (h : oddOk o) : o.canShow := can_show h.1 (by decide) (by decide) h.2
theorem ix_at {l : List Int} {i : Nat} (h : i < l.length) : D.ix (ti l) (.int i) = pure (.int (l.getD i 0)) := by
  rw [ix_ti (by omega) (by omega)]
  congr 2
  simp [List.getD_eq_getElem?_getD, h]
theorem ix_atl {l : List Int} {i : Nat} (h : i < l.length) : D.ix (.lst (l.map .int)) (.int i) = pure (.int (l.getD i 0)) := by
  rw [ix_li (by omega) (by omega)]
  congr 2
  simp [List.getD_eq_getElem?_getD, h]
theorem intsL_int (l : List Int) : intsL (l.map D.int) = some l := by
  rw [show l.map D.int = l.map fun x => D.int (id x) from rfl, intsL_map]
  simp
theorem enc_nat (n : Nat) : Enc n (fun k : Nat => D.int k) := ⟨fun k => cm_int n k, fun a b => by
  have := (enc_int n).eq a b
  rw [this, Bool.eq_iff_iff, decide_eq_true_iff, decide_eq_true_iff]
  omega⟩
theorem plain_ti (k : Bool) (l : List Int) : (ti l).plain k = true := by
  unfold ti
  rw [D.plain, D.plains_all]
  simp [D.plain]
theorem cutS_ti {l : List Int} {st : Int} (h : 0 < st) (hl : l.length ≤ 1000) : D.cutS (ti l) none none (some st) = pure (ti (stepL l none none st)) := by
  unfold ti
  show (guard _ >>= fun _ => _) = _
  rw [guard_bind, stepL_map]
  refine ⟨by omega, ?_⟩
  rw [line_eq, stepL_map, List.length_map]
  exact Nat.le_trans (stepL_len2 l h) (by omega)
theorem cutI_ti (l : List Int) (lo hi : Option Int) : D.cutI (ti l) lo hi = pure (ti (cutL l lo hi)) := by
  unfold ti
  rw [cutI_tup, cutL_map]
theorem show_ti {l : List Int} (hl : l.length ≤ 1000) (hb : ∀ x ∈ l, -1000000 ≤ x ∧ x ≤ 1000000) : D.canShow (ti l) := show_tup (o := .int 0) (oddOk_int (by decide)) (fun x hx => by
  obtain ⟨i, hi, rfl⟩ := List.mem_map.mp hx
  have := hb i hi
  exact .inr ⟨i, rfl, by omega, by omega⟩) (by rw [List.length_map]; exact hl)
theorem show_bl (b : Bool) : D.canShow (.bl b) := can_show (itm_bl (n := 0) (m := 10) (by decide)) (by decide) (by decide) (.inl (by simp [D.noD, D.py, PyData.hasDict]))
theorem show_non : D.canShow .non := can_show (itm_non (n := 0) (m := 10) (by decide)) (by decide) (by decide) (.inl (by simp [D.noD, D.py, PyData.hasDict]))
theorem rep_ti (k c : Int) : D.tup (rep k [D.int c]) = ti (rep k [c]) := by
  unfold ti rep
  congr 1
  induction k.toNat with
  | zero => rfl
  | succ n ih => simp [List.replicate_succ] at ih ⊢
theorem stepL_pos {α : Type} (xs : List α) (lo hi : Option Int) {st : Int} (h : 0 < st) : (stepL xs lo hi st).length ≤ xs.length := by
  refine Nat.le_trans (List.length_filterMap_le _ _) ?_
  rw [List.length_range]
  have a0 : 0 ≤ (PySem.Builtin.Slice.sliceAdjust lo hi st xs.length).1 := by
    unfold PySem.Builtin.Slice.sliceAdjust
    simp only [show ¬ st < 0 by omega, if_false]
    cases lo with
    | none => exact Int.le_refl 0
    | some v =>
      show 0 ≤ (if v < 0 then max (v + (xs.length : Int)) 0 else min v xs.length)
      split <;> omega
  have a1 : (PySem.Builtin.Slice.sliceAdjust lo hi st xs.length).2 ≤ xs.length := by
    unfold PySem.Builtin.Slice.sliceAdjust
    simp only [show ¬ st < 0 by omega, if_false]
    cases hi with
    | none => exact Int.le_refl _
    | some v =>
      show (if v < 0 then max (v + (xs.length : Int)) 0 else min v xs.length) ≤ _
      split <;> omega
  generalize (PySem.Builtin.Slice.sliceAdjust lo hi st xs.length).1 = x at a0
  generalize (PySem.Builtin.Slice.sliceAdjust lo hi st xs.length).2 = y at a1
  unfold PySem.Builtin.Slice.slicePlaces
  rw [if_pos h]
  by_cases c : x < y
  · rw [if_pos c]
    have : (y - x - 1) / st ≤ y - x - 1 := Int.ediv_le_self _ (by omega)
    omega
  · rw [if_neg c]
    omega
theorem stepL_neg {α : Type} (xs : List α) : (stepL xs none none (-1)).length ≤ xs.length := by
  refine Nat.le_trans (List.length_filterMap_le _ _) ?_
  rw [List.length_range]
  unfold PySem.Builtin.Slice.slicePlaces PySem.Builtin.Slice.sliceAdjust
  simp only [show ((-1 : Int) < 0) from by decide, show ¬ ((-1 : Int) > 0) from by decide, if_true, if_false]
  by_cases c : ((xs.length : Int) - 1 > -1)
  · rw [if_pos c, show (-(-1 : Int)) = 1 from rfl, Int.ediv_one]
    omega
  · rw [if_neg c]
    omega
theorem cutS_any {l : List Int} {lo hi : Option Int} {st : Int} (h0 : st ≠ 0) (h : (stepL l lo hi st).length ≤ l.length) (hl : l.length ≤ 1000) : D.cutS (ti l) lo hi (some st) = pure (ti (stepL l lo hi st)) := by
  unfold ti
  show (guard _ >>= fun _ => _) = _
  rw [guard_bind, stepL_map]
  refine ⟨h0, ?_⟩
  rw [line_eq, stepL_map, List.length_map]
  exact Nat.le_trans h (by omega)
theorem cutSM_pure (d : D) (a b c : Option Int) : cutSM (pure d) (pure a) (pure b) (pure c) = d.cutS a b c := rfl
end Ev

namespace Ev
open PySem (Str)
def XS : List Str := ["NoText"]
def NS : List Str := ["NoStrip", "NoSizes", "NoNumber", "NoPlace", "NoHue", "NoDraft", "NoPaper", "NoFit", "TooGreat", "NoLot", "NoRing", "NoRound", "NoStand", "NoText", "NoDeed", "NoLine"]
def B_L_pen (l_cell : D) : M (Fl Unit Empty) :=
  ((seqL [(pure (l_cell)), (callM (f1 D.toInt) [(bin D.ge (pure (l_cell)) (bin D.pow (pure (.int 10)) (pure (.int 18))))]), (pure (.int 0)), (bin D.mod (pure (l_cell)) (pure (.int 1000000007)))]) >>= fun d => pure (.rt (.lst d)))
def Fl_L_pen : List D → M (Fl Unit Empty)
  | [l_cell] => B_L_pen l_cell
  | _ => fail
def D_L_pen (ds : List D) : M D := endB true (Fl_L_pen ds)
theorem D_L_pen_eq (l_cell : D) : D_L_pen [l_cell] = endB true (B_L_pen l_cell) := rfl

def B_L_cell_at (l_script l_k : D) : M (Fl Unit Empty) :=
  ((asB (bin D.lt (pure (l_k)) (callM (f1 D.len) [(pure (l_script))]))) >>= fun k => if k then leave ((bin D.ix (pure (l_script)) (pure (l_k))) >>= fun d => pure (.rt d)) else ((pure (.int 0)) >>= fun d => pure (.rt d)))
def Fl_L_cell_at : List D → M (Fl Unit Empty)
  | [l_script, l_k] => B_L_cell_at l_script l_k
  | _ => fail
def D_L_cell_at (ds : List D) : M D := endB false (Fl_L_cell_at ds)
theorem D_L_cell_at_eq (l_script l_k : D) : D_L_cell_at [l_script, l_k] = endB false (B_L_cell_at l_script l_k) := rfl

abbrev D_L_draw : List D → M D := drawF true

def B_L_hues_text (l_some : D) : M (Fl Unit Empty) :=
  (((asB (bin D.gt (callM (f1 D.len) [(pure (l_some))]) (pure (.int 0)))) >>= fun k => if k then (joinM (pure (.str "")) ((lcF ((pure (l_some)) >>= itemsX) tg1 (fun l_hue => (pure true)) (fun l_hue => (bin D.ixX (pure (.str ".0123")) (bin D.add (pure (l_hue)) (pure (.int 1)))))) >>= fun ds => pure (.lst ds))) else (pure (.str "none"))) >>= fun d => pure (.rt d))
def Fl_L_hues_text : List D → M (Fl Unit Empty)
  | [l_some] => B_L_hues_text l_some
  | _ => fail
def D_L_hues_text (ds : List D) : M D := endB false (Fl_L_hues_text ds)
theorem D_L_hues_text_eq (l_some : D) : D_L_hues_text [l_some] = endB false (B_L_hues_text l_some) := rfl

def B_L_numbers_text (l_some : D) : M (Fl Unit Empty) :=
  (((asB (bin D.gt (callM (f1 D.len) [(pure (l_some))]) (pure (.int 0)))) >>= fun k => if k then (joinM (pure (.str ",")) ((lcF ((pure (l_some)) >>= itemsX) tg1 (fun l_one => (pure true)) (fun l_one => (callM (f1 D.strI) [(pure (l_one))]))) >>= fun ds => pure (.lst ds))) else (pure (.str "none"))) >>= fun d => pure (.rt d))
def Fl_L_numbers_text : List D → M (Fl Unit Empty)
  | [l_some] => B_L_numbers_text l_some
  | _ => fail
def D_L_numbers_text (ds : List D) : M D := endB false (Fl_L_numbers_text ds)
theorem D_L_numbers_text_eq (l_some : D) : D_L_numbers_text [l_some] = endB false (B_L_numbers_text l_some) := rfl

def B_hues_in (v_text v_signs : D) : M (Fl Unit Empty) :=
  ((notM (asB ((pure (v_text)) >>= isaM .str))) >>= fun k => if k then leave (raise ⟨"NoText", none⟩) else ((asB (bin D.eqA (pure (v_text)) (pure (.str "none")))) >>= fun k => if k then leave ((tupM []) >>= fun d => pure (.rt d)) else ((orM (notM (asB (chainM (pure (.int 1)) (callM (f1 D.len) [(pure (v_text))]) (pure (.int 40)) D.le D.le))) (notM (asB (callM (f1 D.all) [((lcF ((pure (v_text)) >>= itemsX) tg1 (fun v_sign => (pure true)) (fun v_sign => (bin (D.innX false) (pure (v_sign)) (pure (v_signs))))) >>= fun ds => pure (.lst ds))])))) >>= fun k => if k then leave (raise ⟨"NoText", none⟩) else ((callM (f1 D.toTup) [((lcF ((pure (v_text)) >>= itemsX) tg1 (fun v_sign => (pure true)) (fun v_sign => ((asB (bin D.eqA (pure (v_sign)) (pure (.str ".")))) >>= fun k => if k then ((pure (.int 1)) >>= D.neg) else (sidxM (pure (v_signs)) (pure (v_sign)))))) >>= fun ds => pure (.lst ds))]) >>= fun d => pure (.rt d)))))
def Fl_hues_in : List D → M (Fl Unit Empty)
  | [v_text, v_signs] => B_hues_in v_text v_signs
  | _ => fail
def D_hues_in (ds : List D) : M D := endB false (Fl_hues_in ds)
theorem D_hues_in_eq (v_text v_signs : D) : D_hues_in [v_text, v_signs] = endB false (B_hues_in v_text v_signs) := rfl

def B_strip_read (v_text : D) : M (Fl Unit Empty) :=
  ((callM D_hues_in [(pure (v_text)), (cutM (pure (.str "0123.")) (pure none) (partM (pure (.int 4))) D.cutX)]) >>= fun d => pure (.rt d))
def Fl_strip_read : List D → M (Fl Unit Empty)
  | [v_text] => B_strip_read v_text
  | _ => fail
def D_strip_read (ds : List D) : M D := endB false (Fl_strip_read ds)
theorem D_strip_read_eq (v_text : D) : D_strip_read [v_text] = endB false (B_strip_read v_text) := rfl

def B_draft_read (v_text : D) : M (Fl Unit Empty) :=
  ((callM D_hues_in [(pure (v_text)), (pure (.str "0123."))]) >>= fun d => pure (.rt d))
def Fl_draft_read : List D → M (Fl Unit Empty)
  | [v_text] => B_draft_read v_text
  | _ => fail
def D_draft_read (ds : List D) : M D := endB false (Fl_draft_read ds)
theorem D_draft_read_eq (v_text : D) : D_draft_read [v_text] = endB false (B_draft_read v_text) := rfl

def B_number_in (v_word : D) : M (Fl Unit Empty) :=
  ((orM (notM (asB (chainM (pure (.int 1)) (callM (f1 D.len) [(pure (v_word))]) (pure (.int 30)) D.le D.le))) (notM (asB (callM (f1 D.all) [((lcF ((pure (v_word)) >>= itemsX) tg1 (fun v_sign => (pure true)) (fun v_sign => (bin (D.innX false) (pure (v_sign)) (pure (.str "0123456789"))))) >>= fun ds => pure (.lst ds))])))) >>= fun k => if k then leave ((pure .non) >>= fun d => pure (.rt d)) else ((andM (asB (bin D.eqA (bin D.ixX (pure (v_word)) (pure (.int 0))) (pure (.str "0")))) (asB (bin D.gt (callM (f1 D.len) [(pure (v_word))]) (pure (.int 1))))) >>= fun k => if k then leave ((pure .non) >>= fun d => pure (.rt d)) else ((callM (f1 D.toIntX) [(pure (v_word))]) >>= fun d => pure (.rt d))))
def Fl_number_in : List D → M (Fl Unit Empty)
  | [v_word] => B_number_in v_word
  | _ => fail
def D_number_in (ds : List D) : M D := endB false (Fl_number_in ds)
theorem D_number_in_eq (v_word : D) : D_number_in [v_word] = endB false (B_number_in v_word) := rfl

def B_numbers_in (v_text : D) : M (Fl Unit Empty) :=
  ((notM (asB ((pure (v_text)) >>= isaM .str))) >>= fun k => if k then leave (raise ⟨"NoText", none⟩) else ((callM (f1 D.toTup) [((lcF (((splitM (pure (v_text)) (pure (.str ","))) >>= fun ds => pure (.lst ds)) >>= itemsX) tg1 (fun v_word => (pure true)) (fun v_word => (callM D_number_in [(pure (v_word))]))) >>= fun ds => pure (.lst ds))]) >>= fun d => pure (.rt d)))
def Fl_numbers_in : List D → M (Fl Unit Empty)
  | [v_text] => B_numbers_in v_text
  | _ => fail
def D_numbers_in (ds : List D) : M D := endB false (Fl_numbers_in ds)
theorem D_numbers_in_eq (v_text : D) : D_numbers_in [v_text] = endB false (B_numbers_in v_text) := rfl

def B_is_whole (v_thing : D) : M (Fl Unit Empty) :=
  ((andV ((pure (v_thing)) >>= isaM .int) (notV ((pure (v_thing)) >>= isaM .bool))) >>= fun d => pure (.rt d))
def Fl_is_whole : List D → M (Fl Unit Empty)
  | [v_thing] => B_is_whole v_thing
  | _ => fail
def D_is_whole (ds : List D) : M D := endB false (Fl_is_whole ds)
theorem D_is_whole_eq (v_thing : D) : D_is_whole [v_thing] = endB false (B_is_whole v_thing) := rfl

def B_is_between (v_thing v_least v_most : D) : M (Fl Unit Empty) :=
  ((andV (callM D_is_whole [(pure (v_thing))]) (chainM (pure (v_least)) (pure (v_thing)) (pure (v_most)) D.le D.le)) >>= fun d => pure (.rt d))
def Fl_is_between : List D → M (Fl Unit Empty)
  | [v_thing, v_least, v_most] => B_is_between v_thing v_least v_most
  | _ => fail
def D_is_between (ds : List D) : M D := endB false (Fl_is_between ds)
theorem D_is_between_eq (v_thing v_least v_most : D) : D_is_between [v_thing, v_least, v_most] = endB false (B_is_between v_thing v_least v_most) := rfl

def B_are_sizes (v_thing : D) : M (Fl Unit Empty) :=
  ((orM (notM (asB ((pure (v_thing)) >>= isaM .tuple))) (notM (asB (chainM (pure (.int 1)) (callM (f1 D.len) [(pure (v_thing))]) (pure (.int 4)) D.le D.le)))) >>= fun k => if k then leave ((pure (.bl false)) >>= fun d => pure (.rt d)) else ((callM (f1 D.all) [((lcF ((pure (v_thing)) >>= itemsL) tg1 (fun v_size => (pure true)) (fun v_size => (callM D_is_between [(pure (v_size)), (pure (.int 2)), (pure (.int 8))]))) >>= fun ds => pure (.lst ds))]) >>= fun d => pure (.rt d)))
def Fl_are_sizes : List D → M (Fl Unit Empty)
  | [v_thing] => B_are_sizes v_thing
  | _ => fail
def D_are_sizes (ds : List D) : M D := endB false (Fl_are_sizes ds)
theorem D_are_sizes_eq (v_thing : D) : D_are_sizes [v_thing] = endB false (B_are_sizes v_thing) := rfl

def B_sizes_read (v_text : D) : M (Fl Unit Empty) :=
  ((callM D_numbers_in [(pure (v_text))]) >>= fun v_found => ((notM (asB (callM D_are_sizes [(pure (v_found))]))) >>= fun k => if k then leave (raise ⟨"NoText", none⟩) else ((pure (v_found)) >>= fun d => pure (.rt d))))
def Fl_sizes_read : List D → M (Fl Unit Empty)
  | [v_text] => B_sizes_read v_text
  | _ => fail
def D_sizes_read (ds : List D) : M D := endB false (Fl_sizes_read ds)
theorem D_sizes_read_eq (v_text : D) : D_sizes_read [v_text] = endB false (B_sizes_read v_text) := rfl

def B_is_lot (v_thing : D) : M (Fl Unit Empty) :=
  ((orM (notM (asB ((pure (v_thing)) >>= isaM .tuple))) (notM (asB (callM (f1 D.all) [((lcF ((pure (v_thing)) >>= itemsL) tg1 (fun v_one => (pure true)) (fun v_one => (callM D_is_between [(pure (v_one)), (pure (.int 0)), (pure (.int 39))]))) >>= fun ds => pure (.lst ds))])))) >>= fun k => if k then leave ((pure (.bl false)) >>= fun d => pure (.rt d)) else ((callM (f1 D.all) [((lcF (zipT [(pure (v_thing)), (cutM (pure (v_thing)) (partM (pure (.int 1))) (pure none) D.cutI)]) un2 (fun p1 => (pure true)) (fun p1 => (bin D.lt (pure (p1.1)) (pure (p1.2))))) >>= fun ds => pure (.lst ds))]) >>= fun d => pure (.rt d)))
def Fl_is_lot : List D → M (Fl Unit Empty)
  | [v_thing] => B_is_lot v_thing
  | _ => fail
def D_is_lot (ds : List D) : M D := endB false (Fl_is_lot ds)
theorem D_is_lot_eq (v_thing : D) : D_is_lot [v_thing] = endB false (B_is_lot v_thing) := rfl

def B_lot_read (v_text : D) : M (Fl Unit Empty) :=
  ((asB (bin D.eqX (pure (v_text)) (pure (.str "none")))) >>= fun k => if k then leave ((tupM []) >>= fun d => pure (.rt d)) else ((callM D_numbers_in [(pure (v_text))]) >>= fun v_found => ((notM (asB (callM D_is_lot [(pure (v_found))]))) >>= fun k => if k then leave (raise ⟨"NoText", none⟩) else ((pure (v_found)) >>= fun d => pure (.rt d)))))
def Fl_lot_read : List D → M (Fl Unit Empty)
  | [v_text] => B_lot_read v_text
  | _ => fail
def D_lot_read (ds : List D) : M D := endB false (Fl_lot_read ds)
theorem D_lot_read_eq (v_text : D) : D_lot_read [v_text] = endB false (B_lot_read v_text) := rfl

def B_L_numbers (l_text : D) : M (Fl Unit Empty) :=
  ((seqL []) >>= fun l_found => (seqM (forF (((splitM (pure (l_text)) (pure (.str ","))) >>= fun ds => pure (.lst ds)) >>= itemsX) tg1 (l_found) (fun l_word (s1 : List D) => (((lcF ((pure (l_word)) >>= itemsX) tg1 (fun l_sign => (asB (bin (D.innX true) (pure (l_sign)) (pure (.str "0123456789"))))) (fun l_sign => (pure (l_sign)))) >>= fun ds => pure (.lst ds)) >>= fun l_wrong => ((orM (asB (bin D.eqA (pure (l_word)) (pure (.str "")))) (orM (asB (bin D.gt (callM (f1 D.len) [(pure (l_word))]) (pure (.int 30)))) (orM (asB (bin D.neA (pure (l_wrong)) ((seqL []) >>= fun ds => pure (.lst ds)))) (andM (asB (bin D.eqA (bin D.ixX (pure (l_word)) (pure (.int 0))) (pure (.str "0")))) (asB (bin D.neA (pure (l_word)) (pure (.str "0")))))))) >>= fun k => if k then leave ((pure .non) >>= fun d => pure (.rt d)) else (appM (s1) (callM (f1 D.toIntX) [(pure (l_word))]) (fun d2 => (pure (.nx (s1 ++ [d2]))))))))) (fun (s1 : List D) => ((callM (f1 D.toTup) [(pure (.lst (s1)))]) >>= fun d => pure (.rt d)))))
def Fl_L_numbers : List D → M (Fl Unit Empty)
  | [l_text] => B_L_numbers l_text
  | _ => fail
def D_L_numbers (ds : List D) : M D := endB false (Fl_L_numbers ds)
theorem D_L_numbers_eq (l_text : D) : D_L_numbers [l_text] = endB false (B_L_numbers l_text) := rfl

def B_L_due (l_sort l_text : D) : M (Fl Unit Empty) :=
  ((notM (asB ((pure (l_text)) >>= isaM .str))) >>= fun k => if k then leave ((pure (.str "! text")) >>= fun d => pure (.rt d)) else ((andM (asB (bin D.eqA (pure (l_text)) (pure (.str "none")))) (asB (bin D.neA (pure (l_sort)) (pure (.int 2))))) >>= fun k => if k then leave ((tupM []) >>= fun d => pure (.rt d)) else ((asB (bin D.lt (pure (l_sort)) (pure (.int 2)))) >>= fun k => if k then leave (((lcF ((pure (l_text)) >>= itemsX) tg1 (fun l_sign => (asB (bin (D.innX true) (pure (l_sign)) (bin D.ixX ((seqL [(pure (.str "0123")), (pure (.str "0123."))]) >>= fun ds => pure (.lst ds)) (pure (l_sort)))))) (fun l_sign => (pure (l_sign)))) >>= fun ds => pure (.lst ds)) >>= fun l_wrong => ((orM (asB (bin D.eqA (pure (l_text)) (pure (.str "")))) (orM (asB (bin D.gt (callM (f1 D.len) [(pure (l_text))]) (pure (.int 40)))) (asB (bin D.neA (pure (l_wrong)) ((seqL []) >>= fun ds => pure (.lst ds)))))) >>= fun k => if k then leave ((pure (.str "! text")) >>= fun d => pure (.rt d)) else ((callM (f1 D.toTup) [((lcF ((pure (l_text)) >>= itemsX) tg1 (fun l_sign => (pure true)) (fun l_sign => (bin D.sub (sidxM (pure (.str ".0123")) (pure (l_sign))) (pure (.int 1))))) >>= fun ds => pure (.lst ds))]) >>= fun d => pure (.rt d)))) else ((callM D_L_numbers [(pure (l_text))]) >>= fun l_found => ((asB (bin isNF (pure (l_found)) (pure .non))) >>= fun k => if k then leave ((pure (.str "! text")) >>= fun d => pure (.rt d)) else ((asB (bin D.eqA (pure (l_sort)) (pure (.int 2)))) >>= fun k => if k then leave (((andM (asB (bin D.lt (callM (f1 D.len) [(pure (l_found))]) (pure (.int 5)))) (asB (bin D.eqA ((lcF ((pure (l_found)) >>= itemsX) tg1 (fun l_one => (notM (asB (chainM (pure (.int 2)) (pure (l_one)) (pure (.int 8)) D.le D.le)))) (fun l_one => (pure (l_one)))) >>= fun ds => pure (.lst ds)) ((seqL []) >>= fun ds => pure (.lst ds))))) >>= fun k => if k then (pure (l_found)) else (pure (.str "! text"))) >>= fun d => pure (.rt d)) else ((andV (bin D.eqA (callM (f1 D.toLst) [(pure (l_found))]) (((pure (l_found)) >>= sortSetX) >>= fun ds => pure (.lst ds))) (bin D.lt (bin D.ixX (pure (l_found)) ((pure (.int 1)) >>= D.neg)) (pure (.int 40)))) >>= fun l_good => (((asB (pure (l_good))) >>= fun k => if k then (pure (l_found)) else (pure (.str "! text"))) >>= fun d => pure (.rt d)))))))))
def Fl_L_due : List D → M (Fl Unit Empty)
  | [l_sort, l_text] => B_L_due l_sort l_text
  | _ => fail
def D_L_due (ds : List D) : M D := endB false (Fl_L_due ds)
theorem D_L_due_eq (l_sort l_text : D) : D_L_due [l_sort, l_text] = endB false (B_L_due l_sort l_text) := rfl

def B_L_kind (xn : Str) (l_e : D) : M (Fl Unit Empty) :=
  (((seqL [(pure (.bl (decide (xn = "NoStrip")))), (pure (.bl (decide (xn = "NoSizes")))), (pure (.bl (decide (xn = "NoNumber")))), (pure (.bl (decide (xn = "NoPlace"))))]) >>= fun ds => pure (.lst ds)) >>= fun l_marks => ((bin D.add (pure (l_marks)) ((seqL [(pure (.bl (decide (xn = "NoHue")))), (pure (.bl (decide (xn = "NoDraft")))), (pure (.bl (decide (xn = "NoPaper")))), (pure (.bl (decide (xn = "NoFit"))))]) >>= fun ds => pure (.lst ds))) >>= fun l_marks => ((bin D.add (pure (l_marks)) ((seqL [(pure (.bl (decide (xn = "TooGreat")))), (pure (.bl (decide (xn = "NoLot")))), (pure (.bl (decide (xn = "NoRing")))), (pure (.bl (decide (xn = "NoRound"))))]) >>= fun ds => pure (.lst ds))) >>= fun l_marks => ((bin D.add (pure (l_marks)) ((seqL [(pure (.bl (decide (xn = "NoStand")))), (pure (.bl (decide (xn = "NoText")))), (pure (.bl (decide (xn = "NoDeed")))), (pure (.bl (decide (xn = "NoLine"))))]) >>= fun ds => pure (.lst ds))) >>= fun l_marks => ((orM (notM (asB (pure (.bl true)))) (asB (bin D.neA (lstMet cntB (pure (l_marks)) [(pure (.bl true))]) (pure (.int 1))))) >>= fun k => if k then leave ((pure (.str "! other")) >>= fun d => pure (.rt d)) else (((seqL [(pure (.str "strip")), (pure (.str "sizes")), (pure (.str "number")), (pure (.str "place")), (pure (.str "hue")), (pure (.str "draft")), (pure (.str "paper")), (pure (.str "fit")), (pure (.str "great")), (pure (.str "lot")), (pure (.str "ring")), (pure (.str "round"))]) >>= fun ds => pure (.lst ds)) >>= fun l_words => ((bin D.add (pure (.str "! ")) (bin D.ix (bin D.add (pure (l_words)) ((seqL [(pure (.str "stand")), (pure (.str "text")), (pure (.str "deed")), (pure (.str "line"))]) >>= fun ds => pure (.lst ds))) (lstMet idxB (pure (l_marks)) [(pure (.bl true))]))) >>= fun d => pure (.rt d))))))))
def Fl_L_kind (xn : Str) : List D → M (Fl Unit Empty)
  | [l_e] => B_L_kind xn l_e
  | _ => fail
def D_L_kind (xn : Str) (ds : List D) : M D := endB false (Fl_L_kind xn ds)
theorem D_L_kind_eq (xn : Str) (l_e : D) : D_L_kind xn [l_e] = endB false (B_L_kind xn l_e) := rfl


def D_fn1 : Nat → List D → M D
  | 0 => D_strip_read
  | 1 => D_draft_read
  | 2 => D_sizes_read
  | 3 => D_lot_read
  | _ => fun _ => fail
def B_law (l_script : D) : M (Fl Unit Empty) :=
  (seqM (forF (rng1 [(callM (f2 D.max2) [(pure (.int 1)), (callM (f2 D.min2) [(callM (f1 D.len) [(pure (l_script))]), (pure (.int 5))])])]) tg1 () (fun l_k (s1 : Unit) => ((callM D_L_pen [(callM D_L_cell_at [(pure (l_script)), (pure (l_k))])] >>= asL) >>= fun l_pen_here => guard (penOk true l_pen_here) >>= fun _ => ((tupM [(callM D_L_draw [(pure (.pen true)), (pure (.int 4))]), (callM D_L_draw [(pure (.pen true)), (pure (.int 60))])]) >>= fun d => un2 d >>= fun p2 => ((bin D.ixX (pure (.str "0123.,-none 4589+\t\n_")) (callM D_L_draw [(pure (.pen true)), (pure (.int 20))])) >>= fun l_sign => ((bin D.ixX ((seqL [(pure (.int 40)), (pure (.int 41)), (callM D_L_draw [(pure (.pen true)), (pure (.int 10))]), (pure (.int 2))]) >>= fun ds => pure (.lst ds)) (callM D_L_draw [(pure (.pen true)), (pure (.int 4))])) >>= fun l_many => (seqM ((asB (bin D.lt (pure (p2.1)) (pure (.int 2)))) >>= fun k => if k then ((callM D_L_hues_text [((lcF (rng1 [(pure (l_many))]) tg1 (fun l_place => (pure true)) (fun l_place => (bin D.sub (callM D_L_draw [(pure (.pen true)), (bin D.add (pure (.int 4)) (pure (p2.1)))]) (pure (p2.1))))) >>= fun ds => pure (.lst ds))]) >>= fun l_text => (pure (.nx (l_text)))) else (seqM ((asB (bin D.eqA (pure (p2.1)) (pure (.int 2)))) >>= fun k => if k then ((callM D_L_numbers_text [((lcF (rng1 [(bin D.add (pure (.int 1)) (bin D.mod (pure (l_many)) (pure (.int 4))))]) tg1 (fun l_place => (pure true)) (fun l_place => (bin D.add (pure (.int 2)) (callM D_L_draw [(pure (.pen true)), (pure (.int 7))])))) >>= fun ds => pure (.lst ds))]) >>= fun l_text => (pure (.nx (l_text)))) else ((callM D_L_numbers_text [((((lcF (rng1 [(callM (f2 D.min2) [(pure (l_many)), (pure (.int 9))])]) tg1 (fun l_place => (pure true)) (fun l_place => (callM D_L_draw [(pure (.pen true)), (pure (.int 40))]))) >>= fun ds => pure (.lst ds)) >>= sortSetX) >>= fun ds => pure (.lst ds))]) >>= fun l_text => (pure (.nx (l_text))))) (fun (s4 : D) => (pure (.nx (s4)))))) (fun (s3 : D) => ((bin D.mod (pure (p2.2)) (bin D.add (callM (f1 D.len) [(pure (s3))]) (pure (.int 1)))) >>= fun l_at => (((seqL [(pure (s3)), (bin D.add (bin D.add (cutM (pure (s3)) (pure none) (partM (pure (l_at))) D.cutX) (pure (l_sign))) (cutM (pure (s3)) (partM (pure (l_at))) (pure none) D.cutX)), (bin D.add (bin D.add (cutM (pure (s3)) (pure none) (partM (pure (l_at))) D.cutX) (pure (l_sign))) (cutM (pure (s3)) (partM (bin D.add (pure (l_at)) (pure (.int 1)))) (pure none) D.cutX)), (bin D.add (cutM (pure (s3)) (pure none) (partM (pure (l_at))) D.cutX) (cutM (pure (s3)) (partM (bin D.add (pure (l_at)) (pure (.int 1)))) (pure none) D.cutX))]) >>= fun ds => pure (.lst ds)) >>= fun l_texts => ((bin D.add (pure (l_texts)) ((seqL [(bin D.add (pure (s3)) (cutM (pure (s3)) (partM ((pure (.int 1)) >>= D.neg)) (pure none) D.cutX)), (bin D.add (cutM (pure (s3)) (pure none) (partM (pure (.int 20))) D.cutX) (pure (.str ",39"))), (bin D.add (pure (.str "0")) (cutM (pure (s3)) (pure none) (partM (pure (.int 38))) D.cutX)), (bin D.add (cutM (pure (s3)) (pure none) (partM (pure (.int 20))) D.cutX) (pure (.str ","))), (pure (.str "")), (pure (.str "none")), (pure (.str "None")), (pure (.str " "))]) >>= fun ds => pure (.lst ds))) >>= fun l_texts => ((bin D.add (pure (l_texts)) ((seqL [(pure (.str "none ")), (pure (.str "0,none")), (bin D.add (pure (.str "3,")) (bin D.mulX (pure (.str "1")) (pure (.int 31)))), (bin D.add (pure (.str "3,")) (bin D.mulX (pure (.str "1")) (pure (.int 30)))), (pure (.str "39")), (pure (.str "40")), (pure (.str "00")), (pure (.str "01,2")), (pure (.str "2,2")), (pure (.str "2,1"))]) >>= fun ds => pure (.lst ds))) >>= fun l_texts => ((bin D.add (pure (l_texts)) ((seqL [(pure (.str "8,2,8,2")), (pure (.str "2,2,2,2,2")), (pure (.str "3_8")), (pure (.str "1_0")), (pure (.str "9")), (pure (.str ".")), (pure (.str "-1")), (pure (.str "1 2"))]) >>= fun ds => pure (.lst ds))) >>= fun l_texts => (seqM (forF ((bin D.add (pure (l_texts)) ((seqL [(pure .non), (pure (.int 0)), (pure (.bl true)), (tupM []), ((seqL [(pure (.str "0"))]) >>= fun ds => pure (.lst ds)), (pure (.dct []))]) >>= fun ds => pure (.lst ds))) >>= itemsX) tg1 () (fun l_thing (s5 : Unit) => (seqM (forF (enumM ((seqL [(pure (.opq 0)), (pure (.opq 2)), (pure (.opq 4)), (pure (.opq 6))]) >>= fun ds => pure (.lst ds))) un2 () (fun p7 (s6 : Unit) => ((callM (f1 D.repr) [(callM D_L_due [(pure (p7.1)), (pure (l_thing))])]) >>= fun l_due_here => (seqM (forF (rng1 [(pure (.int 2))]) tg1 () (fun l_turn (s8 : Unit) => ((asB (bin D.neA (callM (f1 D.repr) [(gotM XS D_L_kind (callV [0, 1, 2, 3] D_fn1 (p7.2) [(pure (l_thing))]))]) (pure (l_due_here)))) >>= fun k => if k then ((pure (.bl false)) >>= fun d => pure (.rt d)) else (pure (.nx ()))))) (fun (s8 : Unit) => (pure (.nx ()))))))) (fun (s6 : Unit) => (pure (.nx ())))))) (fun (s5 : Unit) => (pure (.nx ()))))))))))))))))) (fun (s1 : Unit) => ((pure (.bl true)) >>= fun d => pure (.rt d))))
def Fl_law : List D → M (Fl Unit Empty)
  | [l_script] => B_law l_script
  | _ => fail
def D_law (ds : List D) : M D := endB false (Fl_law ds)
theorem D_law_eq (l_script : D) : D_law [l_script] = endB false (B_law l_script) := rfl

end Ev

set_option maxHeartbeats 4000000
namespace Ev
open PySem PySem.Spec L2
variable [Tb]
def topS (i : Nat) : Stmt := PySem.Challenge.pw_evenhues_k82_texts_read.main.body.getD i (.Pass ⟨0, 0, 0, 0⟩)
structure Tx (K : PySem.W.Frag) (mg : Str → Option Value) : Prop where
  b_ValueError : mg "ValueError" = none
  b_all : mg "all" = none
  b_bool : mg "bool" = none
  b_enumerate : mg "enumerate" = none
  b_int : mg "int" = none
  b_isinstance : mg "isinstance" = none
  b_len : mg "len" = none
  b_list : mg "list" = none
  b_max : mg "max" = none
  b_min : mg "min" = none
  b_range : mg "range" = none
  b_repr : mg "repr" = none
  b_set : mg "set" = none
  b_sorted : mg "sorted" = none
  b_str : mg "str" = none
  b_tuple : mg "tuple" = none
  b_zip : mg "zip" = none
  c_EMPTY : ∃ t : Tok, mg "EMPTY" = some (.str "none" t)
  c_FIGURES : ∃ t : Tok, mg "FIGURES" = some (.str "0123456789" t)
  c_HUES : ∃ t : Tok, mg "HUES" = some (.int 4 t)
  c_LEAST_SIZE : ∃ t : Tok, mg "LEAST_SIZE" = some (.int 2 t)
  c_MOST_FIGURES : ∃ t : Tok, mg "MOST_FIGURES" = some (.int 30 t)
  c_MOST_PLACE : ∃ t : Tok, mg "MOST_PLACE" = some (.int 39 t)
  c_MOST_PLACES : ∃ t : Tok, mg "MOST_PLACES" = some (.int 40 t)
  c_MOST_SIZE : ∃ t : Tok, mg "MOST_SIZE" = some (.int 8 t)
  c_SIGNS : ∃ t : Tok, mg "SIGNS" = some (.str "0123." t)
  x_NoText : Xc K mg "NoText"
  n_NoStrip : ∃ N : Addr, mg "NoStrip" = some (.ref N)
  n_NoSizes : ∃ N : Addr, mg "NoSizes" = some (.ref N)
  n_NoNumber : ∃ N : Addr, mg "NoNumber" = some (.ref N)
  n_NoPlace : ∃ N : Addr, mg "NoPlace" = some (.ref N)
  n_NoHue : ∃ N : Addr, mg "NoHue" = some (.ref N)
  n_NoDraft : ∃ N : Addr, mg "NoDraft" = some (.ref N)
  n_NoPaper : ∃ N : Addr, mg "NoPaper" = some (.ref N)
  n_NoFit : ∃ N : Addr, mg "NoFit" = some (.ref N)
  n_TooGreat : ∃ N : Addr, mg "TooGreat" = some (.ref N)
  n_NoLot : ∃ N : Addr, mg "NoLot" = some (.ref N)
  n_NoRing : ∃ N : Addr, mg "NoRing" = some (.ref N)
  n_NoRound : ∃ N : Addr, mg "NoRound" = some (.ref N)
  n_NoStand : ∃ N : Addr, mg "NoStand" = some (.ref N)
  n_NoText : ∃ N : Addr, mg "NoText" = some (.ref N)
  n_NoDeed : ∃ N : Addr, mg "NoDeed" = some (.ref N)
  n_NoLine : ∃ N : Addr, mg "NoLine" = some (.ref N)
  n_HueError : ∃ N : Addr, mg "HueError" = some (.ref N)
  f_strip_read : mg "strip_read" = some (.ref (Tb.fa 0))
  f_draft_read : mg "draft_read" = some (.ref (Tb.fa 1))
  f_sizes_read : mg "sizes_read" = some (.ref (Tb.fa 2))
  f_lot_read : mg "lot_read" = some (.ref (Tb.fa 3))
section
variable {P : Program} {w : World} {K : PySem.W.Frag} {mg : Str → Option Value} {base : Heap}
abbrev st_L_pen : Stmt := topS 44
abbrev N_L_pen : List Str := ["_law_cell"]
theorem sc_L_pen : FnScope N_L_pen ["_law_cell"] (defScope st_L_pen) := ⟨rfl, rfl, rfl, by decide +kernel, rfl, by decide +kernel, by decide +kernel⟩
theorem ok_L_pen (T : Tx K mg) (d : Df K mg "_law_pen" st_L_pen ["_law_cell"])  : Cd false P w K mg base "_law_pen" 1 ["_law_cell"] (spD K mg true 1 D_L_pen) := by
  refine cd_of (k := 0) true (F := Fl_L_pen) d sc_L_pen fun f cdv A outer s H E hr hg => ⟨_, (pss_one (ps_ret (pe_lst (pa_cons (pv 0) (pa_cons (pe_callTy call_int1 (by exact rfl) T.b_int bt_int (pa_cons (pe_cmpR op_ge (pv 0) (pe_op op_pow pe_int pe_int) (nomark _)) pa_nil)) (pa_cons pe_int (pa_cons (pe_op op_mod (pv 0) pe_int) pa_nil))))))), fun ds hl => ?_⟩
  match ds, hl with
  | [l_cell], _ =>
    show SS _ _ _ [.val (l_cell)] (enc0 1) _ (B_L_pen l_cell)
    unfold B_L_pen
    exact (ss_reto (so_lst (sa_cons (se_var (k := 0) rfl) (sa_cons (se_cb cs_int (sa_cons (se_op os_ge (se_var (k := 0) rfl) (se_op os_pow se_int se_int)) sa_nil)) (sa_cons se_int (sa_cons (se_op os_mod (se_var (k := 0) rfl) se_int) sa_nil)))) (Nat.le_of_ble_eq_true rfl)))

abbrev st_L_cell_at : Stmt := topS 43
abbrev N_L_cell_at : List Str := ["_law_script", "_law_k"]
theorem sc_L_cell_at : FnScope N_L_cell_at ["_law_script", "_law_k"] (defScope st_L_cell_at) := ⟨rfl, rfl, rfl, by decide +kernel, rfl, by decide +kernel, by decide +kernel⟩
theorem ok_L_cell_at (T : Tx K mg) (d : Df K mg "_law_cell_at" st_L_cell_at ["_law_script", "_law_k"])  : Cd false P w K mg base "_law_cell_at" 1 ["_law_script", "_law_k"] (spD K mg false 2 D_L_cell_at) := by
  refine cd_of (k := 0) false (F := Fl_L_cell_at) d sc_L_cell_at fun f cdv A outer s H E hr hg => ⟨_, (pss_cons (ps_if (pt_cmpR op_lt (pv 1) (pe_callB (call_lenK (K := K) rfl) (by exact rfl) T.b_len bt_len (pa_cons (pv 0) pa_nil)) (nomark _)) (pss_one (ps_ret (pe_ix (ix_anyK (K := K) rfl) (pv 0) (pv 1) (fun _ _ => rfl)))) pss_nil) (pss_one (ps_ret pe_int))), fun ds hl => ?_⟩
  match ds, hl with
  | [l_script, l_k], _ =>
    show SS _ _ _ [.val (l_script), .val (l_k)] (enc0 2) _ (B_L_cell_at l_script l_k)
    unfold B_L_cell_at
    exact (ss_ifl (sb_test (se_op os_lt (se_var (k := 1) rfl) (se_cb cs_len (sa_cons (se_var (k := 0) rfl) sa_nil)))) (ss_ret (se_op os_ix (se_var (k := 0) rfl) (se_var (k := 1) rfl))) (ss_ret se_int))

abbrev st_L_draw : Stmt := topS 45
abbrev N_L_draw : List Str := ["_law_pen_here", "_law_bound", "_law_found", "_law_stir"]
theorem sc_L_draw : FnScope N_L_draw ["_law_pen_here", "_law_bound"] (defScope st_L_draw) := ⟨rfl, rfl, rfl, by decide +kernel, rfl, by decide +kernel, by decide +kernel⟩
theorem ok_L_draw (T : Tx K mg) (d : Df K mg "_law_draw" st_L_draw ["_law_pen_here", "_law_bound"]) : Cd false P w K mg base "_law_draw" 1 ["_law_pen_here", "_law_bound"] (spD K mg false 2 (drawF true)) := by
  obtain ⟨f, fd, Fn, g, b, bb⟩ := d
  refine ⟨f, fd, g, Fn.kp, b, g_fn (N := N_L_draw) Fn sc_L_draw ?_ ?_⟩
  · rintro vs H Q E ⟨W, ds, _, r, l, _⟩
    rw [r.length]
    exact l
  · intro cdv A outer s H vs Q E _ hr hg h
    obtain ⟨W, a, o, many, w, rfl, hN, ha, hp, m0, m1, q⟩ := draw_in h
    obtain ⟨x, y, z, t, rfl, z0, t0, t1⟩ := hp
    refine ⟨_, pss_cons (ps_if (PW.pt (pw_and (pt_cmpR op_eq (pe_ix ix_list (pv 0) pe_int (fun _ _ => rfl)) pe_int (nomark _)) (pw_and1 (pt_cmpR op_gt (pe_ix ix_list (pv 0) pe_int (fun _ _ => rfl)) pe_int (nomark _)))))
        (pss_cons (ps_set (i := 2) sc_L_draw.nd rfl (.inl rfl) (pe_op op_mod (pe_ix ix_list (pv 0) pe_int (fun _ _ => rfl)) (pv 1)))
        (pss_cons (ps_asg (pe_op op_fdiv (pe_ix ix_list (pv 0) pe_int (fun _ _ => rfl)) (pv 1)) (pg_sub (pv 0) pe_int set_list)) (pss_one (ps_ret (pv 2))))) pss_nil)
      (pss_cons (ps_asg (pe_op op_add (pe_ix ix_list (pv 0) pe_int (fun _ _ => rfl)) pe_int) (pg_sub (pv 0) pe_int set_list))
      (pss_cons (ps_set (i := 3) sc_L_draw.nd rfl (.inl rfl) (pe_op op_mod (pe_op op_mul (pe_op op_add (pe_ix ix_list (pv 0) pe_int (fun _ _ => rfl)) pe_int) (pe_op op_add pe_int (pe_op op_mul pe_int (pe_ix ix_list (pv 0) pe_int (fun _ _ => rfl))))) pe_int))
      (pss_cons (ps_set (i := 3) sc_L_draw.nd rfl (.inl rfl) (pe_op op_mod (pe_op op_add (pe_op op_add (pe_op op_mul (pv 3) (pv 3)) (pe_op op_mul pe_int (pe_ix ix_list (pv 0) pe_int (fun _ _ => rfl)))) pe_int) pe_int))
      (pss_one (ps_ret (pe_op op_mod (pe_op op_fdiv (pe_op op_mod (pe_op op_mul (pv 3) pe_int) pe_int) pe_int) (pv 1))))))), ?_⟩
    have hS : SqL K H a [.int x, .int y, .int z, .int t] := .inl (.inl ha)
    have hz0 : 0 ≤ z + 1 := by omega
    have hS2 : SqL K (upd H a (.lst [.int x, .int y, .int (z + 1), .int t])) a [.int x, .int y, .int (z + 1), .int t] := .inl (.inl upd_same)
    have s2 := Step.turn (o := .lst [.int x, .int y, .int (z + 1), .int t]) w hN ⟨_, _, _, _, rfl, hz0, t0, t1⟩
    refine ⟨_, rfl, a, _, 1, _, rfl, rfl, hS, rfl, rfl, _, rfl, ite2 (fun e1 => ⟨_, rfl, a, _, 0, _, rfl, rfl, hS, rfl, _, _, rfl, rfl, _, rfl, ite2 (fun e => ?_) (fun e => ?_)⟩) (fun e1 => ?_)⟩
    · refine ⟨_, rfl, a, _, 0, _, rfl, rfl, hS, rfl, _, rfl, _, _, rfl, rfl, m0, ?_⟩
      refine ⟨_, rfl, a, _, 0, _, rfl, rfl, hS, rfl, _, rfl, _, _, rfl, rfl, ⟨m0, m1⟩, ?_⟩
      refine ⟨_, rfl, a, _, 0, 0, rfl, rfl, ha, rfl, _, rfl, ?_⟩
      exact q _ _ _ (Int.emod_nonneg _ (by omega)) (Int.emod_lt_of_pos _ m0) (Step.turn (o := .lst [.int (x / many), .int y, .int z, .int t]) w hN ⟨_, _, _, _, rfl, z0, t0, t1⟩)
    all_goals
      refine ⟨_, rfl, a, _, 2, _, rfl, rfl, hS, rfl, _, _, rfl, rfl, ?_⟩
      refine ⟨_, rfl, a, _, 2, 2, rfl, rfl, ha, rfl, ?_⟩
      refine ⟨_, rfl, a, _, 3, _, rfl, rfl, hS2, rfl, _, _, rfl, rfl, _, rfl, a, _, 2, _, rfl, rfl, hS2, rfl, _, _, rfl, rfl, .inl ⟨by decide, by decide⟩, _, _, rfl, rfl, _, _, rfl, rfl, .inl ⟨by omega, by omega⟩, _, _, rfl, rfl, (show (0 : Int) < 2147483647 by decide), ?_⟩
      generalize hg1 : (t + 17) * (69621 + 2 * (z + 1)) % 2147483647 = g1
      have g10 : 0 ≤ g1 := by rw [← hg1]; exact Int.emod_nonneg _ (by decide)
      have g11 : g1 < 2147483647 := by rw [← hg1]; exact Int.emod_lt_of_pos _ (by decide)
      refine ⟨_, rfl, _, rfl, _, _, rfl, rfl, .inl ⟨by omega, by omega⟩, _, rfl, a, _, 2, _, rfl, rfl, hS2, rfl, _, _, rfl, rfl, .inl ⟨by decide, by decide⟩, _, _, rfl, rfl, _, _, rfl, rfl, _, _, rfl, rfl, (show (0 : Int) < 2147483629 by decide), ?_⟩
      generalize hg2 : (g1 * g1 + 40503 * (z + 1) + 5) % 2147483629 = g2
      have g20 : 0 ≤ g2 := by rw [← hg2]; exact Int.emod_nonneg _ (by decide)
      have g21 : g2 < 2147483629 := by rw [← hg2]; exact Int.emod_lt_of_pos _ (by decide)
      refine ⟨_, rfl, _, _, rfl, rfl, .inr ⟨by decide, by decide⟩, _, _, rfl, rfl, (show (0 : Int) < 2147483647 by decide), _, _, rfl, rfl, ⟨by decide, by decide⟩, _, rfl, _, _, rfl, rfl, m0, ?_⟩
      exact q _ _ _ (Int.emod_nonneg _ (by omega)) (Int.emod_lt_of_pos _ m0) s2

abbrev st_L_hues_text : Stmt := topS 48
abbrev N_L_hues_text : List Str := ["_law_some", "_law_hue"]
theorem sc_L_hues_text : FnScope N_L_hues_text ["_law_some"] (defScope st_L_hues_text) := ⟨rfl, rfl, rfl, by decide +kernel, rfl, by decide +kernel, by decide +kernel⟩
theorem ok_L_hues_text (T : Tx K mg) (d : Df K mg "_law_hues_text" st_L_hues_text ["_law_some"])  : Cd false P w K mg base "_law_hues_text" 1 ["_law_some"] (spD K mg false 1 D_L_hues_text) := by
  refine cd_of (k := 0) false (F := Fl_L_hues_text) d sc_L_hues_text fun f cdv A outer s H E hr hg => ⟨_, (pss_one (ps_ret (pe_ifExp (pt_cmpR op_gt (pe_callB (call_lenK (K := K) rfl) (by exact rfl) T.b_len bt_len (pa_cons (pv 0) pa_nil)) pe_int (nomark _)) (pe_joinK (K := K) rfl pe_str (pe_lc (own := [("_law_hue", 1)]) rfl sc_L_hues_text.nd (pi_all (K := K) rfl (pv 0)) (blkOk_by (own := [("_law_hue", 1)]) (N := N_L_hues_text) (sc := defScope st_L_hues_text) (by decide +kernel)) (fun _ _ _ _ _ => (pg_name (i := 1) sc_L_hues_text.nd rfl (by first | exact .inl rfl | exact .inr rfl))) (fun _ _ _ _ _ => pts_nil) (fun _ _ _ _ _ => (pe_ix (ix_X (K := K) rfl) pe_str (pe_op (op_addK (K := K) rfl) (pv 1) pe_int) (fun _ _ => rfl))))) pe_str))), fun ds hl => ?_⟩
  match ds, hl with
  | [l_some], _ =>
    show SS _ _ _ [.val (l_some), .no] (enc0 2) _ (B_L_hues_text l_some)
    unfold B_L_hues_text
    exact (ss_ret (se_if (sb_test (se_op os_gt (se_cb cs_len (sa_cons (se_var (k := 0) rfl) sa_nil)) se_int)) (se_join se_str (so_se (so_lc (si_all (se_var (k := 0) rfl)) (sg_name (i := 1)) (by decide) (fun (l_hue : D) => sb_yes) (fun (l_hue : D) => (se_op os_ixX se_str (se_op os_add (se_var (k := 1) rfl) se_int)))))) se_str))

abbrev st_L_numbers_text : Stmt := topS 49
abbrev N_L_numbers_text : List Str := ["_law_some", "_law_one"]
theorem sc_L_numbers_text : FnScope N_L_numbers_text ["_law_some"] (defScope st_L_numbers_text) := ⟨rfl, rfl, rfl, by decide +kernel, rfl, by decide +kernel, by decide +kernel⟩
theorem ok_L_numbers_text (T : Tx K mg) (d : Df K mg "_law_numbers_text" st_L_numbers_text ["_law_some"])  : Cd false P w K mg base "_law_numbers_text" 1 ["_law_some"] (spD K mg false 1 D_L_numbers_text) := by
  refine cd_of (k := 0) false (F := Fl_L_numbers_text) d sc_L_numbers_text fun f cdv A outer s H E hr hg => ⟨_, (pss_one (ps_ret (pe_ifExp (pt_cmpR op_gt (pe_callB (call_lenK (K := K) rfl) (by exact rfl) T.b_len bt_len (pa_cons (pv 0) pa_nil)) pe_int (nomark _)) (pe_joinK (K := K) rfl pe_str (pe_lc (own := [("_law_one", 1)]) rfl sc_L_numbers_text.nd (pi_all (K := K) rfl (pv 0)) (blkOk_by (own := [("_law_one", 1)]) (N := N_L_numbers_text) (sc := defScope st_L_numbers_text) (by decide +kernel)) (fun _ _ _ _ _ => (pg_name (i := 1) sc_L_numbers_text.nd rfl (by first | exact .inl rfl | exact .inr rfl))) (fun _ _ _ _ _ => pts_nil) (fun _ _ _ _ _ => (pe_callTy call_str_int (by exact rfl) T.b_str bt_str (pa_cons (pv 1) pa_nil))))) pe_str))), fun ds hl => ?_⟩
  match ds, hl with
  | [l_some], _ =>
    show SS _ _ _ [.val (l_some), .no] (enc0 2) _ (B_L_numbers_text l_some)
    unfold B_L_numbers_text
    exact (ss_ret (se_if (sb_test (se_op os_gt (se_cb cs_len (sa_cons (se_var (k := 0) rfl) sa_nil)) se_int)) (se_join se_str (so_se (so_lc (si_all (se_var (k := 0) rfl)) (sg_name (i := 1)) (by decide) (fun (l_one : D) => sb_yes) (fun (l_one : D) => (se_cb cs_strI (sa_cons (se_var (k := 1) rfl) sa_nil)))))) se_str))

abbrev st_hues_in : Stmt := topS 35
abbrev N_hues_in : List Str := ["text", "signs", "sign"]
theorem sc_hues_in : FnScope N_hues_in ["text", "signs"] (defScope st_hues_in) := ⟨rfl, rfl, rfl, by decide +kernel, rfl, by decide +kernel, by decide +kernel⟩
theorem ok_hues_in (T : Tx K mg) (d : Df K mg "hues_in" st_hues_in ["text", "signs"])  : Cd false P w K mg base "hues_in" 1 ["text", "signs"] (spD K mg false 2 D_hues_in) := by
  obtain ⟨t_EMPTY, g_EMPTY⟩ := T.c_EMPTY
  obtain ⟨t_MOST_PLACES, g_MOST_PLACES⟩ := T.c_MOST_PLACES
  obtain ⟨C_NoText, xg_NoText, xx_NoText, xk_NoText, xb_NoText, xt_NoText⟩ := T.x_NoText
  refine cd_of (k := 0) false (F := Fl_hues_in) d sc_hues_in fun f cdv A outer s H E hr hg => ⟨_, (pss_cons (ps_if (pt_not (pt_val (pe_callB (call_isiK (K := K) rfl) (by exact rfl) T.b_isinstance bt_isinstance (pa_cons (pv 0) (pa_cons (pe_bltn (v := V.ty "str") (by exact rfl) T.b_str bt_str rfl) pa_nil))))) (pss_one (ps_raise rfl (takes_of (E := E) rfl rfl rfl rfl) (pmk_own PySem.F.excBase_ValueError xx_NoText xg_NoText xk_NoText (raises_own xb_NoText xt_NoText) (by exact rfl)))) pss_nil) (pss_cons (ps_if (pt_cmpR (op_eqK (K := K) rfl hr.units) (pv 0) (pe_glob (v := V.str "none") (by exact rfl) g_EMPTY ⟨_, rfl⟩) (nomark _)) (pss_one (ps_ret (pe_tupB pa_nil))) pss_nil) (pss_cons (ps_if (PW.pt (pw_or (pt_not (pt_chain op_le op_le pe_int (pe_callB (call_lenK (K := K) rfl) (by exact rfl) T.b_len bt_len (pa_cons (pv 0) pa_nil)) (pe_glob (v := V.int 40) (by exact rfl) g_MOST_PLACES ⟨_, rfl⟩))) (pw_or1 (pt_not (pt_val (pe_callB (call_allK (K := K) rfl rfl) (by exact rfl) T.b_all bt_all (pa_cons (pe_lc (own := [("sign", 2)]) rfl sc_hues_in.nd (pi_all (K := K) rfl (pv 0)) (blkOk_by (own := [("sign", 2)]) (N := N_hues_in) (sc := defScope st_hues_in) (by decide +kernel)) (fun _ _ _ _ _ => (pg_name (i := 2) sc_hues_in.nd rfl (by first | exact .inl rfl | exact .inr rfl))) (fun _ _ _ _ _ => pts_nil) (fun _ _ _ _ _ => (pe_cmpR (op_inX (K := K) rfl hr) (pv 2) (pv 1) (by rfl)))) pa_nil))))))) (pss_one (ps_raise rfl (takes_of (E := E) rfl rfl rfl rfl) (pmk_own PySem.F.excBase_ValueError xx_NoText xg_NoText xk_NoText (raises_own xb_NoText xt_NoText) (by exact rfl)))) pss_nil) (pss_one (ps_ret (pe_callTy (call_tupleK (K := K) rfl) (by exact rfl) T.b_tuple bt_tuple (pa_cons (pe_lc (own := [("sign", 2)]) rfl sc_hues_in.nd (pi_all (K := K) rfl (pv 0)) (blkOk_by (own := [("sign", 2)]) (N := N_hues_in) (sc := defScope st_hues_in) (by decide +kernel)) (fun _ _ _ _ _ => (pg_name (i := 2) sc_hues_in.nd rfl (by first | exact .inl rfl | exact .inr rfl))) (fun _ _ _ _ _ => pts_nil) (fun _ _ _ _ _ => (pe_ifExp (pt_cmpR (op_eqK (K := K) rfl hr.units) (pv 2) pe_str (nomark _)) (pe_un un_neg pe_int) (pe_m1 PySem.F.slot_str_index PySem.F.type_str_index mt_sindex (pv 1) (pv 2))))) pa_nil))))))), fun ds hl => ?_⟩
  match ds, hl with
  | [v_text, v_signs], _ =>
    show SS _ _ _ [.val (v_text), .val (v_signs), .no] (enc0 3) _ (B_hues_in v_text v_signs)
    unfold B_hues_in
    exact (ss_ifl (sb_not (sb_val (se_isa .str (se_var (k := 0) rfl)))) (ss_raise (x := "NoText") xg_NoText) (ss_ifl (sb_test (se_op os_eqA (se_var (k := 0) rfl) (se_str (i := "none")))) (ss_ret (se_tup sa_nil (Nat.le_of_ble_eq_true rfl))) (ss_ifl (sb_or (sb_not (sb_test (se_chain os_le os_le se_int (se_cb cs_len (sa_cons (se_var (k := 0) rfl) sa_nil)) (se_int (i := 40))))) (sb_not (sb_val (se_cb cs_all (sa_cons (so_se (so_lc (si_all (se_var (k := 0) rfl)) (sg_name (i := 2)) (by decide) (fun (v_sign : D) => sb_yes) (fun (v_sign : D) => (se_op os_inX (se_var (k := 2) rfl) (se_var (k := 1) rfl))))) sa_nil))))) (ss_raise (x := "NoText") xg_NoText) (ss_ret (se_cb cs_tup (sa_cons (so_se (so_lc (si_all (se_var (k := 0) rfl)) (sg_name (i := 2)) (by decide) (fun (v_sign : D) => sb_yes) (fun (v_sign : D) => (se_if (sb_test (se_op os_eqA (se_var (k := 2) rfl) se_str)) (se_un us_neg se_int) (se_sidx (se_var (k := 1) rfl) (se_var (k := 2) rfl)))))) sa_nil))))))

abbrev st_strip_read : Stmt := topS 36
abbrev N_strip_read : List Str := ["text"]
theorem sc_strip_read : FnScope N_strip_read ["text"] (defScope st_strip_read) := ⟨rfl, rfl, rfl, by decide +kernel, rfl, by decide +kernel, by decide +kernel⟩
theorem ok_strip_read (T : Tx K mg) (d : Df K mg "strip_read" st_strip_read ["text"]) (c_hues_in : Cd false P w K mg base "hues_in" 1 ["text", "signs"] (spD K mg false 2 D_hues_in)) : Cd false P w K mg base "strip_read" 2 ["text"] (spD K mg false 1 D_strip_read) := by
  obtain ⟨t_SIGNS, g_SIGNS⟩ := T.c_SIGNS
  obtain ⟨t_HUES, g_HUES⟩ := T.c_HUES
  refine cd_of (k := 1) false (F := Fl_strip_read) d sc_strip_read fun f cdv A outer s H E hr hg => ⟨_, (pss_one (ps_ret (pe_cd c_hues_in hr (fun z => nomatch z) pass_def (pa_cons (pv 0) (pa_cons (pe_slice (sl_X (K := K) rfl) (pe_glob (v := V.str "0123.") (by exact rfl) g_SIGNS ⟨_, rfl⟩) po_none (po_some (pe_glob (v := V.int 4) (by exact rfl) g_HUES ⟨_, rfl⟩))) pa_nil))))), fun ds hl => ?_⟩
  match ds, hl with
  | [v_text], _ =>
    show SS _ _ _ [.val (v_text)] (enc0 1) _ (B_strip_read v_text)
    unfold B_strip_read
    exact (ss_ret (se_g (sa_cons (se_var (k := 0) rfl) (sa_cons (se_slice ss_cutX (se_str (i := "0123.")) sp_none (sp_some (se_int (i := 4)))) sa_nil)) rfl))

abbrev st_draft_read : Stmt := topS 37
abbrev N_draft_read : List Str := ["text"]
theorem sc_draft_read : FnScope N_draft_read ["text"] (defScope st_draft_read) := ⟨rfl, rfl, rfl, by decide +kernel, rfl, by decide +kernel, by decide +kernel⟩
theorem ok_draft_read (T : Tx K mg) (d : Df K mg "draft_read" st_draft_read ["text"]) (c_hues_in : Cd false P w K mg base "hues_in" 1 ["text", "signs"] (spD K mg false 2 D_hues_in)) : Cd false P w K mg base "draft_read" 2 ["text"] (spD K mg false 1 D_draft_read) := by
  obtain ⟨t_SIGNS, g_SIGNS⟩ := T.c_SIGNS
  refine cd_of (k := 1) false (F := Fl_draft_read) d sc_draft_read fun f cdv A outer s H E hr hg => ⟨_, (pss_one (ps_ret (pe_cd c_hues_in hr (fun z => nomatch z) pass_def (pa_cons (pv 0) (pa_cons (pe_glob (v := V.str "0123.") (by exact rfl) g_SIGNS ⟨_, rfl⟩) pa_nil))))), fun ds hl => ?_⟩
  match ds, hl with
  | [v_text], _ =>
    show SS _ _ _ [.val (v_text)] (enc0 1) _ (B_draft_read v_text)
    unfold B_draft_read
    exact (ss_ret (se_g (sa_cons (se_var (k := 0) rfl) (sa_cons (se_str (i := "0123.")) sa_nil)) rfl))

abbrev st_number_in : Stmt := topS 38
abbrev N_number_in : List Str := ["word", "sign"]
theorem sc_number_in : FnScope N_number_in ["word"] (defScope st_number_in) := ⟨rfl, rfl, rfl, by decide +kernel, rfl, by decide +kernel, by decide +kernel⟩
theorem ok_number_in (T : Tx K mg) (d : Df K mg "number_in" st_number_in ["word"])  : Cd false P w K mg base "number_in" 1 ["word"] (spD K mg false 1 D_number_in) := by
  obtain ⟨t_MOST_FIGURES, g_MOST_FIGURES⟩ := T.c_MOST_FIGURES
  obtain ⟨t_FIGURES, g_FIGURES⟩ := T.c_FIGURES
  refine cd_of (k := 0) false (F := Fl_number_in) d sc_number_in fun f cdv A outer s H E hr hg => ⟨_, (pss_cons (ps_if (PW.pt (pw_or (pt_not (pt_chain op_le op_le pe_int (pe_callB (call_lenK (K := K) rfl) (by exact rfl) T.b_len bt_len (pa_cons (pv 0) pa_nil)) (pe_glob (v := V.int 30) (by exact rfl) g_MOST_FIGURES ⟨_, rfl⟩))) (pw_or1 (pt_not (pt_val (pe_callB (call_allK (K := K) rfl rfl) (by exact rfl) T.b_all bt_all (pa_cons (pe_lc (own := [("sign", 1)]) rfl sc_number_in.nd (pi_all (K := K) rfl (pv 0)) (blkOk_by (own := [("sign", 1)]) (N := N_number_in) (sc := defScope st_number_in) (by decide +kernel)) (fun _ _ _ _ _ => (pg_name (i := 1) sc_number_in.nd rfl (by first | exact .inl rfl | exact .inr rfl))) (fun _ _ _ _ _ => pts_nil) (fun _ _ _ _ _ => (pe_cmpR (op_inX (K := K) rfl hr) (pv 1) (pe_glob (v := V.str "0123456789") (by exact rfl) g_FIGURES ⟨_, rfl⟩) (by rfl)))) pa_nil))))))) (pss_one (ps_ret pe_non)) pss_nil) (pss_cons (ps_if (PW.pt (pw_and (pt_cmpR (op_eqK (K := K) rfl hr.units) (pe_ix (ix_X (K := K) rfl) (pv 0) pe_int (fun _ _ => rfl)) pe_str (nomark _)) (pw_and1 (pt_cmpR op_gt (pe_callB (call_lenK (K := K) rfl) (by exact rfl) T.b_len bt_len (pa_cons (pv 0) pa_nil)) pe_int (nomark _))))) (pss_one (ps_ret pe_non)) pss_nil) (pss_one (ps_ret (pe_callTy call_intX (by exact rfl) T.b_int bt_int (pa_cons (pv 0) pa_nil)))))), fun ds hl => ?_⟩
  match ds, hl with
  | [v_word], _ =>
    show SS _ _ _ [.val (v_word), .no] (enc0 2) _ (B_number_in v_word)
    unfold B_number_in
    exact (ss_ifl (sb_or (sb_not (sb_test (se_chain os_le os_le se_int (se_cb cs_len (sa_cons (se_var (k := 0) rfl) sa_nil)) (se_int (i := 30))))) (sb_not (sb_val (se_cb cs_all (sa_cons (so_se (so_lc (si_all (se_var (k := 0) rfl)) (sg_name (i := 1)) (by decide) (fun (v_sign : D) => sb_yes) (fun (v_sign : D) => (se_op os_inX (se_var (k := 1) rfl) (se_str (i := "0123456789")))))) sa_nil))))) (ss_ret se_non) (ss_ifl (sb_and (sb_test (se_op os_eqA (se_op os_ixX (se_var (k := 0) rfl) se_int) se_str)) (sb_test (se_op os_gt (se_cb cs_len (sa_cons (se_var (k := 0) rfl) sa_nil)) se_int))) (ss_ret se_non) (ss_ret (se_cb cs_intX (sa_cons (se_var (k := 0) rfl) sa_nil)))))

abbrev st_numbers_in : Stmt := topS 39
abbrev N_numbers_in : List Str := ["text", "word"]
theorem sc_numbers_in : FnScope N_numbers_in ["text"] (defScope st_numbers_in) := ⟨rfl, rfl, rfl, by decide +kernel, rfl, by decide +kernel, by decide +kernel⟩
theorem ok_numbers_in (T : Tx K mg) (d : Df K mg "numbers_in" st_numbers_in ["text"]) (c_number_in : Cd false P w K mg base "number_in" 1 ["word"] (spD K mg false 1 D_number_in)) : Cd false P w K mg base "numbers_in" 2 ["text"] (spD K mg false 1 D_numbers_in) := by
  obtain ⟨C_NoText, xg_NoText, xx_NoText, xk_NoText, xb_NoText, xt_NoText⟩ := T.x_NoText
  refine cd_of (k := 1) false (F := Fl_numbers_in) d sc_numbers_in fun f cdv A outer s H E hr hg => ⟨_, (pss_cons (ps_if (pt_not (pt_val (pe_callB (call_isiK (K := K) rfl) (by exact rfl) T.b_isinstance bt_isinstance (pa_cons (pv 0) (pa_cons (pe_bltn (v := V.ty "str") (by exact rfl) T.b_str bt_str rfl) pa_nil))))) (pss_one (ps_raise rfl (takes_of (E := E) rfl rfl rfl rfl) (pmk_own PySem.F.excBase_ValueError xx_NoText xg_NoText xk_NoText (raises_own xb_NoText xt_NoText) (by exact rfl)))) pss_nil) (pss_one (ps_ret (pe_callTy (call_tupleK (K := K) rfl) (by exact rfl) T.b_tuple bt_tuple (pa_cons (pe_lc (own := [("word", 1)]) rfl sc_numbers_in.nd (pi_all (K := K) rfl (pe_split (pv 0) pe_str)) (blkOk_by (own := [("word", 1)]) (N := N_numbers_in) (sc := defScope st_numbers_in) (by decide +kernel)) (fun _ _ _ _ _ => (pg_name (i := 1) sc_numbers_in.nd rfl (by first | exact .inl rfl | exact .inr rfl))) (fun _ _ _ _ _ => pts_nil) (fun _ _ _ _ _ => (pe_cd c_number_in hr (fun z => nomatch z) passL (pa_cons (pv 1) pa_nil)))) pa_nil))))), fun ds hl => ?_⟩
  match ds, hl with
  | [v_text], _ =>
    show SS _ _ _ [.val (v_text), .no] (enc0 2) _ (B_numbers_in v_text)
    unfold B_numbers_in
    exact (ss_ifl (sb_not (sb_val (se_isa .str (se_var (k := 0) rfl)))) (ss_raise (x := "NoText") xg_NoText) (ss_ret (se_cb cs_tup (sa_cons (so_se (so_lc (si_all (so_se (so_split (se_var (k := 0) rfl) se_str))) (sg_name (i := 1)) (by decide) (fun (v_word : D) => sb_yes) (fun (v_word : D) => (se_g (sa_cons (se_var (k := 1) rfl) sa_nil) rfl)))) sa_nil))))

abbrev st_is_whole : Stmt := topS 21
abbrev N_is_whole : List Str := ["thing"]
theorem sc_is_whole : FnScope N_is_whole ["thing"] (defScope st_is_whole) := ⟨rfl, rfl, rfl, by decide +kernel, rfl, by decide +kernel, by decide +kernel⟩
theorem ok_is_whole (T : Tx K mg) (d : Df K mg "is_whole" st_is_whole ["thing"])  : Cd false P w K mg base "is_whole" 1 ["thing"] (spD K mg false 1 D_is_whole) := by
  refine cd_of (k := 0) false (F := Fl_is_whole) d sc_is_whole fun f cdv A outer s H E hr hg => ⟨_, (pss_one (ps_ret (pe_and (pe_callB (call_isiK (K := K) rfl) (by exact rfl) T.b_isinstance bt_isinstance (pa_cons (pv 0) (pa_cons (pe_bltn (v := V.ty "int") (by exact rfl) T.b_int bt_int rfl) pa_nil))) (pe_one (pe_not (pe_callB (call_isiK (K := K) rfl) (by exact rfl) T.b_isinstance bt_isinstance (pa_cons (pv 0) (pa_cons (pe_bltn (v := V.ty "bool") (by exact rfl) T.b_bool bt_bool rfl) pa_nil)))))))), fun ds hl => ?_⟩
  match ds, hl with
  | [v_thing], _ =>
    show SS _ _ _ [.val (v_thing)] (enc0 1) _ (B_is_whole v_thing)
    unfold B_is_whole
    exact (ss_ret (se_and (se_isa .int (se_var (k := 0) rfl)) (se_not (se_isa .bool (se_var (k := 0) rfl)))))

abbrev st_is_between : Stmt := topS 22
abbrev N_is_between : List Str := ["thing", "least", "most"]
theorem sc_is_between : FnScope N_is_between ["thing", "least", "most"] (defScope st_is_between) := ⟨rfl, rfl, rfl, by decide +kernel, rfl, by decide +kernel, by decide +kernel⟩
theorem ok_is_between (T : Tx K mg) (d : Df K mg "is_between" st_is_between ["thing", "least", "most"]) (c_is_whole : Cd false P w K mg base "is_whole" 1 ["thing"] (spD K mg false 1 D_is_whole)) : Cd false P w K mg base "is_between" 2 ["thing", "least", "most"] (spD K mg false 3 D_is_between) := by
  refine cd_of (k := 1) false (F := Fl_is_between) d sc_is_between fun f cdv A outer s H E hr hg => ⟨_, (pss_one (ps_ret (pe_and (pe_cd c_is_whole hr (fun z => nomatch z) pass_def (pa_cons (pv 0) pa_nil)) (pe_one (pe_chain op_le op_le (pv 1) (pv 0) (pv 2)))))), fun ds hl => ?_⟩
  match ds, hl with
  | [v_thing, v_least, v_most], _ =>
    show SS _ _ _ [.val (v_thing), .val (v_least), .val (v_most)] (enc0 3) _ (B_is_between v_thing v_least v_most)
    unfold B_is_between
    exact (ss_ret (se_and (se_g (sa_cons (se_var (k := 0) rfl) sa_nil) rfl) (se_chain os_le os_le (se_var (k := 1) rfl) (se_var (k := 0) rfl) (se_var (k := 2) rfl))))

abbrev st_are_sizes : Stmt := topS 26
abbrev N_are_sizes : List Str := ["thing", "size"]
theorem sc_are_sizes : FnScope N_are_sizes ["thing"] (defScope st_are_sizes) := ⟨rfl, rfl, rfl, by decide +kernel, rfl, by decide +kernel, by decide +kernel⟩
theorem ok_are_sizes (T : Tx K mg) (d : Df K mg "are_sizes" st_are_sizes ["thing"]) (c_is_between : Cd false P w K mg base "is_between" 2 ["thing", "least", "most"] (spD K mg false 3 D_is_between)) : Cd false P w K mg base "are_sizes" 3 ["thing"] (spD K mg false 1 D_are_sizes) := by
  obtain ⟨t_HUES, g_HUES⟩ := T.c_HUES
  obtain ⟨t_LEAST_SIZE, g_LEAST_SIZE⟩ := T.c_LEAST_SIZE
  obtain ⟨t_MOST_SIZE, g_MOST_SIZE⟩ := T.c_MOST_SIZE
  refine cd_of (k := 2) false (F := Fl_are_sizes) d sc_are_sizes fun f cdv A outer s H E hr hg => ⟨_, (pss_cons (ps_if (PW.pt (pw_or (pt_not (pt_val (pe_callB (call_isiK (K := K) rfl) (by exact rfl) T.b_isinstance bt_isinstance (pa_cons (pv 0) (pa_cons (pe_bltn (v := V.ty "tuple") (by exact rfl) T.b_tuple bt_tuple rfl) pa_nil))))) (pw_or1 (pt_not (pt_chain op_le op_le pe_int (pe_callB (call_lenK (K := K) rfl) (by exact rfl) T.b_len bt_len (pa_cons (pv 0) pa_nil)) (pe_glob (v := V.int 4) (by exact rfl) g_HUES ⟨_, rfl⟩)))))) (pss_one (ps_ret pe_bl)) pss_nil) (pss_one (ps_ret (pe_callB (call_allK (K := K) rfl rfl) (by exact rfl) T.b_all bt_all (pa_cons (pe_lc (own := [("size", 1)]) rfl sc_are_sizes.nd (pi_seqK (K := K) rfl (pv 0)) (blkOk_by (own := [("size", 1)]) (N := N_are_sizes) (sc := defScope st_are_sizes) (by decide +kernel)) (fun _ _ _ _ _ => (pg_name (i := 1) sc_are_sizes.nd rfl (by first | exact .inl rfl | exact .inr rfl))) (fun _ _ _ _ _ => pts_nil) (fun _ _ _ _ _ => (pe_cd c_is_between hr (fun z => nomatch z) passL (pa_cons (pv 1) (pa_cons (pe_glob (v := V.int 2) (by exact rfl) g_LEAST_SIZE ⟨_, rfl⟩) (pa_cons (pe_glob (v := V.int 8) (by exact rfl) g_MOST_SIZE ⟨_, rfl⟩) pa_nil)))))) pa_nil))))), fun ds hl => ?_⟩
  match ds, hl with
  | [v_thing], _ =>
    show SS _ _ _ [.val (v_thing), .no] (enc0 2) _ (B_are_sizes v_thing)
    unfold B_are_sizes
    exact (ss_ifl (sb_or (sb_not (sb_val (se_isa .tuple (se_var (k := 0) rfl)))) (sb_not (sb_test (se_chain os_le os_le se_int (se_cb cs_len (sa_cons (se_var (k := 0) rfl) sa_nil)) (se_int (i := 4)))))) (ss_ret se_bl) (ss_ret (se_cb cs_all (sa_cons (so_se (so_lc (si_seq (se_var (k := 0) rfl)) (sg_name (i := 1)) (by decide) (fun (v_size : D) => sb_yes) (fun (v_size : D) => (se_g (sa_cons (se_var (k := 1) rfl) (sa_cons (se_int (i := 2)) (sa_cons (se_int (i := 8)) sa_nil))) rfl)))) sa_nil))))

abbrev st_sizes_read : Stmt := topS 40
abbrev N_sizes_read : List Str := ["text", "found"]
theorem sc_sizes_read : FnScope N_sizes_read ["text"] (defScope st_sizes_read) := ⟨rfl, rfl, rfl, by decide +kernel, rfl, by decide +kernel, by decide +kernel⟩
theorem ok_sizes_read (T : Tx K mg) (d : Df K mg "sizes_read" st_sizes_read ["text"]) (c_numbers_in : Cd false P w K mg base "numbers_in" 2 ["text"] (spD K mg false 1 D_numbers_in)) (c_are_sizes : Cd false P w K mg base "are_sizes" 3 ["thing"] (spD K mg false 1 D_are_sizes)) : Cd false P w K mg base "sizes_read" 4 ["text"] (spD K mg false 1 D_sizes_read) := by
  obtain ⟨C_NoText, xg_NoText, xx_NoText, xk_NoText, xb_NoText, xt_NoText⟩ := T.x_NoText
  refine cd_of (k := 3) false (F := Fl_sizes_read) d sc_sizes_read fun f cdv A outer s H E hr hg => ⟨_, (pss_cons (ps_set (i := 1) sc_sizes_read.nd rfl (by first | exact .inl rfl | exact .inr rfl) (pe_cd c_numbers_in hr (fun z => nomatch z) pass_def (pa_cons (pv 0) pa_nil))) (pss_cons (ps_if (pt_not (pt_val (pe_cd c_are_sizes hr (fun z => nomatch z) pass_def (pa_cons (pv 1) pa_nil)))) (pss_one (ps_raise rfl (takes_of (E := E) rfl rfl rfl rfl) (pmk_own PySem.F.excBase_ValueError xx_NoText xg_NoText xk_NoText (raises_own xb_NoText xt_NoText) (by exact rfl)))) pss_nil) (pss_one (ps_ret (pv 1))))), fun ds hl => ?_⟩
  match ds, hl with
  | [v_text], _ =>
    show SS _ _ _ [.val (v_text), .no] (enc0 2) _ (B_sizes_read v_text)
    unfold B_sizes_read
    exact (ss_set (se_g (sa_cons (se_var (k := 0) rfl) sa_nil) rfl) (fun v_found => (ss_ifl (sb_not (sb_val (se_g (sa_cons (se_var (k := 1) rfl) sa_nil) rfl))) (ss_raise (x := "NoText") xg_NoText) (ss_ret (se_var (k := 1) rfl)))))

abbrev st_is_lot : Stmt := topS 29
abbrev N_is_lot : List Str := ["thing", "one", "other"]
theorem sc_is_lot : FnScope N_is_lot ["thing"] (defScope st_is_lot) := ⟨rfl, rfl, rfl, by decide +kernel, rfl, by decide +kernel, by decide +kernel⟩
theorem ok_is_lot (T : Tx K mg) (d : Df K mg "is_lot" st_is_lot ["thing"]) (c_is_between : Cd false P w K mg base "is_between" 2 ["thing", "least", "most"] (spD K mg false 3 D_is_between)) : Cd false P w K mg base "is_lot" 3 ["thing"] (spD K mg false 1 D_is_lot) := by
  obtain ⟨t_MOST_PLACE, g_MOST_PLACE⟩ := T.c_MOST_PLACE
  refine cd_of (k := 2) false (F := Fl_is_lot) d sc_is_lot fun f cdv A outer s H E hr hg => ⟨_, (pss_cons (ps_if (PW.pt (pw_or (pt_not (pt_val (pe_callB (call_isiK (K := K) rfl) (by exact rfl) T.b_isinstance bt_isinstance (pa_cons (pv 0) (pa_cons (pe_bltn (v := V.ty "tuple") (by exact rfl) T.b_tuple bt_tuple rfl) pa_nil))))) (pw_or1 (pt_not (pt_val (pe_callB (call_allK (K := K) rfl rfl) (by exact rfl) T.b_all bt_all (pa_cons (pe_lc (own := [("one", 1)]) rfl sc_is_lot.nd (pi_seqK (K := K) rfl (pv 0)) (blkOk_by (own := [("one", 1)]) (N := N_is_lot) (sc := defScope st_is_lot) (by decide +kernel)) (fun _ _ _ _ _ => (pg_name (i := 1) sc_is_lot.nd rfl (by first | exact .inl rfl | exact .inr rfl))) (fun _ _ _ _ _ => pts_nil) (fun _ _ _ _ _ => (pe_cd c_is_between hr (fun z => nomatch z) passL (pa_cons (pv 1) (pa_cons pe_int (pa_cons (pe_glob (v := V.int 39) (by exact rfl) g_MOST_PLACE ⟨_, rfl⟩) pa_nil)))))) pa_nil))))))) (pss_one (ps_ret pe_bl)) pss_nil) (pss_one (ps_ret (pe_callB (call_allK (K := K) rfl rfl) (by exact rfl) T.b_all bt_all (pa_cons (pe_lc (own := [("one", 1), ("other", 2)]) rfl sc_is_lot.nd (pi_zipB (K := K) rfl (by exact rfl) T.b_zip (pa_cons (pv 0) (pa_cons (pe_slice (sl_anyK (K := K) rfl) (pv 0) (po_some pe_int) po_none) pa_nil))) (blkOk_by (own := [("one", 1), ("other", 2)]) (N := N_is_lot) (sc := defScope st_is_lot) (by decide +kernel)) (fun _ _ _ _ _ => (pg_tupK (n := 2) (K := K) rfl rfl (pgs_cons (pg_name (i := 1) sc_is_lot.nd rfl (by first | exact .inl rfl | exact .inr rfl)) (pgs_cons (pg_name (i := 2) sc_is_lot.nd rfl (by first | exact .inl rfl | exact .inr rfl)) pgs_nil)))) (fun _ _ _ _ _ => pts_nil) (fun _ _ _ _ _ => (pe_cmpR op_lt (pv 1) (pv 2) (nomark _)))) pa_nil))))), fun ds hl => ?_⟩
  match ds, hl with
  | [v_thing], _ =>
    show SS _ _ _ [.val (v_thing), .no, .no] (enc0 3) _ (B_is_lot v_thing)
    unfold B_is_lot
    exact (ss_ifl (sb_or (sb_not (sb_val (se_isa .tuple (se_var (k := 0) rfl)))) (sb_not (sb_val (se_cb cs_all (sa_cons (so_se (so_lc (si_seq (se_var (k := 0) rfl)) (sg_name (i := 1)) (by decide) (fun (v_one : D) => sb_yes) (fun (v_one : D) => (se_g (sa_cons (se_var (k := 1) rfl) (sa_cons se_int (sa_cons (se_int (i := 39)) sa_nil))) rfl)))) sa_nil))))) (ss_ret se_bl) (ss_ret (se_cb cs_all (sa_cons (so_se (so_lc (si_zipB (sa_cons (se_var (k := 0) rfl) (sa_cons (se_slice ss_cut (se_var (k := 0) rfl) (sp_some se_int) sp_none) sa_nil))) (sg_two (i := 1) (j := 2)) (by decide) (fun (p1 : D × D) => sb_yes) (fun (p1 : D × D) => (se_op os_lt (se_var (k := 1) rfl) (se_var (k := 2) rfl))))) sa_nil))))

abbrev st_lot_read : Stmt := topS 41
abbrev N_lot_read : List Str := ["text", "found"]
theorem sc_lot_read : FnScope N_lot_read ["text"] (defScope st_lot_read) := ⟨rfl, rfl, rfl, by decide +kernel, rfl, by decide +kernel, by decide +kernel⟩
theorem ok_lot_read (T : Tx K mg) (d : Df K mg "lot_read" st_lot_read ["text"]) (c_numbers_in : Cd false P w K mg base "numbers_in" 2 ["text"] (spD K mg false 1 D_numbers_in)) (c_is_lot : Cd false P w K mg base "is_lot" 3 ["thing"] (spD K mg false 1 D_is_lot)) : Cd false P w K mg base "lot_read" 4 ["text"] (spD K mg false 1 D_lot_read) := by
  obtain ⟨t_EMPTY, g_EMPTY⟩ := T.c_EMPTY
  obtain ⟨C_NoText, xg_NoText, xx_NoText, xk_NoText, xb_NoText, xt_NoText⟩ := T.x_NoText
  refine cd_of (k := 3) false (F := Fl_lot_read) d sc_lot_read fun f cdv A outer s H E hr hg => ⟨_, (pss_cons (ps_if (pt_cmpR (op_eqX (K := K) rfl hr.units) (pv 0) (pe_glob (v := V.str "none") (by exact rfl) g_EMPTY ⟨_, rfl⟩) (nomark _)) (pss_one (ps_ret (pe_tupB pa_nil))) pss_nil) (pss_cons (ps_set (i := 1) sc_lot_read.nd rfl (by first | exact .inl rfl | exact .inr rfl) (pe_cd c_numbers_in hr (fun z => nomatch z) pass_def (pa_cons (pv 0) pa_nil))) (pss_cons (ps_if (pt_not (pt_val (pe_cd c_is_lot hr (fun z => nomatch z) pass_def (pa_cons (pv 1) pa_nil)))) (pss_one (ps_raise rfl (takes_of (E := E) rfl rfl rfl rfl) (pmk_own PySem.F.excBase_ValueError xx_NoText xg_NoText xk_NoText (raises_own xb_NoText xt_NoText) (by exact rfl)))) pss_nil) (pss_one (ps_ret (pv 1)))))), fun ds hl => ?_⟩
  match ds, hl with
  | [v_text], _ =>
    show SS _ _ _ [.val (v_text), .no] (enc0 2) _ (B_lot_read v_text)
    unfold B_lot_read
    exact (ss_ifl (sb_test (se_op os_eqX (se_var (k := 0) rfl) (se_str (i := "none")))) (ss_ret (se_tup sa_nil (Nat.le_of_ble_eq_true rfl))) (ss_set (se_g (sa_cons (se_var (k := 0) rfl) sa_nil) rfl) (fun v_found => (ss_ifl (sb_not (sb_val (se_g (sa_cons (se_var (k := 1) rfl) sa_nil) rfl))) (ss_raise (x := "NoText") xg_NoText) (ss_ret (se_var (k := 1) rfl))))))

abbrev st_L_numbers : Stmt := topS 50
abbrev N_L_numbers : List Str := ["_law_text", "_law_found", "_law_word", "_law_wrong", "_law_sign"]
theorem sc_L_numbers : FnScope N_L_numbers ["_law_text"] (defScope st_L_numbers) := ⟨rfl, rfl, rfl, by decide +kernel, rfl, by decide +kernel, by decide +kernel⟩
theorem ok_L_numbers (T : Tx K mg) (d : Df K mg "_law_numbers" st_L_numbers ["_law_text"])  : Cd false P w K mg base "_law_numbers" 1 ["_law_text"] (spD K mg false 1 D_L_numbers) := by
  refine cd_of (k := 0) false (F := Fl_L_numbers) d sc_L_numbers fun f cdv A outer s H E hr hg => ⟨_, (pss_cons (ps_set (i := 1) sc_L_numbers.nd rfl (by first | exact .inl rfl | exact .inr rfl) (pe_lst pa_nil)) (pss_cons (ps_for (passes_of rfl) rfl (pi_all (K := K) rfl (pe_split (pv 0) pe_str)) (pg_name (i := 2) sc_L_numbers.nd rfl (by first | exact .inl rfl | exact .inr rfl)) (pss_cons (ps_setLc (i := 3) (own := [("_law_sign", 4)]) rfl sc_L_numbers.nd rfl rfl (sw_true rfl rfl rfl (by decide +kernel)) (pi_all (K := K) rfl (pv 2)) (blkOk_by (own := [("_law_sign", 4)]) (N := N_L_numbers) (sc := defScope st_L_numbers) (by decide +kernel)) (fun _ _ _ _ _ => (pg_name (i := 4) sc_L_numbers.nd rfl (by first | exact .inl rfl | exact .inr rfl))) (fun _ _ _ _ _ => (pts_one (pt_cmpR (op_notinX (K := K) rfl hr) (pv 4) pe_str (by rfl)))) (fun _ _ _ _ _ => (pv 4))) (pss_cons (ps_if (PW.pt (pw_or (pt_cmpR (op_eqK (K := K) rfl hr.units) (pv 2) pe_str (nomark _)) (pw_or (pt_cmpR op_gt (pe_callB (call_lenK (K := K) rfl) (by exact rfl) T.b_len bt_len (pa_cons (pv 2) pa_nil)) pe_int (nomark _)) (pw_or (pt_cmpR (op_neK (K := K) rfl hr.units) (pv 3) (pe_lst pa_nil) (nomark _)) (pw_or1 (PW.pt (pw_and (pt_cmpR (op_eqK (K := K) rfl hr.units) (pe_ix (ix_X (K := K) rfl) (pv 2) pe_int (fun _ _ => rfl)) pe_str (nomark _)) (pw_and1 (pt_cmpR (op_neK (K := K) rfl hr.units) (pv 2) pe_str (nomark _)))))))))) (pss_one (ps_ret pe_non)) pss_nil) (pss_cons (ps_expr (pe_bm PySem.F.plainAttrs_list PySem.F.slot_list_append PySem.F.type_list_append mt_append (pv 1) (pa_cons (pe_callTy call_intX (by exact rfl) T.b_int bt_int (pa_cons (pv 2) pa_nil)) pa_nil))) pss_nil)))) (pss_one (ps_ret (pe_callTy (call_tupleK (K := K) rfl) (by exact rfl) T.b_tuple bt_tuple (pa_cons (pv 1) pa_nil)))))), fun ds hl => ?_⟩
  match ds, hl with
  | [l_text], _ =>
    show SS _ _ _ [.val (l_text), .no, .no, .no, .no] (enc0 5) _ (B_L_numbers l_text)
    unfold B_L_numbers
    exact (ss_seto (so_lst sa_nil (Nat.le_of_ble_eq_true rfl)) (fun l_found => (ss_seq (enc := fun (s1 : List D) => [.no, .own (s1), .no, .no, .no]) (ss_for (enc := fun (s1 : List D) => [.no, .own (s1), .no, .no, .no]) (s0 := (l_found)) (si_all (so_se (so_split (se_var (k := 0) rfl) se_str))) (.no (.same (.no (.no (.no .nil))))) (fun s1 => (sg_name (i := 2))) (fun s1 l_word => (ss_set (so_se (so_lc (si_all (se_var (k := 2) rfl)) (sg_name (i := 4)) (by decide) (fun (l_sign : D) => (sb_test (se_op os_notinX (se_var (k := 4) rfl) se_str))) (fun (l_sign : D) => (se_var (k := 4) rfl)))) (fun l_wrong => (ss_ifl (sb_or (sb_test (se_op os_eqA (se_var (k := 2) rfl) se_str)) (sb_or (sb_test (se_op os_gt (se_cb cs_len (sa_cons (se_var (k := 2) rfl) sa_nil)) se_int)) (sb_or (sb_test (se_op os_neA (se_var (k := 3) rfl) (so_se (so_lst sa_nil (Nat.le_of_ble_eq_true rfl))))) (sb_and (sb_test (se_op os_eqA (se_op os_ixX (se_var (k := 2) rfl) se_int) se_str)) (sb_test (se_op os_neA (se_var (k := 2) rfl) se_str)))))) (ss_ret se_non) (ss_app (i := 1) rfl (se_cb cs_intX (sa_cons (se_var (k := 2) rfl) sa_nil)) (fun d2 => (ss_next (.no (.same (.no (.no (.no .nil))))))))))))) (fun s1 => (ss_freeze (i := 1) rfl (ss_ret (se_cb cs_tup (sa_cons (se_var (k := 1) rfl) sa_nil))))))))

abbrev st_L_due : Stmt := topS 51
abbrev N_L_due : List Str := ["_law_sort", "_law_text", "_law_wrong", "_law_found", "_law_good", "_law_sign", "_law_one"]
theorem sc_L_due : FnScope N_L_due ["_law_sort", "_law_text"] (defScope st_L_due) := ⟨rfl, rfl, rfl, by decide +kernel, rfl, by decide +kernel, by decide +kernel⟩
theorem ok_L_due (T : Tx K mg) (d : Df K mg "_law_due" st_L_due ["_law_sort", "_law_text"]) (c_L_numbers : Cd false P w K mg base "_law_numbers" 1 ["_law_text"] (spD K mg false 1 D_L_numbers)) : Cd false P w K mg base "_law_due" 2 ["_law_sort", "_law_text"] (spD K mg false 2 D_L_due) := by
  refine cd_of (k := 1) false (F := Fl_L_due) d sc_L_due fun f cdv A outer s H E hr hg => ⟨_, (pss_cons (ps_if (pt_not (pt_val (pe_callB (call_isiK (K := K) rfl) (by exact rfl) T.b_isinstance bt_isinstance (pa_cons (pv 1) (pa_cons (pe_bltn (v := V.ty "str") (by exact rfl) T.b_str bt_str rfl) pa_nil))))) (pss_one (ps_ret pe_str)) pss_nil) (pss_cons (ps_if (PW.pt (pw_and (pt_cmpR (op_eqK (K := K) rfl hr.units) (pv 1) pe_str (nomark _)) (pw_and1 (pt_cmpR (op_neK (K := K) rfl hr.units) (pv 0) pe_int (nomark _))))) (pss_one (ps_ret (pe_tupB pa_nil))) pss_nil) (pss_cons (ps_if (pt_cmpR op_lt (pv 0) pe_int (nomark _)) (pss_cons (ps_setLc (i := 2) (own := [("_law_sign", 5)]) rfl sc_L_due.nd rfl rfl (sw_true rfl rfl rfl (by decide +kernel)) (pi_all (K := K) rfl (pv 1)) (blkOk_by (own := [("_law_sign", 5)]) (N := N_L_due) (sc := defScope st_L_due) (by decide +kernel)) (fun _ _ _ _ _ => (pg_name (i := 5) sc_L_due.nd rfl (by first | exact .inl rfl | exact .inr rfl))) (fun _ _ _ _ _ => (pts_one (pt_cmpR (op_notinX (K := K) rfl hr) (pv 5) (pe_ix (ix_X (K := K) rfl) (pe_lst (pa_cons pe_str (pa_cons pe_str pa_nil))) (pv 0) (fun _ _ => rfl)) (by rfl)))) (fun _ _ _ _ _ => (pv 5))) (pss_cons (ps_if (PW.pt (pw_or (pt_cmpR (op_eqK (K := K) rfl hr.units) (pv 1) pe_str (nomark _)) (pw_or (pt_cmpR op_gt (pe_callB (call_lenK (K := K) rfl) (by exact rfl) T.b_len bt_len (pa_cons (pv 1) pa_nil)) pe_int (nomark _)) (pw_or1 (pt_cmpR (op_neK (K := K) rfl hr.units) (pv 2) (pe_lst pa_nil) (nomark _)))))) (pss_one (ps_ret pe_str)) pss_nil) (pss_one (ps_ret (pe_callTy (call_tupleK (K := K) rfl) (by exact rfl) T.b_tuple bt_tuple (pa_cons (pe_lc (own := [("_law_sign", 5)]) rfl sc_L_due.nd (pi_all (K := K) rfl (pv 1)) (blkOk_by (own := [("_law_sign", 5)]) (N := N_L_due) (sc := defScope st_L_due) (by decide +kernel)) (fun _ _ _ _ _ => (pg_name (i := 5) sc_L_due.nd rfl (by first | exact .inl rfl | exact .inr rfl))) (fun _ _ _ _ _ => pts_nil) (fun _ _ _ _ _ => (pe_op op_sub (pe_m1 PySem.F.slot_str_index PySem.F.type_str_index mt_sindex pe_str (pv 5)) pe_int))) pa_nil)))))) pss_nil) (pss_cons (ps_set (i := 3) sc_L_due.nd rfl (by first | exact .inl rfl | exact .inr rfl) (pe_cd c_L_numbers hr (fun z => nomatch z) pass_def (pa_cons (pv 1) pa_nil))) (pss_cons (ps_if (pt_cmpR op_isN (pv 3) pe_non (nomark _)) (pss_one (ps_ret pe_str)) pss_nil) (pss_cons (ps_if (pt_cmpR (op_eqK (K := K) rfl hr.units) (pv 0) pe_int (nomark _)) (pss_one (ps_ret (pe_ifExp (PW.pt (pw_and (pt_cmpR op_lt (pe_callB (call_lenK (K := K) rfl) (by exact rfl) T.b_len bt_len (pa_cons (pv 3) pa_nil)) pe_int (nomark _)) (pw_and1 (pt_cmpR (op_eqK (K := K) rfl hr.units) (pe_lc (own := [("_law_one", 6)]) rfl sc_L_due.nd (pi_all (K := K) rfl (pv 3)) (blkOk_by (own := [("_law_one", 6)]) (N := N_L_due) (sc := defScope st_L_due) (by decide +kernel)) (fun _ _ _ _ _ => (pg_name (i := 6) sc_L_due.nd rfl (by first | exact .inl rfl | exact .inr rfl))) (fun _ _ _ _ _ => (pts_one (pt_not (pt_chain op_le op_le pe_int (pv 6) pe_int)))) (fun _ _ _ _ _ => (pv 6))) (pe_lst pa_nil) (nomark _))))) (pv 3) pe_str))) pss_nil) (pss_cons (ps_set (i := 4) sc_L_due.nd rfl (by first | exact .inl rfl | exact .inr rfl) (pe_and (pe_cmpR (op_eqK (K := K) rfl hr.units) (pe_callTy (call_listK (K := K) rfl) (by exact rfl) T.b_list bt_list (pa_cons (pv 3) pa_nil)) (pe_callB (cr_sortedSet (X := _) rfl) (by exact rfl) T.b_sorted bt_sorted (pa_cons (pe_callTy (call_setX (K := K) rfl rfl rfl) (by exact rfl) T.b_set bt_set (pa_cons (pv 3) pa_nil)) pa_nil)) (nomark _)) (pe_one (pe_cmpR op_lt (pe_ix (ix_X (K := K) rfl) (pv 3) (pe_un un_neg pe_int) (fun _ _ => rfl)) pe_int (nomark _))))) (pss_one (ps_ret (pe_ifExp (pt_val (pv 4)) (pv 3) pe_str)))))))))), fun ds hl => ?_⟩
  match ds, hl with
  | [l_sort, l_text], _ =>
    show SS _ _ _ [.val (l_sort), .val (l_text), .no, .no, .no, .no, .no] (enc0 7) _ (B_L_due l_sort l_text)
    unfold B_L_due
    exact (ss_ifl (sb_not (sb_val (se_isa .str (se_var (k := 1) rfl)))) (ss_ret se_str) (ss_ifl (sb_and (sb_test (se_op os_eqA (se_var (k := 1) rfl) se_str)) (sb_test (se_op os_neA (se_var (k := 0) rfl) se_int))) (ss_ret (se_tup sa_nil (Nat.le_of_ble_eq_true rfl))) (ss_ifl (sb_test (se_op os_lt (se_var (k := 0) rfl) se_int)) (ss_set (so_se (so_lc (si_all (se_var (k := 1) rfl)) (sg_name (i := 5)) (by decide) (fun (l_sign : D) => (sb_test (se_op os_notinX (se_var (k := 5) rfl) (se_op os_ixX (so_se (so_lst (sa_cons se_str (sa_cons se_str sa_nil)) (Nat.le_of_ble_eq_true rfl))) (se_var (k := 0) rfl))))) (fun (l_sign : D) => (se_var (k := 5) rfl)))) (fun l_wrong => (ss_ifl (sb_or (sb_test (se_op os_eqA (se_var (k := 1) rfl) se_str)) (sb_or (sb_test (se_op os_gt (se_cb cs_len (sa_cons (se_var (k := 1) rfl) sa_nil)) se_int)) (sb_test (se_op os_neA (se_var (k := 2) rfl) (so_se (so_lst sa_nil (Nat.le_of_ble_eq_true rfl))))))) (ss_ret se_str) (ss_ret (se_cb cs_tup (sa_cons (so_se (so_lc (si_all (se_var (k := 1) rfl)) (sg_name (i := 5)) (by decide) (fun (l_sign : D) => sb_yes) (fun (l_sign : D) => (se_op os_sub (se_sidx se_str (se_var (k := 5) rfl)) se_int)))) sa_nil)))))) (ss_set (se_g (sa_cons (se_var (k := 1) rfl) sa_nil) rfl) (fun l_found => (ss_ifl (sb_test (se_op os_isN (se_var (k := 3) rfl) se_non)) (ss_ret se_str) (ss_ifl (sb_test (se_op os_eqA (se_var (k := 0) rfl) se_int)) (ss_ret (se_if (sb_and (sb_test (se_op os_lt (se_cb cs_len (sa_cons (se_var (k := 3) rfl) sa_nil)) se_int)) (sb_test (se_op os_eqA (so_se (so_lc (si_all (se_var (k := 3) rfl)) (sg_name (i := 6)) (by decide) (fun (l_one : D) => (sb_not (sb_test (se_chain os_le os_le se_int (se_var (k := 6) rfl) se_int)))) (fun (l_one : D) => (se_var (k := 6) rfl)))) (so_se (so_lst sa_nil (Nat.le_of_ble_eq_true rfl)))))) (se_var (k := 3) rfl) se_str)) (ss_set (se_and (se_op os_eqA (se_cb cs_lst (sa_cons (se_var (k := 3) rfl) sa_nil)) (so_se (so_sortSetX (w := w) (se_var (k := 3) rfl)))) (se_op os_lt (se_op os_ixX (se_var (k := 3) rfl) (se_un us_neg se_int)) se_int)) (fun l_good => (ss_ret (se_if (sb_val (se_var (k := 4) rfl)) (se_var (k := 3) rfl) se_str)))))))))))

abbrev st_L_kind : Stmt := topS 46
abbrev N_L_kind : List Str := ["_law_e", "_law_marks", "_law_words"]
theorem sc_L_kind : FnScope N_L_kind ["_law_e"] (defScope st_L_kind) := ⟨rfl, rfl, rfl, by decide +kernel, rfl, by decide +kernel, by decide +kernel⟩
theorem ok_L_kind (T : Tx K mg) (kc : Kcs K mg NS XS) (d : Df K mg "_law_kind" st_L_kind ["_law_e"]) : CdH P w K mg base "_law_kind" 1 ["_law_e"] (spK K mg XS D_L_kind) := by
  obtain ⟨N_NoStrip, gn_NoStrip⟩ := T.n_NoStrip
  obtain ⟨N_NoSizes, gn_NoSizes⟩ := T.n_NoSizes
  obtain ⟨N_NoNumber, gn_NoNumber⟩ := T.n_NoNumber
  obtain ⟨N_NoPlace, gn_NoPlace⟩ := T.n_NoPlace
  obtain ⟨N_NoHue, gn_NoHue⟩ := T.n_NoHue
  obtain ⟨N_NoDraft, gn_NoDraft⟩ := T.n_NoDraft
  obtain ⟨N_NoPaper, gn_NoPaper⟩ := T.n_NoPaper
  obtain ⟨N_NoFit, gn_NoFit⟩ := T.n_NoFit
  obtain ⟨N_TooGreat, gn_TooGreat⟩ := T.n_TooGreat
  obtain ⟨N_NoLot, gn_NoLot⟩ := T.n_NoLot
  obtain ⟨N_NoRing, gn_NoRing⟩ := T.n_NoRing
  obtain ⟨N_NoRound, gn_NoRound⟩ := T.n_NoRound
  obtain ⟨N_NoStand, gn_NoStand⟩ := T.n_NoStand
  obtain ⟨N_NoText, gn_NoText⟩ := T.n_NoText
  obtain ⟨N_NoDeed, gn_NoDeed⟩ := T.n_NoDeed
  obtain ⟨N_NoLine, gn_NoLine⟩ := T.n_NoLine
  refine cdH_of (k := 0) (F := Fl_L_kind) d sc_L_kind kc fun f cdv A outer s H e xn C dd hr kx hz hdd hf => ⟨_, (pss_cons (ps_set (i := 1) sc_L_kind.nd rfl (by first | exact .inl rfl | exact .inr rfl) (pe_lst (pa_cons (pe_callB (call_isHK (K := K) rfl kx.c hz hdd rfl hf List.mem_cons_self) (by exact rfl) T.b_isinstance bt_isinstance (pa_cons (pv 0) (pa_cons (pe_glob (v := V.ref N_NoStrip) (by exact rfl) gn_NoStrip rfl) pa_nil))) (pa_cons (pe_callB (call_isHK (K := K) rfl kx.c hz hdd rfl hf List.mem_cons_self) (by exact rfl) T.b_isinstance bt_isinstance (pa_cons (pv 0) (pa_cons (pe_glob (v := V.ref N_NoSizes) (by exact rfl) gn_NoSizes rfl) pa_nil))) (pa_cons (pe_callB (call_isHK (K := K) rfl kx.c hz hdd rfl hf List.mem_cons_self) (by exact rfl) T.b_isinstance bt_isinstance (pa_cons (pv 0) (pa_cons (pe_glob (v := V.ref N_NoNumber) (by exact rfl) gn_NoNumber rfl) pa_nil))) (pa_cons (pe_callB (call_isHK (K := K) rfl kx.c hz hdd rfl hf List.mem_cons_self) (by exact rfl) T.b_isinstance bt_isinstance (pa_cons (pv 0) (pa_cons (pe_glob (v := V.ref N_NoPlace) (by exact rfl) gn_NoPlace rfl) pa_nil))) pa_nil)))))) (pss_cons (ps_set (i := 1) sc_L_kind.nd rfl (by first | exact .inl rfl | exact .inr rfl) (pe_op (op_addK (K := K) rfl) (pv 1) (pe_lst (pa_cons (pe_callB (call_isHK (K := K) rfl kx.c hz hdd rfl hf List.mem_cons_self) (by exact rfl) T.b_isinstance bt_isinstance (pa_cons (pv 0) (pa_cons (pe_glob (v := V.ref N_NoHue) (by exact rfl) gn_NoHue rfl) pa_nil))) (pa_cons (pe_callB (call_isHK (K := K) rfl kx.c hz hdd rfl hf List.mem_cons_self) (by exact rfl) T.b_isinstance bt_isinstance (pa_cons (pv 0) (pa_cons (pe_glob (v := V.ref N_NoDraft) (by exact rfl) gn_NoDraft rfl) pa_nil))) (pa_cons (pe_callB (call_isHK (K := K) rfl kx.c hz hdd rfl hf List.mem_cons_self) (by exact rfl) T.b_isinstance bt_isinstance (pa_cons (pv 0) (pa_cons (pe_glob (v := V.ref N_NoPaper) (by exact rfl) gn_NoPaper rfl) pa_nil))) (pa_cons (pe_callB (call_isHK (K := K) rfl kx.c hz hdd rfl hf List.mem_cons_self) (by exact rfl) T.b_isinstance bt_isinstance (pa_cons (pv 0) (pa_cons (pe_glob (v := V.ref N_NoFit) (by exact rfl) gn_NoFit rfl) pa_nil))) pa_nil))))))) (pss_cons (ps_set (i := 1) sc_L_kind.nd rfl (by first | exact .inl rfl | exact .inr rfl) (pe_op (op_addK (K := K) rfl) (pv 1) (pe_lst (pa_cons (pe_callB (call_isHK (K := K) rfl kx.c hz hdd rfl hf List.mem_cons_self) (by exact rfl) T.b_isinstance bt_isinstance (pa_cons (pv 0) (pa_cons (pe_glob (v := V.ref N_TooGreat) (by exact rfl) gn_TooGreat rfl) pa_nil))) (pa_cons (pe_callB (call_isHK (K := K) rfl kx.c hz hdd rfl hf List.mem_cons_self) (by exact rfl) T.b_isinstance bt_isinstance (pa_cons (pv 0) (pa_cons (pe_glob (v := V.ref N_NoLot) (by exact rfl) gn_NoLot rfl) pa_nil))) (pa_cons (pe_callB (call_isHK (K := K) rfl kx.c hz hdd rfl hf List.mem_cons_self) (by exact rfl) T.b_isinstance bt_isinstance (pa_cons (pv 0) (pa_cons (pe_glob (v := V.ref N_NoRing) (by exact rfl) gn_NoRing rfl) pa_nil))) (pa_cons (pe_callB (call_isHK (K := K) rfl kx.c hz hdd rfl hf List.mem_cons_self) (by exact rfl) T.b_isinstance bt_isinstance (pa_cons (pv 0) (pa_cons (pe_glob (v := V.ref N_NoRound) (by exact rfl) gn_NoRound rfl) pa_nil))) pa_nil))))))) (pss_cons (ps_set (i := 1) sc_L_kind.nd rfl (by first | exact .inl rfl | exact .inr rfl) (pe_op (op_addK (K := K) rfl) (pv 1) (pe_lst (pa_cons (pe_callB (call_isHK (K := K) rfl kx.c hz hdd rfl hf List.mem_cons_self) (by exact rfl) T.b_isinstance bt_isinstance (pa_cons (pv 0) (pa_cons (pe_glob (v := V.ref N_NoStand) (by exact rfl) gn_NoStand rfl) pa_nil))) (pa_cons (pe_callB (call_isHK (K := K) rfl kx.c hz hdd rfl hf List.mem_cons_self) (by exact rfl) T.b_isinstance bt_isinstance (pa_cons (pv 0) (pa_cons (pe_glob (v := V.ref N_NoText) (by exact rfl) gn_NoText rfl) pa_nil))) (pa_cons (pe_callB (call_isHK (K := K) rfl kx.c hz hdd rfl hf List.mem_cons_self) (by exact rfl) T.b_isinstance bt_isinstance (pa_cons (pv 0) (pa_cons (pe_glob (v := V.ref N_NoDeed) (by exact rfl) gn_NoDeed rfl) pa_nil))) (pa_cons (pe_callB (call_isHK (K := K) rfl kx.c hz hdd rfl hf List.mem_cons_self) (by exact rfl) T.b_isinstance bt_isinstance (pa_cons (pv 0) (pa_cons (pe_glob (v := V.ref N_NoLine) (by exact rfl) gn_NoLine rfl) pa_nil))) pa_nil))))))) (pss_cons (ps_if (PW.pt (pw_or (pt_not (pt_val (pe_callB (call_isHK (K := K) rfl kx.c hz hdd rfl hf List.mem_cons_self) (by exact rfl) T.b_isinstance bt_isinstance (pa_cons (pv 0) (pa_cons (pe_bltn (v := V.ty "ValueError") (by exact rfl) T.b_ValueError (by decide +kernel) rfl) pa_nil))))) (pw_or1 (pt_cmpR (op_neK (K := K) rfl (L2H_units hr)) (pe_metK (K := K) rfl PySem.F.plainAttrs_list PySem.F.slot_list_count PySem.F.type_list_count (mt_countB (K := K) rfl) (pv 1) (pa_cons pe_bl pa_nil)) pe_int (nomark _))))) (pss_one (ps_ret pe_str)) pss_nil) (pss_cons (ps_set (i := 2) sc_L_kind.nd rfl (by first | exact .inl rfl | exact .inr rfl) (pe_lst (pa_cons pe_str (pa_cons pe_str (pa_cons pe_str (pa_cons pe_str (pa_cons pe_str (pa_cons pe_str (pa_cons pe_str (pa_cons pe_str (pa_cons pe_str (pa_cons pe_str (pa_cons pe_str (pa_cons pe_str pa_nil)))))))))))))) (pss_one (ps_ret (pe_op (op_addK (K := K) rfl) pe_str (pe_ix (ix_anyK (K := K) rfl) (pe_op (op_addK (K := K) rfl) (pv 2) (pe_lst (pa_cons pe_str (pa_cons pe_str (pa_cons pe_str (pa_cons pe_str pa_nil)))))) (pe_metK (K := K) rfl PySem.F.plainAttrs_list PySem.F.slot_list_index PySem.F.type_list_index (mt_indexK (K := K) rfl) (pv 1) (pa_cons pe_bl pa_nil)) (fun _ _ => rfl))))))))))), ?_⟩
  show SS _ _ _ [.val (.opq (2 * e.1 + 1)), .no, .no] (enc0 3) _ (B_L_kind xn (.opq (2 * e.1 + 1)))
  unfold B_L_kind
  exact (ss_set (so_se (so_lst (sa_cons (se_isH (i := 0) (cv := .ref N_NoStrip) rfl (fun _ h => h) (kx.own "NoStrip" (by decide) _ gn_NoStrip)) (sa_cons (se_isH (i := 0) (cv := .ref N_NoSizes) rfl (fun _ h => h) (kx.own "NoSizes" (by decide) _ gn_NoSizes)) (sa_cons (se_isH (i := 0) (cv := .ref N_NoNumber) rfl (fun _ h => h) (kx.own "NoNumber" (by decide) _ gn_NoNumber)) (sa_cons (se_isH (i := 0) (cv := .ref N_NoPlace) rfl (fun _ h => h) (kx.own "NoPlace" (by decide) _ gn_NoPlace)) sa_nil)))) (Nat.le_of_ble_eq_true rfl))) (fun l_marks => (ss_set (se_op os_add (se_var (k := 1) rfl) (so_se (so_lst (sa_cons (se_isH (i := 0) (cv := .ref N_NoHue) rfl (fun _ h => h) (kx.own "NoHue" (by decide) _ gn_NoHue)) (sa_cons (se_isH (i := 0) (cv := .ref N_NoDraft) rfl (fun _ h => h) (kx.own "NoDraft" (by decide) _ gn_NoDraft)) (sa_cons (se_isH (i := 0) (cv := .ref N_NoPaper) rfl (fun _ h => h) (kx.own "NoPaper" (by decide) _ gn_NoPaper)) (sa_cons (se_isH (i := 0) (cv := .ref N_NoFit) rfl (fun _ h => h) (kx.own "NoFit" (by decide) _ gn_NoFit)) sa_nil)))) (Nat.le_of_ble_eq_true rfl)))) (fun l_marks => (ss_set (se_op os_add (se_var (k := 1) rfl) (so_se (so_lst (sa_cons (se_isH (i := 0) (cv := .ref N_TooGreat) rfl (fun _ h => h) (kx.own "TooGreat" (by decide) _ gn_TooGreat)) (sa_cons (se_isH (i := 0) (cv := .ref N_NoLot) rfl (fun _ h => h) (kx.own "NoLot" (by decide) _ gn_NoLot)) (sa_cons (se_isH (i := 0) (cv := .ref N_NoRing) rfl (fun _ h => h) (kx.own "NoRing" (by decide) _ gn_NoRing)) (sa_cons (se_isH (i := 0) (cv := .ref N_NoRound) rfl (fun _ h => h) (kx.own "NoRound" (by decide) _ gn_NoRound)) sa_nil)))) (Nat.le_of_ble_eq_true rfl)))) (fun l_marks => (ss_set (se_op os_add (se_var (k := 1) rfl) (so_se (so_lst (sa_cons (se_isH (i := 0) (cv := .ref N_NoStand) rfl (fun _ h => h) (kx.own "NoStand" (by decide) _ gn_NoStand)) (sa_cons (se_isH (i := 0) (cv := .ref N_NoText) rfl (fun _ h => h) (kx.own "NoText" (by decide) _ gn_NoText)) (sa_cons (se_isH (i := 0) (cv := .ref N_NoDeed) rfl (fun _ h => h) (kx.own "NoDeed" (by decide) _ gn_NoDeed)) (sa_cons (se_isH (i := 0) (cv := .ref N_NoLine) rfl (fun _ h => h) (kx.own "NoLine" (by decide) _ gn_NoLine)) sa_nil)))) (Nat.le_of_ble_eq_true rfl)))) (fun l_marks => (ss_ifl (sb_or (sb_not (sb_val (se_isH (i := 0) (cv := .type "ValueError") rfl (fun _ h => h) kx.ve))) (sb_test (se_op os_neA (se_met me_countB (se_var (k := 1) rfl) (sa_cons se_bl sa_nil)) se_int))) (ss_ret se_str) (ss_set (so_se (so_lst (sa_cons se_str (sa_cons se_str (sa_cons se_str (sa_cons se_str (sa_cons se_str (sa_cons se_str (sa_cons se_str (sa_cons se_str (sa_cons se_str (sa_cons se_str (sa_cons se_str (sa_cons se_str sa_nil)))))))))))) (Nat.le_of_ble_eq_true rfl))) (fun l_words => (ss_ret (se_op os_add se_str (se_op os_ix (se_op os_add (se_var (k := 2) rfl) (so_se (so_lst (sa_cons se_str (sa_cons se_str (sa_cons se_str (sa_cons se_str sa_nil)))) (Nat.le_of_ble_eq_true rfl)))) (se_met me_indexB (se_var (k := 1) rfl) (sa_cons se_bl sa_nil))))))))))))))))

abbrev st_L_got : Stmt := topS 47
abbrev N_L_got : List Str := ["_law_call", "_law_e"]
theorem sc_L_got : FnScope N_L_got ["_law_call"] (defScope st_L_got) := ⟨rfl, rfl, rfl, by decide +kernel, rfl, by decide +kernel, by decide +kernel⟩
theorem ok_L_got (T : Tx K mg) (kc : Kcs K mg NS XS) (d : Df K mg "_law_got" st_L_got ["_law_call"]) (c_L_kind : CdH P w K mg base "_law_kind" 1 ["_law_e"] (spK K mg XS D_L_kind)) : Gv P w K mg base "_law_got" (TTgot K mg XS D_L_kind) := by
  obtain ⟨N_HueError, gn_HueError⟩ := T.n_HueError
  exact got_gv d sc_L_got kc gn_HueError c_L_kind rfl rfl (by first | exact .inl rfl | exact .inr (.inl rfl)) rfl rfl rfl

abbrev st_law : Stmt := topS 52
abbrev N_law : List Str := ["_law_script", "_law_k", "_law_pen_here", "_law_sort", "_law_spot", "_law_sign", "_law_many", "_law_at", "_law_texts", "_law_thing", "_law_text", "_law_other", "_law_call", "_law_due_here", "_law_turn", "_law_place"]
theorem sc_law : FnScope N_law ["_law_script"] (defScope st_law) := ⟨rfl, rfl, rfl, by decide +kernel, rfl, by decide +kernel, by decide +kernel⟩
theorem ok_law {f : Addr} {fd : FuncData} {cc_law Ta_law : Addr} (T : Tx K mg) (d : L2.Fun K "law" "law" st_law f fd) (hc_law : fd.code = .ref cc_law) (tB_law : LamX.TabB base mg cc_law Ta_law) (mT_law : (Ta_law, lamQ "law") ∈ Tb.T) (uT_law : ∀ p ∈ Tb.T, p.1 = Ta_law → p.2 = lamQ "law") (c_L_pen : Cd false P w K mg base "_law_pen" 1 ["_law_cell"] (spD K mg true 1 D_L_pen)) (c_L_cell_at : Cd false P w K mg base "_law_cell_at" 1 ["_law_script", "_law_k"] (spD K mg false 2 D_L_cell_at)) (c_L_draw : Cd false P w K mg base "_law_draw" 1 ["_law_pen_here", "_law_bound"] (spD K mg false 2 (drawF true))) (c_L_hues_text : Cd false P w K mg base "_law_hues_text" 1 ["_law_some"] (spD K mg false 1 D_L_hues_text)) (c_L_numbers_text : Cd false P w K mg base "_law_numbers_text" 1 ["_law_some"] (spD K mg false 1 D_L_numbers_text)) (c_L_due : Cd false P w K mg base "_law_due" 2 ["_law_sort", "_law_text"] (spD K mg false 2 D_L_due)) (c_L_got : Gv P w K mg base "_law_got" (TTgot K mg XS D_L_kind)) (c_fn1 : CdV P w K mg base 4 [0, 1, 2, 3] 1 D_fn1) : GOk P w K mg base true 9 f fd ["_law_script"] (spD K mg false 1 D_law) := by
  refine g_of (k := 8) false (F := Fl_law) d sc_law fun cdv A outer s H E hcd hr hg => ⟨_, (pss_cons (ps_for (passes_of rfl) rfl (pi_range1 (by exact rfl) T.b_range (pa_cons (pe_callB (call_max2 rfl) (by exact rfl) T.b_max bt_max (pa_cons pe_int (pa_cons (pe_callB (call_min2 rfl) (by exact rfl) T.b_min bt_min (pa_cons (pe_callB (call_lenK (K := K) rfl) (by exact rfl) T.b_len bt_len (pa_cons (pv 0) pa_nil)) (pa_cons pe_int pa_nil))) pa_nil))) pa_nil)) (pg_name (i := 1) sc_law.nd rfl (by first | exact .inl rfl | exact .inr rfl)) (pss_cons (ps_set (i := 2) sc_law.nd rfl (by first | exact .inl rfl | exact .inr rfl) (pe_cd c_L_pen hr (fun z => nomatch z) pass_def (pa_cons (pe_cd c_L_cell_at hr (fun z => nomatch z) pass_def (pa_cons (pv 0) (pa_cons (pv 1) pa_nil))) pa_nil))) (pss_cons (ps_asg (pe_tupB (pa_cons (pe_cd c_L_draw hr (fun z => nomatch z) pass_def (pa_cons (pv 2) (pa_cons pe_int pa_nil))) (pa_cons (pe_cd c_L_draw hr (fun z => nomatch z) pass_def (pa_cons (pv 2) (pa_cons pe_int pa_nil))) pa_nil))) (pg_tupK (n := 2) (K := K) rfl rfl (pgs_cons (pg_name (i := 3) sc_law.nd rfl (by first | exact .inl rfl | exact .inr rfl)) (pgs_cons (pg_name (i := 4) sc_law.nd rfl (by first | exact .inl rfl | exact .inr rfl)) pgs_nil)))) (pss_cons (ps_set (i := 5) sc_law.nd rfl (by first | exact .inl rfl | exact .inr rfl) (pe_ix (ix_X (K := K) rfl) pe_str (pe_cd c_L_draw hr (fun z => nomatch z) pass_def (pa_cons (pv 2) (pa_cons pe_int pa_nil))) (fun _ _ => rfl))) (pss_cons (ps_set (i := 6) sc_law.nd rfl (by first | exact .inl rfl | exact .inr rfl) (pe_ix (ix_X (K := K) rfl) (pe_lst (pa_cons pe_int (pa_cons pe_int (pa_cons (pe_cd c_L_draw hr (fun z => nomatch z) pass_def (pa_cons (pv 2) (pa_cons pe_int pa_nil))) (pa_cons pe_int pa_nil))))) (pe_cd c_L_draw hr (fun z => nomatch z) pass_def (pa_cons (pv 2) (pa_cons pe_int pa_nil))) (fun _ _ => rfl))) (pss_cons (ps_if (pt_cmpR op_lt (pv 3) pe_int (nomark _)) (pss_cons (ps_set (i := 10) sc_law.nd rfl (by first | exact .inl rfl | exact .inr rfl) (pe_cd c_L_hues_text hr (fun z => nomatch z) pass_def (pa_cons (pe_lc (own := [("_law_place", 15)]) rfl sc_law.nd (pi_range1 (by exact rfl) T.b_range (pa_cons (pv 6) pa_nil)) (blkOk_by (own := [("_law_place", 15)]) (N := N_law) (sc := defScope st_law) (by decide +kernel)) (fun _ _ _ _ _ => (pg_name (i := 15) sc_law.nd rfl (by first | exact .inl rfl | exact .inr rfl))) (fun _ _ _ _ _ => pts_nil) (fun _ _ _ _ _ => (pe_op op_sub (pe_cd c_L_draw hr (fun z => nomatch z) passL (pa_cons (pv 2) (pa_cons (pe_op (op_addK (K := K) rfl) pe_int (pv 3)) pa_nil))) (pv 3)))) pa_nil))) pss_nil) (pss_cons (ps_if (pt_cmpR (op_eqK (K := K) rfl hr.units) (pv 3) pe_int (nomark _)) (pss_cons (ps_set (i := 10) sc_law.nd rfl (by first | exact .inl rfl | exact .inr rfl) (pe_cd c_L_numbers_text hr (fun z => nomatch z) pass_def (pa_cons (pe_lc (own := [("_law_place", 15)]) rfl sc_law.nd (pi_range1 (by exact rfl) T.b_range (pa_cons (pe_op (op_addK (K := K) rfl) pe_int (pe_op op_mod (pv 6) pe_int)) pa_nil)) (blkOk_by (own := [("_law_place", 15)]) (N := N_law) (sc := defScope st_law) (by decide +kernel)) (fun _ _ _ _ _ => (pg_name (i := 15) sc_law.nd rfl (by first | exact .inl rfl | exact .inr rfl))) (fun _ _ _ _ _ => pts_nil) (fun _ _ _ _ _ => (pe_op (op_addK (K := K) rfl) pe_int (pe_cd c_L_draw hr (fun z => nomatch z) passL (pa_cons (pv 2) (pa_cons pe_int pa_nil)))))) pa_nil))) pss_nil) (pss_cons (ps_set (i := 10) sc_law.nd rfl (by first | exact .inl rfl | exact .inr rfl) (pe_cd c_L_numbers_text hr (fun z => nomatch z) pass_def (pa_cons (pe_callB (cr_sortedSet (X := _) rfl) (by exact rfl) T.b_sorted bt_sorted (pa_cons (pe_callTy (call_setX (K := K) rfl rfl rfl) (by exact rfl) T.b_set bt_set (pa_cons (pe_lc (own := [("_law_place", 15)]) rfl sc_law.nd (pi_range1 (by exact rfl) T.b_range (pa_cons (pe_callB (call_min2 rfl) (by exact rfl) T.b_min bt_min (pa_cons (pv 6) (pa_cons pe_int pa_nil))) pa_nil)) (blkOk_by (own := [("_law_place", 15)]) (N := N_law) (sc := defScope st_law) (by decide +kernel)) (fun _ _ _ _ _ => (pg_name (i := 15) sc_law.nd rfl (by first | exact .inl rfl | exact .inr rfl))) (fun _ _ _ _ _ => pts_nil) (fun _ _ _ _ _ => (pe_cd c_L_draw hr (fun z => nomatch z) passL (pa_cons (pv 2) (pa_cons pe_int pa_nil))))) pa_nil)) pa_nil)) pa_nil))) pss_nil)) pss_nil)) (pss_cons (ps_set (i := 7) sc_law.nd rfl (by first | exact .inl rfl | exact .inr rfl) (pe_op op_mod (pv 4) (pe_op (op_addK (K := K) rfl) (pe_callB (call_lenK (K := K) rfl) (by exact rfl) T.b_len bt_len (pa_cons (pv 10) pa_nil)) pe_int))) (pss_cons (ps_set (i := 8) sc_law.nd rfl (by first | exact .inl rfl | exact .inr rfl) (pe_lst (pa_cons (pv 10) (pa_cons (pe_op (op_addK (K := K) rfl) (pe_op (op_addK (K := K) rfl) (pe_slice (sl_X (K := K) rfl) (pv 10) po_none (po_some (pv 7))) (pv 5)) (pe_slice (sl_X (K := K) rfl) (pv 10) (po_some (pv 7)) po_none)) (pa_cons (pe_op (op_addK (K := K) rfl) (pe_op (op_addK (K := K) rfl) (pe_slice (sl_X (K := K) rfl) (pv 10) po_none (po_some (pv 7))) (pv 5)) (pe_slice (sl_X (K := K) rfl) (pv 10) (po_some (pe_op (op_addK (K := K) rfl) (pv 7) pe_int)) po_none)) (pa_cons (pe_op (op_addK (K := K) rfl) (pe_slice (sl_X (K := K) rfl) (pv 10) po_none (po_some (pv 7))) (pe_slice (sl_X (K := K) rfl) (pv 10) (po_some (pe_op (op_addK (K := K) rfl) (pv 7) pe_int)) po_none)) pa_nil)))))) (pss_cons (ps_set (i := 8) sc_law.nd rfl (by first | exact .inl rfl | exact .inr rfl) (pe_op (op_addK (K := K) rfl) (pv 8) (pe_lst (pa_cons (pe_op (op_addK (K := K) rfl) (pv 10) (pe_slice (sl_X (K := K) rfl) (pv 10) (po_some (pe_un un_neg pe_int)) po_none)) (pa_cons (pe_op (op_addK (K := K) rfl) (pe_slice (sl_X (K := K) rfl) (pv 10) po_none (po_some pe_int)) pe_str) (pa_cons (pe_op (op_addK (K := K) rfl) pe_str (pe_slice (sl_X (K := K) rfl) (pv 10) po_none (po_some pe_int))) (pa_cons (pe_op (op_addK (K := K) rfl) (pe_slice (sl_X (K := K) rfl) (pv 10) po_none (po_some pe_int)) pe_str) (pa_cons pe_str (pa_cons pe_str (pa_cons pe_str (pa_cons pe_str pa_nil))))))))))) (pss_cons (ps_set (i := 8) sc_law.nd rfl (by first | exact .inl rfl | exact .inr rfl) (pe_op (op_addK (K := K) rfl) (pv 8) (pe_lst (pa_cons pe_str (pa_cons pe_str (pa_cons (pe_op (op_addK (K := K) rfl) pe_str (pe_op (op_mulX (K := K) rfl) pe_str pe_int)) (pa_cons (pe_op (op_addK (K := K) rfl) pe_str (pe_op (op_mulX (K := K) rfl) pe_str pe_int)) (pa_cons pe_str (pa_cons pe_str (pa_cons pe_str (pa_cons pe_str (pa_cons pe_str (pa_cons pe_str pa_nil))))))))))))) (pss_cons (ps_set (i := 8) sc_law.nd rfl (by first | exact .inl rfl | exact .inr rfl) (pe_op (op_addK (K := K) rfl) (pv 8) (pe_lst (pa_cons pe_str (pa_cons pe_str (pa_cons pe_str (pa_cons pe_str (pa_cons pe_str (pa_cons pe_str (pa_cons pe_str (pa_cons pe_str pa_nil))))))))))) (pss_cons (ps_for (passes_of rfl) rfl (pi_all (K := K) rfl (pe_op (op_addK (K := K) rfl) (pv 8) (pe_lst (pa_cons pe_non (pa_cons pe_int (pa_cons pe_bl (pa_cons (pe_tupB pa_nil) (pa_cons (pe_lst (pa_cons pe_str pa_nil)) (pa_cons pe_dnewK pa_nil))))))))) (pg_name (i := 9) sc_law.nd rfl (by first | exact .inl rfl | exact .inr rfl)) (pss_cons (ps_for (passes_of rfl) rfl (pi_enumA (K := K) rfl (by exact rfl) T.b_enumerate (pa_cons (pe_lst (pa_cons (pe_glob (v := V.ref (Tb.fa 0)) (by exact rfl) T.f_strip_read rfl) (pa_cons (pe_glob (v := V.ref (Tb.fa 1)) (by exact rfl) T.f_draft_read rfl) (pa_cons (pe_glob (v := V.ref (Tb.fa 2)) (by exact rfl) T.f_sizes_read rfl) (pa_cons (pe_glob (v := V.ref (Tb.fa 3)) (by exact rfl) T.f_lot_read rfl) pa_nil))))) pa_nil)) (pg_tupK (n := 2) (K := K) rfl rfl (pgs_cons (pg_name (i := 11) sc_law.nd rfl (by first | exact .inl rfl | exact .inr rfl)) (pgs_cons (pg_name (i := 12) sc_law.nd rfl (by first | exact .inl rfl | exact .inr rfl)) pgs_nil))) (pss_cons (ps_set (i := 13) sc_law.nd rfl (by first | exact .inl rfl | exact .inr rfl) (pe_callB (call_reprK (K := K) rfl (hg rfl) hr.units) (by exact rfl) T.b_repr bt_repr (pa_cons (pe_cd c_L_due hr (fun z => nomatch z) pass_def (pa_cons (pv 11) (pa_cons (pv 9) pa_nil))) pa_nil))) (pss_cons (ps_for (passes_of rfl) rfl (pi_range1 (by exact rfl) T.b_range (pa_cons pe_int pa_nil)) (pg_name (i := 14) sc_law.nd rfl (by first | exact .inl rfl | exact .inr rfl)) (pss_one (ps_if (pt_cmpR (op_neK (K := K) rfl hr.units) (pe_callB (call_reprK (K := K) rfl (hg rfl) hr.units) (by exact rfl) T.b_repr bt_repr (pa_cons (pe_gv (k := 4) c_L_got (by exact rfl) tB_law (hcd.symm.trans hc_law) mT_law uT_law (hr.mono (by decide)) (LamX.lamS_by (by rfl)) rfl (fun _ _ _ _ _ => rfl) (fun A outer s H E f N hr => (pe_cdvl (i := 12) c_fn1 hr (pa_cons (pv 9) pa_nil)))) pa_nil)) (pv 13) (nomark _)) (pss_one (ps_ret pe_bl)) pss_nil))) pss_nil))) pss_nil)) pss_nil)))))))))))) (pss_one (ps_ret pe_bl))), fun ds hl => ?_⟩
  match ds, hl with
  | [l_script], _ =>
    show SS _ _ _ [.val (l_script), .no, .no, .no, .no, .no, .no, .no, .no, .no, .no, .no, .no, .no, .no, .no] (enc0 16) _ (B_law l_script)
    unfold B_law
    exact (ss_seq (enc := fun (s1 : Unit) => [.val (l_script), .no, .no, .no, .no, .no, .no, .no, .no, .no, .no, .no, .no, .no, .no, .no]) (ss_for (enc := fun (s1 : Unit) => [.val (l_script), .no, .no, .no, .no, .no, .no, .no, .no, .no, .no, .no, .no, .no, .no, .no]) (s0 := ()) (si_rng1 (sa_cons (se_cb cs_max2 (sa_cons se_int (sa_cons (se_cb cs_min2 (sa_cons (se_cb cs_len (sa_cons (se_var (k := 0) rfl) sa_nil)) (sa_cons se_int sa_nil))) sa_nil))) sa_nil)) (.same (.no (.no (.no (.no (.no (.no (.no (.no (.no (.no (.no (.no (.no (.no (.no .nil)))))))))))))))) (fun s1 => (sg_name (i := 1))) (fun s1 l_k => (ss_seto (so_g (sa_cons (se_g (sa_cons (se_var (k := 0) rfl) (sa_cons (se_var (k := 1) rfl) sa_nil)) rfl) sa_nil) rfl) (fun l_pen_here => ss_pen true (i := 2) rfl (ss_asg (se_tup (sa_cons (se_g (sa_cons (se_var (k := 2) rfl) (sa_cons se_int sa_nil)) rfl) (sa_cons (se_g (sa_cons (se_var (k := 2) rfl) (sa_cons se_int sa_nil)) rfl) sa_nil)) (Nat.le_of_ble_eq_true rfl)) (sg_two (i := 3) (j := 4)) (fun p2 => (ss_set (se_op os_ixX se_str (se_g (sa_cons (se_var (k := 2) rfl) (sa_cons se_int sa_nil)) rfl)) (fun l_sign => (ss_set (se_op os_ixX (so_se (so_lst (sa_cons se_int (sa_cons se_int (sa_cons (se_g (sa_cons (se_var (k := 2) rfl) (sa_cons se_int sa_nil)) rfl) (sa_cons se_int sa_nil)))) (Nat.le_of_ble_eq_true rfl))) (se_g (sa_cons (se_var (k := 2) rfl) (sa_cons se_int sa_nil)) rfl)) (fun l_many => (ss_seq (T := D) (enc := fun s3 => [.val (l_script), .no, .no, .no, .val (p2.2), .val (l_sign), .no, .no, .no, .no, .val (s3), .no, .no, .no, .no, .no]) (ss_if (sb_test (se_op os_lt (se_var (k := 3) rfl) se_int)) (ss_set (se_g (sa_cons (so_se (so_lc (si_rng1 (sa_cons (se_var (k := 6) rfl) sa_nil)) (sg_name (i := 15)) (by decide) (fun (l_place : D) => sb_yes) (fun (l_place : D) => (se_op os_sub (se_g (sa_cons (se_var (k := 2) rfl) (sa_cons (se_op os_add se_int (se_var (k := 3) rfl)) sa_nil)) rfl) (se_var (k := 3) rfl))))) sa_nil) rfl) (fun l_text => (ss_next (.same (.no (.no (.no (.same (.same (.no (.no (.no (.no (.same (.no (.no (.no (.no (.no .nil))))))))))))))))))) (ss_seq (T := D) (enc := fun s4 => [.val (l_script), .no, .no, .no, .val (p2.2), .val (l_sign), .no, .no, .no, .no, .val (s4), .no, .no, .no, .no, .no]) (ss_if (sb_test (se_op os_eqA (se_var (k := 3) rfl) se_int)) (ss_set (se_g (sa_cons (so_se (so_lc (si_rng1 (sa_cons (se_op os_add se_int (se_op os_mod (se_var (k := 6) rfl) se_int)) sa_nil)) (sg_name (i := 15)) (by decide) (fun (l_place : D) => sb_yes) (fun (l_place : D) => (se_op os_add se_int (se_g (sa_cons (se_var (k := 2) rfl) (sa_cons se_int sa_nil)) rfl))))) sa_nil) rfl) (fun l_text => (ss_next (.same (.no (.no (.no (.same (.same (.no (.no (.no (.no (.same (.no (.no (.no (.no (.no .nil))))))))))))))))))) (ss_set (se_g (sa_cons (so_se (so_sortSetX (w := w) (so_se (so_lc (si_rng1 (sa_cons (se_cb cs_min2 (sa_cons (se_var (k := 6) rfl) (sa_cons se_int sa_nil))) sa_nil)) (sg_name (i := 15)) (by decide) (fun (l_place : D) => sb_yes) (fun (l_place : D) => (se_g (sa_cons (se_var (k := 2) rfl) (sa_cons se_int sa_nil)) rfl)))))) sa_nil) rfl) (fun l_text => (ss_next (.same (.no (.no (.no (.same (.same (.no (.no (.no (.no (.same (.no (.no (.no (.no (.no .nil)))))))))))))))))))) (fun s4 => (ss_next (.same (.no (.no (.no (.same (.same (.no (.no (.no (.no (.same (.no (.no (.no (.no (.no .nil)))))))))))))))))))) (fun s3 => (ss_set (se_op os_mod (se_var (k := 4) rfl) (se_op os_add (se_cb cs_len (sa_cons (se_var (k := 10) rfl) sa_nil)) se_int)) (fun l_at => (ss_set (so_se (so_lst (sa_cons (se_var (k := 10) rfl) (sa_cons (se_op os_add (se_op os_add (se_slice ss_cutX (se_var (k := 10) rfl) sp_none (sp_some (se_var (k := 7) rfl))) (se_var (k := 5) rfl)) (se_slice ss_cutX (se_var (k := 10) rfl) (sp_some (se_var (k := 7) rfl)) sp_none)) (sa_cons (se_op os_add (se_op os_add (se_slice ss_cutX (se_var (k := 10) rfl) sp_none (sp_some (se_var (k := 7) rfl))) (se_var (k := 5) rfl)) (se_slice ss_cutX (se_var (k := 10) rfl) (sp_some (se_op os_add (se_var (k := 7) rfl) se_int)) sp_none)) (sa_cons (se_op os_add (se_slice ss_cutX (se_var (k := 10) rfl) sp_none (sp_some (se_var (k := 7) rfl))) (se_slice ss_cutX (se_var (k := 10) rfl) (sp_some (se_op os_add (se_var (k := 7) rfl) se_int)) sp_none)) sa_nil)))) (Nat.le_of_ble_eq_true rfl))) (fun l_texts => (ss_set (se_op os_add (se_var (k := 8) rfl) (so_se (so_lst (sa_cons (se_op os_add (se_var (k := 10) rfl) (se_slice ss_cutX (se_var (k := 10) rfl) (sp_some (se_un us_neg se_int)) sp_none)) (sa_cons (se_op os_add (se_slice ss_cutX (se_var (k := 10) rfl) sp_none (sp_some se_int)) se_str) (sa_cons (se_op os_add se_str (se_slice ss_cutX (se_var (k := 10) rfl) sp_none (sp_some se_int))) (sa_cons (se_op os_add (se_slice ss_cutX (se_var (k := 10) rfl) sp_none (sp_some se_int)) se_str) (sa_cons se_str (sa_cons se_str (sa_cons se_str (sa_cons se_str sa_nil)))))))) (Nat.le_of_ble_eq_true rfl)))) (fun l_texts => (ss_set (se_op os_add (se_var (k := 8) rfl) (so_se (so_lst (sa_cons se_str (sa_cons se_str (sa_cons (se_op os_add se_str (se_op os_mulX se_str se_int)) (sa_cons (se_op os_add se_str (se_op os_mulX se_str se_int)) (sa_cons se_str (sa_cons se_str (sa_cons se_str (sa_cons se_str (sa_cons se_str (sa_cons se_str sa_nil)))))))))) (Nat.le_of_ble_eq_true rfl)))) (fun l_texts => (ss_set (se_op os_add (se_var (k := 8) rfl) (so_se (so_lst (sa_cons se_str (sa_cons se_str (sa_cons se_str (sa_cons se_str (sa_cons se_str (sa_cons se_str (sa_cons se_str (sa_cons se_str sa_nil)))))))) (Nat.le_of_ble_eq_true rfl)))) (fun l_texts => (ss_seq (enc := fun (s5 : Unit) => [.val (l_script), .no, .no, .no, .no, .no, .no, .no, .no, .no, .no, .no, .no, .no, .no, .no]) (ss_for (enc := fun (s5 : Unit) => [.val (l_script), .no, .no, .no, .no, .no, .no, .no, .no, .no, .no, .no, .no, .no, .no, .no]) (s0 := ()) (si_all (se_op os_add (se_var (k := 8) rfl) (so_se (so_lst (sa_cons se_non (sa_cons se_int (sa_cons se_bl (sa_cons (se_tup sa_nil (Nat.le_of_ble_eq_true rfl)) (sa_cons (so_se (so_lst (sa_cons se_str sa_nil) (Nat.le_of_ble_eq_true rfl))) (sa_cons se_dnew sa_nil)))))) (Nat.le_of_ble_eq_true rfl))))) (.same (.no (.no (.no (.no (.no (.no (.no (.no (.no (.no (.no (.no (.no (.no (.no .nil)))))))))))))))) (fun s5 => (sg_name (i := 9))) (fun s5 l_thing => (ss_seq (enc := fun (s6 : Unit) => [.val (l_script), .no, .no, .no, .no, .no, .no, .no, .no, .val (l_thing), .no, .no, .no, .no, .no, .no]) (ss_for (enc := fun (s6 : Unit) => [.val (l_script), .no, .no, .no, .no, .no, .no, .no, .no, .val (l_thing), .no, .no, .no, .no, .no, .no]) (s0 := ()) (si_enum (so_se (so_lst (sa_cons (se_fn (i := 0) rfl) (sa_cons (se_fn (i := 1) rfl) (sa_cons (se_fn (i := 2) rfl) (sa_cons (se_fn (i := 3) rfl) sa_nil)))) (Nat.le_of_ble_eq_true rfl)))) (.same (.no (.no (.no (.no (.no (.no (.no (.no (.same (.no (.no (.no (.no (.no (.no .nil)))))))))))))))) (fun s6 => (sg_two (i := 11) (j := 12))) (fun s6 p7 => (ss_set (se_cb cs_repr (sa_cons (se_g (sa_cons (se_var (k := 11) rfl) (sa_cons (se_var (k := 9) rfl) sa_nil)) rfl) sa_nil)) (fun l_due_here => (ss_seq (enc := fun (s8 : Unit) => [.val (l_script), .no, .no, .no, .no, .no, .no, .no, .no, .val (l_thing), .no, .no, .val (p7.2), .val (l_due_here), .no, .no]) (ss_for (enc := fun (s8 : Unit) => [.val (l_script), .no, .no, .no, .no, .no, .no, .no, .no, .val (l_thing), .no, .no, .val (p7.2), .val (l_due_here), .no, .no]) (s0 := ()) (si_rng1 (sa_cons se_int sa_nil)) (.same (.no (.no (.no (.no (.no (.no (.no (.no (.same (.no (.no (.same (.same (.no (.no .nil)))))))))))))))) (fun s8 => (sg_name (i := 14))) (fun s8 l_turn => (ss_if (sb_test (se_op os_neA (se_cb cs_repr (sa_cons (se_got (fun E => (se_cdv (j := 12) rfl (sa_cons (se_var (k := 9) rfl) sa_nil) rfl))) sa_nil)) (se_var (k := 13) rfl))) (ss_ret se_bl) (ss_next (.same (.no (.no (.no (.no (.no (.no (.no (.no (.same (.no (.no (.same (.same (.no (.no .nil)))))))))))))))))))) (fun s8 => (ss_next (.same (.no (.no (.no (.no (.no (.no (.no (.no (.same (.no (.no (.no (.no (.no (.no .nil))))))))))))))))))))))) (fun s6 => (ss_next (.same (.no (.no (.no (.no (.no (.no (.no (.no (.no (.no (.no (.no (.no (.no (.no .nil))))))))))))))))))))) (fun s5 => (ss_next (.same (.no (.no (.no (.no (.no (.no (.no (.no (.no (.no (.no (.no (.no (.no (.no .nil))))))))))))))))))))))))))))))))))))))))) (fun s1 => (ss_ret se_bl)))

end
theorem all_mk {l : PySem.W.OpenLaw} {w : World} {K : PySem.W.Frag} {h : Heap} {mg : Str → Option Value} {fa : Addr} (X : K.In h) (G : h.Ns mainGlobals mg) (hfa : mg "law" = some (.ref fa))
    {f_L_pen : Addr} {od_L_pen an_L_pen : Option Addr} {sl_L_pen : Array (Option Value)} {oc_L_pen kV_L_pen dc_L_pen pm_L_pen cd_L_pen ct_L_pen : Value}
    (a_L_pen : PySem.W.nsIn K mainGlobals "_law_pen" = some (some (.ref f_L_pen))) (l_L_pen : K.lookup f_L_pen = some ⟨oc_L_pen, od_L_pen, .func (PySem.W.fnOf "_law_pen" "_law_pen" (defArgs st_L_pen) (defBody st_L_pen) (defScope st_L_pen) .none kV_L_pen dc_L_pen pm_L_pen an_L_pen cd_L_pen ct_L_pen), sl_L_pen⟩) (e_L_pen : PySem.W.codeIn K cd_L_pen "_law_pen" = true) (k_L_pen : PySem.W.keepIn K (.ref f_L_pen) = true)
    {f_L_cell_at : Addr} {od_L_cell_at an_L_cell_at : Option Addr} {sl_L_cell_at : Array (Option Value)} {oc_L_cell_at kV_L_cell_at dc_L_cell_at pm_L_cell_at cd_L_cell_at ct_L_cell_at : Value}
    (a_L_cell_at : PySem.W.nsIn K mainGlobals "_law_cell_at" = some (some (.ref f_L_cell_at))) (l_L_cell_at : K.lookup f_L_cell_at = some ⟨oc_L_cell_at, od_L_cell_at, .func (PySem.W.fnOf "_law_cell_at" "_law_cell_at" (defArgs st_L_cell_at) (defBody st_L_cell_at) (defScope st_L_cell_at) .none kV_L_cell_at dc_L_cell_at pm_L_cell_at an_L_cell_at cd_L_cell_at ct_L_cell_at), sl_L_cell_at⟩) (e_L_cell_at : PySem.W.codeIn K cd_L_cell_at "_law_cell_at" = true) (k_L_cell_at : PySem.W.keepIn K (.ref f_L_cell_at) = true)
    {f_L_draw : Addr} {od_L_draw an_L_draw : Option Addr} {sl_L_draw : Array (Option Value)} {oc_L_draw kV_L_draw dc_L_draw pm_L_draw cd_L_draw ct_L_draw : Value}
    (a_L_draw : PySem.W.nsIn K mainGlobals "_law_draw" = some (some (.ref f_L_draw))) (l_L_draw : K.lookup f_L_draw = some ⟨oc_L_draw, od_L_draw, .func (PySem.W.fnOf "_law_draw" "_law_draw" (defArgs st_L_draw) (defBody st_L_draw) (defScope st_L_draw) .none kV_L_draw dc_L_draw pm_L_draw an_L_draw cd_L_draw ct_L_draw), sl_L_draw⟩) (e_L_draw : PySem.W.codeIn K cd_L_draw "_law_draw" = true) (k_L_draw : PySem.W.keepIn K (.ref f_L_draw) = true)
    {f_L_hues_text : Addr} {od_L_hues_text an_L_hues_text : Option Addr} {sl_L_hues_text : Array (Option Value)} {oc_L_hues_text kV_L_hues_text dc_L_hues_text pm_L_hues_text cd_L_hues_text ct_L_hues_text : Value}
    (a_L_hues_text : PySem.W.nsIn K mainGlobals "_law_hues_text" = some (some (.ref f_L_hues_text))) (l_L_hues_text : K.lookup f_L_hues_text = some ⟨oc_L_hues_text, od_L_hues_text, .func (PySem.W.fnOf "_law_hues_text" "_law_hues_text" (defArgs st_L_hues_text) (defBody st_L_hues_text) (defScope st_L_hues_text) .none kV_L_hues_text dc_L_hues_text pm_L_hues_text an_L_hues_text cd_L_hues_text ct_L_hues_text), sl_L_hues_text⟩) (e_L_hues_text : PySem.W.codeIn K cd_L_hues_text "_law_hues_text" = true) (k_L_hues_text : PySem.W.keepIn K (.ref f_L_hues_text) = true)
    {f_L_numbers_text : Addr} {od_L_numbers_text an_L_numbers_text : Option Addr} {sl_L_numbers_text : Array (Option Value)} {oc_L_numbers_text kV_L_numbers_text dc_L_numbers_text pm_L_numbers_text cd_L_numbers_text ct_L_numbers_text : Value}
    (a_L_numbers_text : PySem.W.nsIn K mainGlobals "_law_numbers_text" = some (some (.ref f_L_numbers_text))) (l_L_numbers_text : K.lookup f_L_numbers_text = some ⟨oc_L_numbers_text, od_L_numbers_text, .func (PySem.W.fnOf "_law_numbers_text" "_law_numbers_text" (defArgs st_L_numbers_text) (defBody st_L_numbers_text) (defScope st_L_numbers_text) .none kV_L_numbers_text dc_L_numbers_text pm_L_numbers_text an_L_numbers_text cd_L_numbers_text ct_L_numbers_text), sl_L_numbers_text⟩) (e_L_numbers_text : PySem.W.codeIn K cd_L_numbers_text "_law_numbers_text" = true) (k_L_numbers_text : PySem.W.keepIn K (.ref f_L_numbers_text) = true)
    {f_hues_in : Addr} {od_hues_in an_hues_in : Option Addr} {sl_hues_in : Array (Option Value)} {oc_hues_in kV_hues_in dc_hues_in pm_hues_in cd_hues_in ct_hues_in : Value}
    (a_hues_in : PySem.W.nsIn K mainGlobals "hues_in" = some (some (.ref f_hues_in))) (l_hues_in : K.lookup f_hues_in = some ⟨oc_hues_in, od_hues_in, .func (PySem.W.fnOf "hues_in" "hues_in" (defArgs st_hues_in) (defBody st_hues_in) (defScope st_hues_in) .none kV_hues_in dc_hues_in pm_hues_in an_hues_in cd_hues_in ct_hues_in), sl_hues_in⟩) (e_hues_in : PySem.W.codeIn K cd_hues_in "hues_in" = true) (k_hues_in : PySem.W.keepIn K (.ref f_hues_in) = true)
    {f_strip_read : Addr} {od_strip_read an_strip_read : Option Addr} {sl_strip_read : Array (Option Value)} {oc_strip_read kV_strip_read dc_strip_read pm_strip_read cd_strip_read ct_strip_read : Value}
    (a_strip_read : PySem.W.nsIn K mainGlobals "strip_read" = some (some (.ref f_strip_read))) (l_strip_read : K.lookup f_strip_read = some ⟨oc_strip_read, od_strip_read, .func (PySem.W.fnOf "strip_read" "strip_read" (defArgs st_strip_read) (defBody st_strip_read) (defScope st_strip_read) .none kV_strip_read dc_strip_read pm_strip_read an_strip_read cd_strip_read ct_strip_read), sl_strip_read⟩) (e_strip_read : PySem.W.codeIn K cd_strip_read "strip_read" = true) (k_strip_read : PySem.W.keepIn K (.ref f_strip_read) = true)
    {f_draft_read : Addr} {od_draft_read an_draft_read : Option Addr} {sl_draft_read : Array (Option Value)} {oc_draft_read kV_draft_read dc_draft_read pm_draft_read cd_draft_read ct_draft_read : Value}
    (a_draft_read : PySem.W.nsIn K mainGlobals "draft_read" = some (some (.ref f_draft_read))) (l_draft_read : K.lookup f_draft_read = some ⟨oc_draft_read, od_draft_read, .func (PySem.W.fnOf "draft_read" "draft_read" (defArgs st_draft_read) (defBody st_draft_read) (defScope st_draft_read) .none kV_draft_read dc_draft_read pm_draft_read an_draft_read cd_draft_read ct_draft_read), sl_draft_read⟩) (e_draft_read : PySem.W.codeIn K cd_draft_read "draft_read" = true) (k_draft_read : PySem.W.keepIn K (.ref f_draft_read) = true)
    {f_number_in : Addr} {od_number_in an_number_in : Option Addr} {sl_number_in : Array (Option Value)} {oc_number_in kV_number_in dc_number_in pm_number_in cd_number_in ct_number_in : Value}
    (a_number_in : PySem.W.nsIn K mainGlobals "number_in" = some (some (.ref f_number_in))) (l_number_in : K.lookup f_number_in = some ⟨oc_number_in, od_number_in, .func (PySem.W.fnOf "number_in" "number_in" (defArgs st_number_in) (defBody st_number_in) (defScope st_number_in) .none kV_number_in dc_number_in pm_number_in an_number_in cd_number_in ct_number_in), sl_number_in⟩) (e_number_in : PySem.W.codeIn K cd_number_in "number_in" = true) (k_number_in : PySem.W.keepIn K (.ref f_number_in) = true)
    {f_numbers_in : Addr} {od_numbers_in an_numbers_in : Option Addr} {sl_numbers_in : Array (Option Value)} {oc_numbers_in kV_numbers_in dc_numbers_in pm_numbers_in cd_numbers_in ct_numbers_in : Value}
    (a_numbers_in : PySem.W.nsIn K mainGlobals "numbers_in" = some (some (.ref f_numbers_in))) (l_numbers_in : K.lookup f_numbers_in = some ⟨oc_numbers_in, od_numbers_in, .func (PySem.W.fnOf "numbers_in" "numbers_in" (defArgs st_numbers_in) (defBody st_numbers_in) (defScope st_numbers_in) .none kV_numbers_in dc_numbers_in pm_numbers_in an_numbers_in cd_numbers_in ct_numbers_in), sl_numbers_in⟩) (e_numbers_in : PySem.W.codeIn K cd_numbers_in "numbers_in" = true) (k_numbers_in : PySem.W.keepIn K (.ref f_numbers_in) = true)
    {f_is_whole : Addr} {od_is_whole an_is_whole : Option Addr} {sl_is_whole : Array (Option Value)} {oc_is_whole kV_is_whole dc_is_whole pm_is_whole cd_is_whole ct_is_whole : Value}
    (a_is_whole : PySem.W.nsIn K mainGlobals "is_whole" = some (some (.ref f_is_whole))) (l_is_whole : K.lookup f_is_whole = some ⟨oc_is_whole, od_is_whole, .func (PySem.W.fnOf "is_whole" "is_whole" (defArgs st_is_whole) (defBody st_is_whole) (defScope st_is_whole) .none kV_is_whole dc_is_whole pm_is_whole an_is_whole cd_is_whole ct_is_whole), sl_is_whole⟩) (e_is_whole : PySem.W.codeIn K cd_is_whole "is_whole" = true) (k_is_whole : PySem.W.keepIn K (.ref f_is_whole) = true)
    {f_is_between : Addr} {od_is_between an_is_between : Option Addr} {sl_is_between : Array (Option Value)} {oc_is_between kV_is_between dc_is_between pm_is_between cd_is_between ct_is_between : Value}
    (a_is_between : PySem.W.nsIn K mainGlobals "is_between" = some (some (.ref f_is_between))) (l_is_between : K.lookup f_is_between = some ⟨oc_is_between, od_is_between, .func (PySem.W.fnOf "is_between" "is_between" (defArgs st_is_between) (defBody st_is_between) (defScope st_is_between) .none kV_is_between dc_is_between pm_is_between an_is_between cd_is_between ct_is_between), sl_is_between⟩) (e_is_between : PySem.W.codeIn K cd_is_between "is_between" = true) (k_is_between : PySem.W.keepIn K (.ref f_is_between) = true)
    {f_are_sizes : Addr} {od_are_sizes an_are_sizes : Option Addr} {sl_are_sizes : Array (Option Value)} {oc_are_sizes kV_are_sizes dc_are_sizes pm_are_sizes cd_are_sizes ct_are_sizes : Value}
    (a_are_sizes : PySem.W.nsIn K mainGlobals "are_sizes" = some (some (.ref f_are_sizes))) (l_are_sizes : K.lookup f_are_sizes = some ⟨oc_are_sizes, od_are_sizes, .func (PySem.W.fnOf "are_sizes" "are_sizes" (defArgs st_are_sizes) (defBody st_are_sizes) (defScope st_are_sizes) .none kV_are_sizes dc_are_sizes pm_are_sizes an_are_sizes cd_are_sizes ct_are_sizes), sl_are_sizes⟩) (e_are_sizes : PySem.W.codeIn K cd_are_sizes "are_sizes" = true) (k_are_sizes : PySem.W.keepIn K (.ref f_are_sizes) = true)
    {f_sizes_read : Addr} {od_sizes_read an_sizes_read : Option Addr} {sl_sizes_read : Array (Option Value)} {oc_sizes_read kV_sizes_read dc_sizes_read pm_sizes_read cd_sizes_read ct_sizes_read : Value}
    (a_sizes_read : PySem.W.nsIn K mainGlobals "sizes_read" = some (some (.ref f_sizes_read))) (l_sizes_read : K.lookup f_sizes_read = some ⟨oc_sizes_read, od_sizes_read, .func (PySem.W.fnOf "sizes_read" "sizes_read" (defArgs st_sizes_read) (defBody st_sizes_read) (defScope st_sizes_read) .none kV_sizes_read dc_sizes_read pm_sizes_read an_sizes_read cd_sizes_read ct_sizes_read), sl_sizes_read⟩) (e_sizes_read : PySem.W.codeIn K cd_sizes_read "sizes_read" = true) (k_sizes_read : PySem.W.keepIn K (.ref f_sizes_read) = true)
    {f_is_lot : Addr} {od_is_lot an_is_lot : Option Addr} {sl_is_lot : Array (Option Value)} {oc_is_lot kV_is_lot dc_is_lot pm_is_lot cd_is_lot ct_is_lot : Value}
    (a_is_lot : PySem.W.nsIn K mainGlobals "is_lot" = some (some (.ref f_is_lot))) (l_is_lot : K.lookup f_is_lot = some ⟨oc_is_lot, od_is_lot, .func (PySem.W.fnOf "is_lot" "is_lot" (defArgs st_is_lot) (defBody st_is_lot) (defScope st_is_lot) .none kV_is_lot dc_is_lot pm_is_lot an_is_lot cd_is_lot ct_is_lot), sl_is_lot⟩) (e_is_lot : PySem.W.codeIn K cd_is_lot "is_lot" = true) (k_is_lot : PySem.W.keepIn K (.ref f_is_lot) = true)
    {f_lot_read : Addr} {od_lot_read an_lot_read : Option Addr} {sl_lot_read : Array (Option Value)} {oc_lot_read kV_lot_read dc_lot_read pm_lot_read cd_lot_read ct_lot_read : Value}
    (a_lot_read : PySem.W.nsIn K mainGlobals "lot_read" = some (some (.ref f_lot_read))) (l_lot_read : K.lookup f_lot_read = some ⟨oc_lot_read, od_lot_read, .func (PySem.W.fnOf "lot_read" "lot_read" (defArgs st_lot_read) (defBody st_lot_read) (defScope st_lot_read) .none kV_lot_read dc_lot_read pm_lot_read an_lot_read cd_lot_read ct_lot_read), sl_lot_read⟩) (e_lot_read : PySem.W.codeIn K cd_lot_read "lot_read" = true) (k_lot_read : PySem.W.keepIn K (.ref f_lot_read) = true)
    {f_L_numbers : Addr} {od_L_numbers an_L_numbers : Option Addr} {sl_L_numbers : Array (Option Value)} {oc_L_numbers kV_L_numbers dc_L_numbers pm_L_numbers cd_L_numbers ct_L_numbers : Value}
    (a_L_numbers : PySem.W.nsIn K mainGlobals "_law_numbers" = some (some (.ref f_L_numbers))) (l_L_numbers : K.lookup f_L_numbers = some ⟨oc_L_numbers, od_L_numbers, .func (PySem.W.fnOf "_law_numbers" "_law_numbers" (defArgs st_L_numbers) (defBody st_L_numbers) (defScope st_L_numbers) .none kV_L_numbers dc_L_numbers pm_L_numbers an_L_numbers cd_L_numbers ct_L_numbers), sl_L_numbers⟩) (e_L_numbers : PySem.W.codeIn K cd_L_numbers "_law_numbers" = true) (k_L_numbers : PySem.W.keepIn K (.ref f_L_numbers) = true)
    {f_L_due : Addr} {od_L_due an_L_due : Option Addr} {sl_L_due : Array (Option Value)} {oc_L_due kV_L_due dc_L_due pm_L_due cd_L_due ct_L_due : Value}
    (a_L_due : PySem.W.nsIn K mainGlobals "_law_due" = some (some (.ref f_L_due))) (l_L_due : K.lookup f_L_due = some ⟨oc_L_due, od_L_due, .func (PySem.W.fnOf "_law_due" "_law_due" (defArgs st_L_due) (defBody st_L_due) (defScope st_L_due) .none kV_L_due dc_L_due pm_L_due an_L_due cd_L_due ct_L_due), sl_L_due⟩) (e_L_due : PySem.W.codeIn K cd_L_due "_law_due" = true) (k_L_due : PySem.W.keepIn K (.ref f_L_due) = true)
    {f_L_kind : Addr} {od_L_kind an_L_kind : Option Addr} {sl_L_kind : Array (Option Value)} {oc_L_kind kV_L_kind dc_L_kind pm_L_kind cd_L_kind ct_L_kind : Value}
    (a_L_kind : PySem.W.nsIn K mainGlobals "_law_kind" = some (some (.ref f_L_kind))) (l_L_kind : K.lookup f_L_kind = some ⟨oc_L_kind, od_L_kind, .func (PySem.W.fnOf "_law_kind" "_law_kind" (defArgs st_L_kind) (defBody st_L_kind) (defScope st_L_kind) .none kV_L_kind dc_L_kind pm_L_kind an_L_kind cd_L_kind ct_L_kind), sl_L_kind⟩) (e_L_kind : PySem.W.codeIn K cd_L_kind "_law_kind" = true) (k_L_kind : PySem.W.keepIn K (.ref f_L_kind) = true)
    {f_L_got : Addr} {od_L_got an_L_got : Option Addr} {sl_L_got : Array (Option Value)} {oc_L_got kV_L_got dc_L_got pm_L_got cd_L_got ct_L_got : Value}
    (a_L_got : PySem.W.nsIn K mainGlobals "_law_got" = some (some (.ref f_L_got))) (l_L_got : K.lookup f_L_got = some ⟨oc_L_got, od_L_got, .func (PySem.W.fnOf "_law_got" "_law_got" (defArgs st_L_got) (defBody st_L_got) (defScope st_L_got) .none kV_L_got dc_L_got pm_L_got an_L_got cd_L_got ct_L_got), sl_L_got⟩) (e_L_got : PySem.W.codeIn K cd_L_got "_law_got" = true) (k_L_got : PySem.W.keepIn K (.ref f_L_got) = true)
    {f_law : Addr} {od_law an_law : Option Addr} {sl_law : Array (Option Value)} {oc_law kV_law dc_law pm_law cd_law ct_law : Value}
    (a_law : PySem.W.nsIn K mainGlobals "law" = some (some (.ref f_law))) (l_law : K.lookup f_law = some ⟨oc_law, od_law, .func (PySem.W.fnOf "law" "law" (defArgs st_law) (defBody st_law) (defScope st_law) .none kV_law dc_law pm_law an_law cd_law ct_law), sl_law⟩) (e_law : PySem.W.codeIn K cd_law "law" = true) (k_law : PySem.W.keepIn K (.ref f_law) = true)
    (z_ValueError : PySem.W.nsIn K mainGlobals "ValueError" = some none)
    (z_all : PySem.W.nsIn K mainGlobals "all" = some none)
    (z_bool : PySem.W.nsIn K mainGlobals "bool" = some none)
    (z_enumerate : PySem.W.nsIn K mainGlobals "enumerate" = some none)
    (z_int : PySem.W.nsIn K mainGlobals "int" = some none)
    (z_isinstance : PySem.W.nsIn K mainGlobals "isinstance" = some none)
    (z_len : PySem.W.nsIn K mainGlobals "len" = some none)
    (z_list : PySem.W.nsIn K mainGlobals "list" = some none)
    (z_max : PySem.W.nsIn K mainGlobals "max" = some none)
    (z_min : PySem.W.nsIn K mainGlobals "min" = some none)
    (z_range : PySem.W.nsIn K mainGlobals "range" = some none)
    (z_repr : PySem.W.nsIn K mainGlobals "repr" = some none)
    (z_set : PySem.W.nsIn K mainGlobals "set" = some none)
    (z_sorted : PySem.W.nsIn K mainGlobals "sorted" = some none)
    (z_str : PySem.W.nsIn K mainGlobals "str" = some none)
    (z_tuple : PySem.W.nsIn K mainGlobals "tuple" = some none)
    (z_zip : PySem.W.nsIn K mainGlobals "zip" = some none)
    {t_EMPTY : Tok} (y_EMPTY : PySem.W.nsIn K mainGlobals "EMPTY" = some (some (.str "none" t_EMPTY)))
    {t_FIGURES : Tok} (y_FIGURES : PySem.W.nsIn K mainGlobals "FIGURES" = some (some (.str "0123456789" t_FIGURES)))
    {t_HUES : Tok} (y_HUES : PySem.W.nsIn K mainGlobals "HUES" = some (some (.int 4 t_HUES)))
    {t_LEAST_SIZE : Tok} (y_LEAST_SIZE : PySem.W.nsIn K mainGlobals "LEAST_SIZE" = some (some (.int 2 t_LEAST_SIZE)))
    {t_MOST_FIGURES : Tok} (y_MOST_FIGURES : PySem.W.nsIn K mainGlobals "MOST_FIGURES" = some (some (.int 30 t_MOST_FIGURES)))
    {t_MOST_PLACE : Tok} (y_MOST_PLACE : PySem.W.nsIn K mainGlobals "MOST_PLACE" = some (some (.int 39 t_MOST_PLACE)))
    {t_MOST_PLACES : Tok} (y_MOST_PLACES : PySem.W.nsIn K mainGlobals "MOST_PLACES" = some (some (.int 40 t_MOST_PLACES)))
    {t_MOST_SIZE : Tok} (y_MOST_SIZE : PySem.W.nsIn K mainGlobals "MOST_SIZE" = some (some (.int 8 t_MOST_SIZE)))
    {t_SIGNS : Tok} (y_SIGNS : PySem.W.nsIn K mainGlobals "SIGNS" = some (some (.str "0123." t_SIGNS)))
    {C_NoText : Addr} (xg_NoText : PySem.W.nsIn K mainGlobals "NoText" = some (some (.ref C_NoText))) (xx_NoText : PySem.W.excIn K C_NoText [.type "ValueError", .type "Exception", .type "BaseException", .type "object"] "ValueError.__new__" = true) (xk_NoText : PySem.W.keepIn K (.ref C_NoText) = true) (xb_NoText : PySem.W.subIn K (.ref C_NoText) (.type "BaseException") = some true) (xt_NoText : PySem.W.typeIn K (.ref C_NoText) = some (.type "type"))
    {N_NoStrip : Addr} {cl_NoStrip : Obj} (ng_NoStrip : PySem.W.nsIn K mainGlobals "NoStrip" = some (some (.ref N_NoStrip))) (nc_NoStrip : K.lookup N_NoStrip = some cl_NoStrip) (ni_NoStrip : isClsO cl_NoStrip = true) (nt_NoStrip : PySem.W.typeIn K (.ref N_NoStrip) = some (.type "type"))
    {N_NoSizes : Addr} {cl_NoSizes : Obj} (ng_NoSizes : PySem.W.nsIn K mainGlobals "NoSizes" = some (some (.ref N_NoSizes))) (nc_NoSizes : K.lookup N_NoSizes = some cl_NoSizes) (ni_NoSizes : isClsO cl_NoSizes = true) (nt_NoSizes : PySem.W.typeIn K (.ref N_NoSizes) = some (.type "type"))
    {N_NoNumber : Addr} {cl_NoNumber : Obj} (ng_NoNumber : PySem.W.nsIn K mainGlobals "NoNumber" = some (some (.ref N_NoNumber))) (nc_NoNumber : K.lookup N_NoNumber = some cl_NoNumber) (ni_NoNumber : isClsO cl_NoNumber = true) (nt_NoNumber : PySem.W.typeIn K (.ref N_NoNumber) = some (.type "type"))
    {N_NoPlace : Addr} {cl_NoPlace : Obj} (ng_NoPlace : PySem.W.nsIn K mainGlobals "NoPlace" = some (some (.ref N_NoPlace))) (nc_NoPlace : K.lookup N_NoPlace = some cl_NoPlace) (ni_NoPlace : isClsO cl_NoPlace = true) (nt_NoPlace : PySem.W.typeIn K (.ref N_NoPlace) = some (.type "type"))
    {N_NoHue : Addr} {cl_NoHue : Obj} (ng_NoHue : PySem.W.nsIn K mainGlobals "NoHue" = some (some (.ref N_NoHue))) (nc_NoHue : K.lookup N_NoHue = some cl_NoHue) (ni_NoHue : isClsO cl_NoHue = true) (nt_NoHue : PySem.W.typeIn K (.ref N_NoHue) = some (.type "type"))
    {N_NoDraft : Addr} {cl_NoDraft : Obj} (ng_NoDraft : PySem.W.nsIn K mainGlobals "NoDraft" = some (some (.ref N_NoDraft))) (nc_NoDraft : K.lookup N_NoDraft = some cl_NoDraft) (ni_NoDraft : isClsO cl_NoDraft = true) (nt_NoDraft : PySem.W.typeIn K (.ref N_NoDraft) = some (.type "type"))
    {N_NoPaper : Addr} {cl_NoPaper : Obj} (ng_NoPaper : PySem.W.nsIn K mainGlobals "NoPaper" = some (some (.ref N_NoPaper))) (nc_NoPaper : K.lookup N_NoPaper = some cl_NoPaper) (ni_NoPaper : isClsO cl_NoPaper = true) (nt_NoPaper : PySem.W.typeIn K (.ref N_NoPaper) = some (.type "type"))
    {N_NoFit : Addr} {cl_NoFit : Obj} (ng_NoFit : PySem.W.nsIn K mainGlobals "NoFit" = some (some (.ref N_NoFit))) (nc_NoFit : K.lookup N_NoFit = some cl_NoFit) (ni_NoFit : isClsO cl_NoFit = true) (nt_NoFit : PySem.W.typeIn K (.ref N_NoFit) = some (.type "type"))
    {N_TooGreat : Addr} {cl_TooGreat : Obj} (ng_TooGreat : PySem.W.nsIn K mainGlobals "TooGreat" = some (some (.ref N_TooGreat))) (nc_TooGreat : K.lookup N_TooGreat = some cl_TooGreat) (ni_TooGreat : isClsO cl_TooGreat = true) (nt_TooGreat : PySem.W.typeIn K (.ref N_TooGreat) = some (.type "type"))
    {N_NoLot : Addr} {cl_NoLot : Obj} (ng_NoLot : PySem.W.nsIn K mainGlobals "NoLot" = some (some (.ref N_NoLot))) (nc_NoLot : K.lookup N_NoLot = some cl_NoLot) (ni_NoLot : isClsO cl_NoLot = true) (nt_NoLot : PySem.W.typeIn K (.ref N_NoLot) = some (.type "type"))
    {N_NoRing : Addr} {cl_NoRing : Obj} (ng_NoRing : PySem.W.nsIn K mainGlobals "NoRing" = some (some (.ref N_NoRing))) (nc_NoRing : K.lookup N_NoRing = some cl_NoRing) (ni_NoRing : isClsO cl_NoRing = true) (nt_NoRing : PySem.W.typeIn K (.ref N_NoRing) = some (.type "type"))
    {N_NoRound : Addr} {cl_NoRound : Obj} (ng_NoRound : PySem.W.nsIn K mainGlobals "NoRound" = some (some (.ref N_NoRound))) (nc_NoRound : K.lookup N_NoRound = some cl_NoRound) (ni_NoRound : isClsO cl_NoRound = true) (nt_NoRound : PySem.W.typeIn K (.ref N_NoRound) = some (.type "type"))
    {N_NoStand : Addr} {cl_NoStand : Obj} (ng_NoStand : PySem.W.nsIn K mainGlobals "NoStand" = some (some (.ref N_NoStand))) (nc_NoStand : K.lookup N_NoStand = some cl_NoStand) (ni_NoStand : isClsO cl_NoStand = true) (nt_NoStand : PySem.W.typeIn K (.ref N_NoStand) = some (.type "type"))
    {N_NoText : Addr} {cl_NoText : Obj} (ng_NoText : PySem.W.nsIn K mainGlobals "NoText" = some (some (.ref N_NoText))) (nc_NoText : K.lookup N_NoText = some cl_NoText) (ni_NoText : isClsO cl_NoText = true) (nt_NoText : PySem.W.typeIn K (.ref N_NoText) = some (.type "type"))
    {N_NoDeed : Addr} {cl_NoDeed : Obj} (ng_NoDeed : PySem.W.nsIn K mainGlobals "NoDeed" = some (some (.ref N_NoDeed))) (nc_NoDeed : K.lookup N_NoDeed = some cl_NoDeed) (ni_NoDeed : isClsO cl_NoDeed = true) (nt_NoDeed : PySem.W.typeIn K (.ref N_NoDeed) = some (.type "type"))
    {N_NoLine : Addr} {cl_NoLine : Obj} (ng_NoLine : PySem.W.nsIn K mainGlobals "NoLine" = some (some (.ref N_NoLine))) (nc_NoLine : K.lookup N_NoLine = some cl_NoLine) (ni_NoLine : isClsO cl_NoLine = true) (nt_NoLine : PySem.W.typeIn K (.ref N_NoLine) = some (.type "type"))
    {N_HueError : Addr} {cl_HueError : Obj} (ng_HueError : PySem.W.nsIn K mainGlobals "HueError" = some (some (.ref N_HueError))) (nc_HueError : K.lookup N_HueError = some cl_HueError) (ni_HueError : isClsO cl_HueError = true) (nt_HueError : PySem.W.typeIn K (.ref N_HueError) = some (.type "type"))
    (nb_HueError : PySem.W.subIn K (.ref N_HueError) (.type "BaseException") = some true) (nd_HueError : PySem.W.hasDictIn K N_HueError = true) (vh_1 : PySem.W.specialIn K (.builtin "object.__class__") "__get__" = some (some (.builtin "getset_descriptor.__get__"))) (vh_2 : PySem.W.takesIn K (.builtin "object.__class__") = some true)
    (u1_NoText : PySem.W.findIn K (.ref C_NoText) "__getattribute__" = some (some (.builtin "BaseException.__getattribute__"))) (u2_NoText : PySem.W.findIn K (.ref C_NoText) "__getattr__" = some none) (u3_NoText : PySem.W.hasDictIn K C_NoText = true) (u4_NoText : PySem.W.findIn K (.ref C_NoText) "__class__" = some (some (.builtin "object.__class__"))) (u5_NoText : PySem.W.mroIn K C_NoText (.type "object") = some true) (u6_NoText : PySem.W.subIn K (.ref C_NoText) (.type "ValueError") = some true) (u7_NoText : PySem.W.subIn K (.ref C_NoText) (.ref N_HueError) = some true) (u8_NoText : PySem.W.subIn K (.ref C_NoText) (.ref C_NoText) = some true)
    (s_NoText_NoStrip : PySem.W.subIn K (.ref C_NoText) (.ref N_NoStrip) = some false)
    (s_NoText_NoSizes : PySem.W.subIn K (.ref C_NoText) (.ref N_NoSizes) = some false)
    (s_NoText_NoNumber : PySem.W.subIn K (.ref C_NoText) (.ref N_NoNumber) = some false)
    (s_NoText_NoPlace : PySem.W.subIn K (.ref C_NoText) (.ref N_NoPlace) = some false)
    (s_NoText_NoHue : PySem.W.subIn K (.ref C_NoText) (.ref N_NoHue) = some false)
    (s_NoText_NoDraft : PySem.W.subIn K (.ref C_NoText) (.ref N_NoDraft) = some false)
    (s_NoText_NoPaper : PySem.W.subIn K (.ref C_NoText) (.ref N_NoPaper) = some false)
    (s_NoText_NoFit : PySem.W.subIn K (.ref C_NoText) (.ref N_NoFit) = some false)
    (s_NoText_TooGreat : PySem.W.subIn K (.ref C_NoText) (.ref N_TooGreat) = some false)
    (s_NoText_NoLot : PySem.W.subIn K (.ref C_NoText) (.ref N_NoLot) = some false)
    (s_NoText_NoRing : PySem.W.subIn K (.ref C_NoText) (.ref N_NoRing) = some false)
    (s_NoText_NoRound : PySem.W.subIn K (.ref C_NoText) (.ref N_NoRound) = some false)
    (s_NoText_NoStand : PySem.W.subIn K (.ref C_NoText) (.ref N_NoStand) = some false)
    (s_NoText_NoText : PySem.W.subIn K (.ref C_NoText) (.ref N_NoText) = some true)
    (s_NoText_NoDeed : PySem.W.subIn K (.ref C_NoText) (.ref N_NoDeed) = some false)
    (s_NoText_NoLine : PySem.W.subIn K (.ref C_NoText) (.ref N_NoLine) = some false)
    (fa_strip_read : f_strip_read = Tb.fa 0)
    (fa_draft_read : f_draft_read = Tb.fa 1)
    (fa_sizes_read : f_sizes_read = Tb.fa 2)
    (fa_lot_read : f_lot_read = Tb.fa 3)
    {cc_law Ta_law : Addr} {co_law : Obj} (q_law : cd_law = .ref cc_law) (r_law : K.lookup cc_law = some co_law) (p_law : tabP co_law = some Ta_law) (m_law : (Ta_law, lamQ "law") ∈ Tb.T)
    (nodup : (Tb.T.map (·.1)).Nodup)
    : ∃ fd : FuncData, (∀ (s : Shared) (u : Value), BindsTo s fd ⟨[u], []⟩ [("_law_script", u)]) ∧ ∀ base : Heap, K.In base → base.Ns mainGlobals mg → (∀ p ∈ ([(cc_law, Ta_law)] : List (Addr × Addr)), LamX.TabB base mg p.1 p.2) → GOk l.prog w K mg base true 9 fa fd ["_law_script"] (spD K mg false 1 D_law) := by
  have T : Tx K mg := ⟨PySem.W.mg_none_of X G z_ValueError, PySem.W.mg_none_of X G z_all, PySem.W.mg_none_of X G z_bool, PySem.W.mg_none_of X G z_enumerate, PySem.W.mg_none_of X G z_int, PySem.W.mg_none_of X G z_isinstance, PySem.W.mg_none_of X G z_len, PySem.W.mg_none_of X G z_list, PySem.W.mg_none_of X G z_max, PySem.W.mg_none_of X G z_min, PySem.W.mg_none_of X G z_range, PySem.W.mg_none_of X G z_repr, PySem.W.mg_none_of X G z_set, PySem.W.mg_none_of X G z_sorted, PySem.W.mg_none_of X G z_str, PySem.W.mg_none_of X G z_tuple, PySem.W.mg_none_of X G z_zip, ⟨_, PySem.W.mg_of X G y_EMPTY⟩, ⟨_, PySem.W.mg_of X G y_FIGURES⟩, ⟨_, PySem.W.mg_of X G y_HUES⟩, ⟨_, PySem.W.mg_of X G y_LEAST_SIZE⟩, ⟨_, PySem.W.mg_of X G y_MOST_FIGURES⟩, ⟨_, PySem.W.mg_of X G y_MOST_PLACE⟩, ⟨_, PySem.W.mg_of X G y_MOST_PLACES⟩, ⟨_, PySem.W.mg_of X G y_MOST_SIZE⟩, ⟨_, PySem.W.mg_of X G y_SIGNS⟩, ⟨_, PySem.W.mg_of X G xg_NoText, xx_NoText, xk_NoText, xb_NoText, xt_NoText⟩, ⟨_, PySem.W.mg_of X G ng_NoStrip⟩, ⟨_, PySem.W.mg_of X G ng_NoSizes⟩, ⟨_, PySem.W.mg_of X G ng_NoNumber⟩, ⟨_, PySem.W.mg_of X G ng_NoPlace⟩, ⟨_, PySem.W.mg_of X G ng_NoHue⟩, ⟨_, PySem.W.mg_of X G ng_NoDraft⟩, ⟨_, PySem.W.mg_of X G ng_NoPaper⟩, ⟨_, PySem.W.mg_of X G ng_NoFit⟩, ⟨_, PySem.W.mg_of X G ng_TooGreat⟩, ⟨_, PySem.W.mg_of X G ng_NoLot⟩, ⟨_, PySem.W.mg_of X G ng_NoRing⟩, ⟨_, PySem.W.mg_of X G ng_NoRound⟩, ⟨_, PySem.W.mg_of X G ng_NoStand⟩, ⟨_, PySem.W.mg_of X G ng_NoText⟩, ⟨_, PySem.W.mg_of X G ng_NoDeed⟩, ⟨_, PySem.W.mg_of X G ng_NoLine⟩, ⟨_, PySem.W.mg_of X G ng_HueError⟩, fa_strip_read ▸ PySem.W.mg_of X G a_strip_read, fa_draft_read ▸ PySem.W.mg_of X G a_draft_read, fa_sizes_read ▸ PySem.W.mg_of X G a_sizes_read, fa_lot_read ▸ PySem.W.mg_of X G a_lot_read⟩
  have kc : Kcs K mg NS XS := (List.forall_mem_cons.mpr ⟨⟨C_NoText, kc_mk (PySem.W.mg_of X G xg_NoText) ⟨u1_NoText, u2_NoText, xb_NoText, u3_NoText, u4_NoText, vh_1, vh_2, u5_NoText⟩ (List.forall_mem_cons.mpr ⟨⟨_, _, PySem.W.mg_of X G ng_NoStrip, nc_NoStrip, ni_NoStrip, nt_NoStrip, (s_NoText_NoStrip).trans (by decide)⟩, List.forall_mem_cons.mpr ⟨⟨_, _, PySem.W.mg_of X G ng_NoSizes, nc_NoSizes, ni_NoSizes, nt_NoSizes, (s_NoText_NoSizes).trans (by decide)⟩, List.forall_mem_cons.mpr ⟨⟨_, _, PySem.W.mg_of X G ng_NoNumber, nc_NoNumber, ni_NoNumber, nt_NoNumber, (s_NoText_NoNumber).trans (by decide)⟩, List.forall_mem_cons.mpr ⟨⟨_, _, PySem.W.mg_of X G ng_NoPlace, nc_NoPlace, ni_NoPlace, nt_NoPlace, (s_NoText_NoPlace).trans (by decide)⟩, List.forall_mem_cons.mpr ⟨⟨_, _, PySem.W.mg_of X G ng_NoHue, nc_NoHue, ni_NoHue, nt_NoHue, (s_NoText_NoHue).trans (by decide)⟩, List.forall_mem_cons.mpr ⟨⟨_, _, PySem.W.mg_of X G ng_NoDraft, nc_NoDraft, ni_NoDraft, nt_NoDraft, (s_NoText_NoDraft).trans (by decide)⟩, List.forall_mem_cons.mpr ⟨⟨_, _, PySem.W.mg_of X G ng_NoPaper, nc_NoPaper, ni_NoPaper, nt_NoPaper, (s_NoText_NoPaper).trans (by decide)⟩, List.forall_mem_cons.mpr ⟨⟨_, _, PySem.W.mg_of X G ng_NoFit, nc_NoFit, ni_NoFit, nt_NoFit, (s_NoText_NoFit).trans (by decide)⟩, List.forall_mem_cons.mpr ⟨⟨_, _, PySem.W.mg_of X G ng_TooGreat, nc_TooGreat, ni_TooGreat, nt_TooGreat, (s_NoText_TooGreat).trans (by decide)⟩, List.forall_mem_cons.mpr ⟨⟨_, _, PySem.W.mg_of X G ng_NoLot, nc_NoLot, ni_NoLot, nt_NoLot, (s_NoText_NoLot).trans (by decide)⟩, List.forall_mem_cons.mpr ⟨⟨_, _, PySem.W.mg_of X G ng_NoRing, nc_NoRing, ni_NoRing, nt_NoRing, (s_NoText_NoRing).trans (by decide)⟩, List.forall_mem_cons.mpr ⟨⟨_, _, PySem.W.mg_of X G ng_NoRound, nc_NoRound, ni_NoRound, nt_NoRound, (s_NoText_NoRound).trans (by decide)⟩, List.forall_mem_cons.mpr ⟨⟨_, _, PySem.W.mg_of X G ng_NoStand, nc_NoStand, ni_NoStand, nt_NoStand, (s_NoText_NoStand).trans (by decide)⟩, List.forall_mem_cons.mpr ⟨⟨_, _, PySem.W.mg_of X G ng_NoText, nc_NoText, ni_NoText, nt_NoText, (s_NoText_NoText).trans (by decide)⟩, List.forall_mem_cons.mpr ⟨⟨_, _, PySem.W.mg_of X G ng_NoDeed, nc_NoDeed, ni_NoDeed, nt_NoDeed, (s_NoText_NoDeed).trans (by decide)⟩, List.forall_mem_cons.mpr ⟨⟨_, _, PySem.W.mg_of X G ng_NoLine, nc_NoLine, ni_NoLine, nt_NoLine, (s_NoText_NoLine).trans (by decide)⟩, fun _ h => nomatch h⟩⟩⟩⟩⟩⟩⟩⟩⟩⟩⟩⟩⟩⟩⟩⟩) u8_NoText u6_NoText (PySem.W.mg_of X G ng_HueError) nb_HueError nd_HueError nt_HueError u7_NoText⟩, fun _ h => nomatch h⟩)
  have d_L_pen : Df K mg "_law_pen" st_L_pen ["_law_cell"] := df_mk (st := st_L_pen) (ps := ["_law_cell"]) X G a_L_pen l_L_pen e_L_pen k_L_pen (fun _ _ _ _ _ _ us hl => match us, hl with | [_], _ => rfl)
  have d_L_cell_at : Df K mg "_law_cell_at" st_L_cell_at ["_law_script", "_law_k"] := df_mk (st := st_L_cell_at) (ps := ["_law_script", "_law_k"]) X G a_L_cell_at l_L_cell_at e_L_cell_at k_L_cell_at (fun _ _ _ _ _ _ us hl => match us, hl with | [_, _], _ => rfl)
  have d_L_draw : Df K mg "_law_draw" st_L_draw ["_law_pen_here", "_law_bound"] := df_mk (st := st_L_draw) (ps := ["_law_pen_here", "_law_bound"]) X G a_L_draw l_L_draw e_L_draw k_L_draw (fun _ _ _ _ _ _ us hl => match us, hl with | [_, _], _ => rfl)
  have d_L_hues_text : Df K mg "_law_hues_text" st_L_hues_text ["_law_some"] := df_mk (st := st_L_hues_text) (ps := ["_law_some"]) X G a_L_hues_text l_L_hues_text e_L_hues_text k_L_hues_text (fun _ _ _ _ _ _ us hl => match us, hl with | [_], _ => rfl)
  have d_L_numbers_text : Df K mg "_law_numbers_text" st_L_numbers_text ["_law_some"] := df_mk (st := st_L_numbers_text) (ps := ["_law_some"]) X G a_L_numbers_text l_L_numbers_text e_L_numbers_text k_L_numbers_text (fun _ _ _ _ _ _ us hl => match us, hl with | [_], _ => rfl)
  have d_hues_in : Df K mg "hues_in" st_hues_in ["text", "signs"] := df_mk (st := st_hues_in) (ps := ["text", "signs"]) X G a_hues_in l_hues_in e_hues_in k_hues_in (fun _ _ _ _ _ _ us hl => match us, hl with | [_, _], _ => rfl)
  have d_strip_read : Df K mg "strip_read" st_strip_read ["text"] := df_mk (st := st_strip_read) (ps := ["text"]) X G a_strip_read l_strip_read e_strip_read k_strip_read (fun _ _ _ _ _ _ us hl => match us, hl with | [_], _ => rfl)
  have d_draft_read : Df K mg "draft_read" st_draft_read ["text"] := df_mk (st := st_draft_read) (ps := ["text"]) X G a_draft_read l_draft_read e_draft_read k_draft_read (fun _ _ _ _ _ _ us hl => match us, hl with | [_], _ => rfl)
  have d_number_in : Df K mg "number_in" st_number_in ["word"] := df_mk (st := st_number_in) (ps := ["word"]) X G a_number_in l_number_in e_number_in k_number_in (fun _ _ _ _ _ _ us hl => match us, hl with | [_], _ => rfl)
  have d_numbers_in : Df K mg "numbers_in" st_numbers_in ["text"] := df_mk (st := st_numbers_in) (ps := ["text"]) X G a_numbers_in l_numbers_in e_numbers_in k_numbers_in (fun _ _ _ _ _ _ us hl => match us, hl with | [_], _ => rfl)
  have d_is_whole : Df K mg "is_whole" st_is_whole ["thing"] := df_mk (st := st_is_whole) (ps := ["thing"]) X G a_is_whole l_is_whole e_is_whole k_is_whole (fun _ _ _ _ _ _ us hl => match us, hl with | [_], _ => rfl)
  have d_is_between : Df K mg "is_between" st_is_between ["thing", "least", "most"] := df_mk (st := st_is_between) (ps := ["thing", "least", "most"]) X G a_is_between l_is_between e_is_between k_is_between (fun _ _ _ _ _ _ us hl => match us, hl with | [_, _, _], _ => rfl)
  have d_are_sizes : Df K mg "are_sizes" st_are_sizes ["thing"] := df_mk (st := st_are_sizes) (ps := ["thing"]) X G a_are_sizes l_are_sizes e_are_sizes k_are_sizes (fun _ _ _ _ _ _ us hl => match us, hl with | [_], _ => rfl)
  have d_sizes_read : Df K mg "sizes_read" st_sizes_read ["text"] := df_mk (st := st_sizes_read) (ps := ["text"]) X G a_sizes_read l_sizes_read e_sizes_read k_sizes_read (fun _ _ _ _ _ _ us hl => match us, hl with | [_], _ => rfl)
  have d_is_lot : Df K mg "is_lot" st_is_lot ["thing"] := df_mk (st := st_is_lot) (ps := ["thing"]) X G a_is_lot l_is_lot e_is_lot k_is_lot (fun _ _ _ _ _ _ us hl => match us, hl with | [_], _ => rfl)
  have d_lot_read : Df K mg "lot_read" st_lot_read ["text"] := df_mk (st := st_lot_read) (ps := ["text"]) X G a_lot_read l_lot_read e_lot_read k_lot_read (fun _ _ _ _ _ _ us hl => match us, hl with | [_], _ => rfl)
  have d_L_numbers : Df K mg "_law_numbers" st_L_numbers ["_law_text"] := df_mk (st := st_L_numbers) (ps := ["_law_text"]) X G a_L_numbers l_L_numbers e_L_numbers k_L_numbers (fun _ _ _ _ _ _ us hl => match us, hl with | [_], _ => rfl)
  have d_L_due : Df K mg "_law_due" st_L_due ["_law_sort", "_law_text"] := df_mk (st := st_L_due) (ps := ["_law_sort", "_law_text"]) X G a_L_due l_L_due e_L_due k_L_due (fun _ _ _ _ _ _ us hl => match us, hl with | [_, _], _ => rfl)
  have d_L_kind : Df K mg "_law_kind" st_L_kind ["_law_e"] := df_mk (st := st_L_kind) (ps := ["_law_e"]) X G a_L_kind l_L_kind e_L_kind k_L_kind (fun _ _ _ _ _ _ us hl => match us, hl with | [_], _ => rfl)
  have d_L_got : Df K mg "_law_got" st_L_got ["_law_call"] := df_mk (st := st_L_got) (ps := ["_law_call"]) X G a_L_got l_L_got e_L_got k_L_got (fun _ _ _ _ _ _ us hl => match us, hl with | [_], _ => rfl)
  have d_law := dfE_mk  (st := st_law) (ps := ["_law_script"]) X G a_law l_law e_law k_law (fun _ _ _ _ _ _ us hl => match us, hl with | [_], _ => rfl)
  obtain ⟨f, fd, Fl, g, _, bb, hcode⟩ := d_law
  rw [hfa] at g
  cases g
  refine ⟨fd, fun s u => bb s [u] rfl, fun base _ _ tabs => ?_⟩
  have c_L_pen := ok_L_pen (P := l.prog) (w := w) (base := base) T d_L_pen
  have c_L_cell_at := ok_L_cell_at (P := l.prog) (w := w) (base := base) T d_L_cell_at
  have c_L_draw := ok_L_draw (P := l.prog) (w := w) (base := base) T d_L_draw
  have c_L_hues_text := ok_L_hues_text (P := l.prog) (w := w) (base := base) T d_L_hues_text
  have c_L_numbers_text := ok_L_numbers_text (P := l.prog) (w := w) (base := base) T d_L_numbers_text
  have c_hues_in := ok_hues_in (P := l.prog) (w := w) (base := base) T d_hues_in
  have c_strip_read := ok_strip_read (P := l.prog) (w := w) (base := base) T d_strip_read c_hues_in
  have c_draft_read := ok_draft_read (P := l.prog) (w := w) (base := base) T d_draft_read c_hues_in
  have c_number_in := ok_number_in (P := l.prog) (w := w) (base := base) T d_number_in
  have c_numbers_in := ok_numbers_in (P := l.prog) (w := w) (base := base) T d_numbers_in c_number_in
  have c_is_whole := ok_is_whole (P := l.prog) (w := w) (base := base) T d_is_whole
  have c_is_between := ok_is_between (P := l.prog) (w := w) (base := base) T d_is_between c_is_whole
  have c_are_sizes := ok_are_sizes (P := l.prog) (w := w) (base := base) T d_are_sizes c_is_between
  have c_sizes_read := ok_sizes_read (P := l.prog) (w := w) (base := base) T d_sizes_read c_numbers_in c_are_sizes
  have c_is_lot := ok_is_lot (P := l.prog) (w := w) (base := base) T d_is_lot c_is_between
  have c_lot_read := ok_lot_read (P := l.prog) (w := w) (base := base) T d_lot_read c_numbers_in c_is_lot
  have c_L_numbers := ok_L_numbers (P := l.prog) (w := w) (base := base) T d_L_numbers
  have c_L_due := ok_L_due (P := l.prog) (w := w) (base := base) T d_L_due c_L_numbers
  have c_L_kind := ok_L_kind (P := l.prog) (w := w) (base := base) T kc d_L_kind
  have c_L_got := ok_L_got (P := l.prog) (w := w) (base := base) T kc d_L_got c_L_kind
  have c_fn1 : CdV l.prog w K mg base 4 [0, 1, 2, 3] 1 D_fn1 := (cdv_cons c_strip_read T.f_strip_read rfl (cdv_cons c_draft_read T.f_draft_read rfl (cdv_cons c_sizes_read T.f_sizes_read rfl (cdv_cons c_lot_read T.f_lot_read rfl cdv_nil))))
  exact ok_law (cc_law := cc_law) (Ta_law := Ta_law) T Fl (hcode.trans q_law) (tabs (cc_law, Ta_law) (by simp)) m_law (tb_uniq nodup m_law) c_L_pen c_L_cell_at c_L_draw c_L_hues_text c_L_numbers_text c_L_due c_L_got c_fn1
end Ev

namespace Ev
open PySem (Str PyData)
/-! ### is_strip -/
def btw (d : D) (a b : Int) : Bool := match d with
  | .int i => decide (a ≤ i) && decide (i ≤ b)
  | _ => false
theorem is_whole_eq {d : D} (h : d.kn) : D_is_whole [d] = pure (.bl (match d with | .int _ => true | _ => false)) := by
  rw [D_is_whole_eq]
  unfold B_is_whole
  cases d <;> first | exact h.elim | rfl
theorem is_between_eq {d : D} (h : d.kn) (a b : Int) : D_is_between [d, .int a, .int b] = pure (.bl (btw d a b)) := by
  rw [D_is_between_eq]
  unfold B_is_between
  simp [-bind_pure_comp, is_whole_eq h]
  cases d with
  | int i =>
    by_cases h1 : a ≤ i
    · simp [-bind_pure_comp, btw, h1]
    · simp [-bind_pure_comp, btw, h1]
  | _ => simp [-bind_pure_comp, btw]
def isStrip : D → Bool
  | .tup xs => decide (xs.length ≤ 40) && xs.all fun x => btw x 0 3
  | _ => false
/-! ### rows -/
def Dr (p : Nat × Nat) : D := .tup [.int p.1, .int p.2]
def rowsAt (n s f : Nat) : List (Nat × Nat) := (List.range ((n - 1 - f) / (s - 1))).map fun k => (f, k + 1)
def rowsTo (n s i : Nat) : List (Nat × Nat) := (List.range i).flatMap (rowsAt n s)
def rowsL (n s : Nat) : List (Nat × Nat) := rowsTo n s n
theorem rowsTo_succ (n s i : Nat) : rowsTo n s (i + 1) = rowsTo n s i ++ rowsAt n s i := by
  unfold rowsTo
  rw [List.range_succ, List.flatMap_append]
  simp
theorem rowsAt_len (n s f : Nat) : (rowsAt n s f).length ≤ n := by
  unfold rowsAt
  rw [List.length_map, List.length_range]
  exact Nat.le_trans (Nat.div_le_self _ _) (by omega)
theorem rowsTo_len (n s : Nat) : ∀ i : Nat, (rowsTo n s i).length ≤ i * n
  | 0 => Nat.zero_le _
  | i + 1 => by
    rw [rowsTo_succ, List.length_append, Nat.succ_mul]
    exact Nat.add_le_add (rowsTo_len n s i) (rowsAt_len n s i)
theorem rowsTo_small {n : Nat} (s : Nat) {i : Nat} (hn : n ≤ 1000) (hi : i ≤ n) : (rowsTo n s i).length ≤ 1000000 :=
  Nat.le_trans (rowsTo_len n s i) (Nat.le_trans (Nat.mul_le_mul hi (Nat.le_refl n)) (Nat.mul_le_mul hn hn))
theorem rows_in {n s : Nat} {p : Nat × Nat} (hs : 2 ≤ s) (h : p ∈ rowsL n s) : p.1 + (s - 1) * p.2 < n ∧ 1 ≤ p.2 := by
  unfold rowsL rowsTo at h
  rw [List.mem_flatMap] at h
  obtain ⟨f, hf, h⟩ := h
  rw [List.mem_range] at hf
  unfold rowsAt at h
  rw [List.mem_map] at h
  obtain ⟨k, hk, rfl⟩ := h
  rw [List.mem_range] at hk
  have : (k + 1) * (s - 1) ≤ n - 1 - f := (Nat.le_div_iff_mul_le (by omega)).mp hk
  rw [Nat.mul_comm] at this
  exact ⟨by show f + (s - 1) * (k + 1) < n; omega, Nat.succ_pos k⟩
theorem rowsAt_map (n s f : Nat) : (rowsAt n s f).map Dr = (List.range ((n - 1 - f) / (s - 1))).map fun k : Nat => D.tup [.int f, .int (1 + k)] := by
  unfold rowsAt
  rw [List.map_map]
  apply List.map_congr_left
  intro k _
  show D.tup [.int f, .int ((k + 1 : Nat) : Int)] = _
  rw [show ((k + 1 : Nat) : Int) = 1 + (k : Int) by omega]
/-- the places of a row -/
def places (p : Nat × Nat) (s : Nat) : List Int := (List.range s).map fun k => ((p.1 + k * p.2 : Nat) : Int)
theorem places_len (p : Nat × Nat) (s : Nat) : (places p s).length = s := by
  unfold places
  rw [List.length_map, List.length_range]
theorem ix_Dr0 (p : Nat × Nat) : D.ix (Dr p) (.int 0) = pure (.int p.1) := rfl
theorem ix_Dr1 (p : Nat × Nat) : D.ix (Dr p) (.int 1) = pure (.int p.2) := rfl
theorem places_lt {n s : Nat} {p : Nat × Nat} (h : p.1 + (s - 1) * p.2 < n) {k : Nat} (hk : k < s) : p.1 + k * p.2 < n :=
  Nat.lt_of_le_of_lt (Nat.add_le_add_left (Nat.mul_le_mul_right _ (by omega)) _) h
/-! ### sizes, what fits -/
def tn (l : List Nat) : D := .tup (l.map fun k : Nat => .int k)
theorem tn_ti (l : List Nat) : tn l = ti (l.map fun k : Nat => (k : Int)) := by
  unfold tn ti
  rw [List.map_map]
  rfl
def hasB (l : List Int) (s : Nat) (h : Int) (p : Nat × Nat) : Bool := (List.range s).all fun k => decide (l.getD (p.1 + k * p.2) 0 = h)
/-- the rows of one hue, hue by hue -/
def wrongAt (sz : List Nat) (l : List Int) (h : Nat) : List (Nat × Nat) := (rowsL l.length (sz.getD h 0)).filter (hasB l (sz.getD h 0) h)
def wrongTo (sz : List Nat) (l : List Int) (i : Nat) : List (Nat × Nat) := (List.range i).flatMap (wrongAt sz l)
def pairI (p : Nat × Nat) : List Int := [(p.1 : Int), (p.2 : Int)]
def wrongS (sz : List Nat) (l : List Int) : List (List Int) := sortI ((wrongTo sz l sz.length).map pairI)
theorem wrongTo_succ (sz : List Nat) (l : List Int) (i : Nat) : wrongTo sz l (i + 1) = wrongTo sz l i ++ wrongAt sz l i := by
  unfold wrongTo
  rw [List.range_succ, List.flatMap_append]
  simp
theorem wrongAt_len {sz : List Nat} {l : List Int} (h : Nat) (hl : l.length ≤ 100) : (wrongAt sz l h).length ≤ 10000 := by
  refine Nat.le_trans (List.length_filter_le _ _) (Nat.le_trans (rowsTo_len _ _ _) ?_)
  exact Nat.mul_le_mul hl hl
theorem wrongTo_len {sz : List Nat} {l : List Int} (hl : l.length ≤ 100) : ∀ i : Nat, (wrongTo sz l i).length ≤ i * 10000
  | 0 => Nat.zero_le _
  | i + 1 => by
    rw [wrongTo_succ, List.length_append, Nat.succ_mul]
    exact Nat.add_le_add (wrongTo_len hl i) (wrongAt_len i hl)
theorem sortT_Dr (rs : List (Nat × Nat)) : D.sortT (.lst (rs.map Dr)) = pure ((sortI (rs.map pairI)).map ti) := by
  have e : numsL (rs.map Dr) = some (rs.map pairI) := by
    induction rs with
    | nil => rfl
    | cons p r ih =>
      rw [List.map_cons, numsL, ih]
      rfl
  show (ofO (numsL _) >>= _) = _
  rw [e]
  show (guard _ >>= fun _ => _) = _
  rw [guard_bind]
  · rfl
  · right
    intro l hl
    obtain ⟨p, _, rfl⟩ := List.mem_map.mp hl
    exact List.cons_ne_nil _ _
/-- sizes as they should be -/
structure Szs (sz : List Nat) : Prop where
  pos : 1 ≤ sz.length
  few : sz.length ≤ 4
  ge : ∀ s ∈ sz, 2 ≤ s
  le : ∀ s ∈ sz, s ≤ 8
theorem Szs.at {sz : List Nat} (z : Szs sz) {h : Nat} (hh : h < sz.length) : 2 ≤ sz.getD h 0 ∧ sz.getD h 0 ≤ 8 := by
  rw [List.getD_eq_getElem?_getD, List.getElem?_eq_getElem hh]
  exact ⟨z.ge _ (List.getElem_mem hh), z.le _ (List.getElem_mem hh)⟩
theorem tn_get {sz : List Nat} {i : Nat} {x : D} (h : (sz.map fun k : Nat => D.int k)[i]? = some x) : i < sz.length ∧ x = .int (sz.getD i 0 : Nat) := by
  rw [List.getElem?_map, Option.map_eq_some_iff] at h
  obtain ⟨k, e, rfl⟩ := h
  refine ⟨(List.getElem?_eq_some_iff.mp e).1, ?_⟩
  rw [List.getD_eq_getElem?_getD, e]
  rfl
theorem len_ti (l : List Int) : D.len (ti l) = pure (.int l.length) := by unfold ti; simp
theorem len_tn (l : List Nat) : D.len (tn l) = pure (.int l.length) := by unfold tn; simp
/-- the places whose hues have no size -/
def strange (n : Nat) (l : List Int) : List Int := ((List.range l.length).filter fun i => decide ((n : Int) ≤ l.getD i 0)).map fun i : Nat => (i : Int)
theorem ti_get {l : List Int} {i : Nat} {x : D} (h : (l.map D.int)[i]? = some x) : i < l.length ∧ x = .int (l.getD i 0) := by
  rw [List.getElem?_map, Option.map_eq_some_iff] at h
  obtain ⟨k, e, rfl⟩ := h
  refine ⟨(List.getElem?_eq_some_iff.mp e).1, ?_⟩
  rw [List.getD_eq_getElem?_getD, e]
  rfl
theorem strange_list (n : Nat) (l : List Int) : ((List.range l.length).filter fun i => decide ((n : Int) ≤ l.getD i 0)).map (fun i : Nat => D.int i) = (strange n l).map D.int := by
  unfold strange
  rw [List.map_map]
  rfl
def areB : D → Bool
  | .tup xs => decide (1 ≤ xs.length) && decide (xs.length ≤ 4) && xs.all fun x => btw x 2 8
  | _ => false
theorem are_sizes_eq {d : D} (h : d.plain true = true) : D_are_sizes [d] = pure (.bl (areB d)) := by
  rw [D_are_sizes_eq]
  unfold B_are_sizes
  cases d with
  | tup xs =>
    have hk : ∀ x ∈ xs, x.kn := fun x hx => kn_of_plain (plains_mem (by simpa [D.plain] using h) x hx)
    by_cases e1 : 1 ≤ xs.length
    · by_cases e : xs.length ≤ 4
      · have e2 : (xs.length : Int) ≤ 4 := by omega
        have e3 : (1 : Int) ≤ xs.length := by omega
        simp [-bind_pure_comp, e2, e3]
        rw [lcF_map1 (fun x => .bl (btw x 2 8)) (by omega) (fun x hx => by simp [-bind_pure_comp, is_between_eq (hk x hx)])]
        simp [-bind_pure_comp, all_map, e1, e, areB]
      · have e2 : ¬ (xs.length : Int) ≤ 4 := by omega
        have e3 : (1 : Int) ≤ xs.length := by omega
        simp [-bind_pure_comp, e2, e3, e, areB]
    · have e3 : ¬ (1 : Int) ≤ xs.length := by omega
      simp [-bind_pure_comp, e3, e1, areB]
  | _ => first | (simp [D.plain] at h; done) | simp [-bind_pure_comp, areB]
theorem plain_tn (k : Bool) (l : List Nat) : (tn l).plain k = true := by
  rw [tn_ti]
  exact plain_ti k _
/-! ### rows through a place -/
theorem rows_mem {n s : Nat} (hs : 2 ≤ s) {p : Nat × Nat} : p ∈ rowsL n s ↔ p.1 + (s - 1) * p.2 < n ∧ 1 ≤ p.2 := by
  constructor
  · exact rows_in hs
  · rintro ⟨h1, h2⟩
    unfold rowsL rowsTo
    rw [List.mem_flatMap]
    refine ⟨p.1, List.mem_range.mpr (by omega), ?_⟩
    unfold rowsAt
    rw [List.mem_map]
    refine ⟨p.2 - 1, List.mem_range.mpr ?_, ?_⟩
    · have : p.2 ≤ (n - 1 - p.1) / (s - 1) := (Nat.le_div_iff_mul_le (by omega)).mpr (by rw [Nat.mul_comm]; omega)
      omega
    · rw [show p.2 - 1 + 1 = p.2 by omega]
def ltR (a b : Nat × Nat) : Prop := a.1 < b.1 ∨ (a.1 = b.1 ∧ a.2 < b.2)
theorem rows_rise (n s : Nat) : (rowsL n s).Pairwise ltR := by
  unfold rowsL rowsTo
  rw [List.pairwise_flatMap]
  refine ⟨fun f _ => ?_, ?_⟩
  · unfold rowsAt
    rw [List.pairwise_map]
    exact List.pairwise_lt_range.imp fun {a b} h => .inr ⟨rfl, Nat.succ_lt_succ h⟩
  · refine List.pairwise_lt_range.imp fun {a b} h x hx y hy => ?_
    unfold rowsAt at hx hy
    obtain ⟨_, _, rfl⟩ := List.mem_map.mp hx
    obtain ⟨_, _, rfl⟩ := List.mem_map.mp hy
    exact .inl h
theorem ltR_lex {a b : Nat × Nat} (h : ltR a b) : lexI (pairI b) (pairI a) = false := by
  unfold pairI
  rw [lexI]
  rcases h with h | ⟨h1, h2⟩
  · rw [if_neg (by omega)]
    exact decide_eq_false (by omega)
  · rw [if_pos (by omega), lexI, if_neg (by omega)]
    exact decide_eq_false (by omega)
theorem pairs_rise {l : List (Nat × Nat)} (h : l.Pairwise ltR) : (l.map pairI).Pairwise (fun a b => lexI b a = false) := by
  rw [List.pairwise_map]
  exact h.imp fun h => ltR_lex h
theorem ltR_nodup {l : List (Nat × Nat)} (h : l.Pairwise ltR) : l.Nodup := h.imp fun {a b} h e => by
  subst e
  rcases h with h | ⟨_, h⟩ <;> omega
def hasPl (s pl : Nat) (p : Nat × Nat) : Bool := (List.range s).any fun k => decide (p.1 + k * p.2 = pl)
def through (n s pl : Nat) : List (Nat × Nat) := (rowsL n s).filter (hasPl s pl)
def thrK (n s pl st k : Nat) : List (Nat × Nat) := if k * st ≤ pl ∧ pl - k * st + (s - 1) * st < n then [(pl - k * st, st)] else []
def thrIn (n s pl st j : Nat) : List (Nat × Nat) := (List.range j).flatMap (thrK n s pl st)
def thrTo (n s pl i : Nat) : List (Nat × Nat) := (List.range i).flatMap fun a => thrIn n s pl (a + 1) s
theorem thrK_mem {n s pl st k : Nat} {x : Nat × Nat} (h : x ∈ thrK n s pl st k) : x = (pl - k * st, st) ∧ k * st ≤ pl ∧ pl - k * st + (s - 1) * st < n := by
  unfold thrK at h
  split at h
  · rename_i c
    exact ⟨List.mem_singleton.mp h, c⟩
  · cases h
theorem through_sort {n s pl : Nat} (hs : 2 ≤ s) (hpl : pl < n) : sortI ((thrTo n s pl ((n - 1) / (s - 1))).map pairI) = (through n s pl).map pairI := by
  have rise : (through n s pl).Pairwise ltR := (rows_rise n s).filter _
  have nd : (thrTo n s pl ((n - 1) / (s - 1))).Nodup := by
    unfold thrTo
    rw [List.Nodup, List.pairwise_flatMap]
    refine ⟨fun a _ => ?_, ?_⟩
    · unfold thrIn
      rw [List.pairwise_flatMap]
      refine ⟨fun k _ => ?_, ?_⟩
      · unfold thrK
        split
        · exact List.pairwise_singleton _ _
        · exact List.Pairwise.nil
      · refine List.pairwise_lt_range.imp fun {k j} h x hx y hy e => ?_
        obtain ⟨rfl, h1, _⟩ := thrK_mem hx
        obtain ⟨rfl, h2, _⟩ := thrK_mem hy
        have e1 := congrArg Prod.fst e
        have e2 : pl - k * (a + 1) = pl - j * (a + 1) := e1
        have : k * (a + 1) < j * (a + 1) := Nat.mul_lt_mul_of_pos_right h (Nat.succ_pos a)
        omega
    · refine List.pairwise_lt_range.imp fun {a b} h x hx y hy e => ?_
      obtain ⟨k, _, hx⟩ := List.mem_flatMap.mp hx
      obtain ⟨j, _, hy⟩ := List.mem_flatMap.mp hy
      have e1 := congrArg Prod.snd e
      rw [(thrK_mem hx).1, (thrK_mem hy).1] at e1
      have e2 : a + 1 = b + 1 := e1
      omega
  refine (sortI_eq (pairs_rise rise) (List.Perm.map pairI ?_)).symm
  rw [List.perm_ext_iff_of_nodup (ltR_nodup rise) nd]
  rintro ⟨f, st⟩
  unfold through
  rw [List.mem_filter, rows_mem hs]
  unfold hasPl
  rw [List.any_eq_true]
  constructor
  · rintro ⟨⟨h1, h2⟩, k, hk, e⟩
    rw [List.mem_range] at hk
    have e' : f + k * st = pl := of_decide_eq_true e
    have h1' : f + (s - 1) * st < n := h1
    have h2' : 1 ≤ st := h2
    unfold thrTo
    rw [List.mem_flatMap]
    refine ⟨st - 1, List.mem_range.mpr ?_, ?_⟩
    · have : st ≤ (n - 1) / (s - 1) := (Nat.le_div_iff_mul_le (by omega)).mpr (by rw [Nat.mul_comm]; omega)
      omega
    · rw [show st - 1 + 1 = st by omega]
      unfold thrIn
      rw [List.mem_flatMap]
      refine ⟨k, List.mem_range.mpr hk, ?_⟩
      unfold thrK
      rw [if_pos ⟨by omega, by omega⟩, show pl - k * st = f by omega]
      exact List.mem_singleton.mpr rfl
  · intro h
    unfold thrTo at h
    obtain ⟨a, ha, h⟩ := List.mem_flatMap.mp h
    unfold thrIn at h
    obtain ⟨k, hk, h⟩ := List.mem_flatMap.mp h
    obtain ⟨e, h1, h2⟩ := thrK_mem h
    have e1 : f = pl - k * (a + 1) := congrArg Prod.fst e
    have e2 : st = a + 1 := congrArg Prod.snd e
    subst e2
    exact ⟨⟨by show f + (s - 1) * (a + 1) < n; omega, Nat.succ_pos a⟩, k, hk, decide_eq_true (by show f + k * (a + 1) = pl; omega)⟩
theorem thrIn_succ (n s pl st j : Nat) : thrIn n s pl st (j + 1) = thrIn n s pl st j ++ thrK n s pl st j := by
  unfold thrIn
  rw [List.range_succ, List.flatMap_append]
  simp
theorem thrTo_succ (n s pl i : Nat) : thrTo n s pl (i + 1) = thrTo n s pl i ++ thrIn n s pl (i + 1) s := by
  unfold thrTo
  rw [List.range_succ, List.flatMap_append]
  simp
theorem thrIn_len (n s pl st : Nat) : ∀ j, (thrIn n s pl st j).length ≤ j
  | 0 => Nat.zero_le _
  | j + 1 => by
    rw [thrIn_succ, List.length_append]
    have := thrIn_len n s pl st j
    have h : (thrK n s pl st j).length ≤ 1 := by
      unfold thrK
      split
      · exact Nat.le_refl _
      · exact Nat.zero_le _
    omega
theorem thrTo_len (n s pl : Nat) : ∀ i, (thrTo n s pl i).length ≤ i * s
  | 0 => Nat.zero_le _
  | i + 1 => by
    rw [thrTo_succ, List.length_append, Nat.succ_mul]
    exact Nat.add_le_add (thrTo_len n s pl i) (thrIn_len n s pl (i + 1) s)
/-! ### bars -/
theorem cut_take {α : Type} (q : List α) {pl : Nat} (h : pl < q.length) : cutL q none (some (pl : Int)) = q.take pl := by
  unfold cutL sIx'
  simp only [show ¬ ((pl : Int) < 0) by omega, if_false, List.drop_zero, Int.toNat_natCast]
  rw [show min pl q.length - 0 = pl by omega]
theorem cut_drop {α : Type} (q : List α) {pl : Nat} (h : pl < q.length) : cutL q (some ((pl : Int) + 1)) none = q.drop (pl + 1) := by
  unfold cutL sIx'
  simp only [show ¬ ((pl : Int) + 1 < 0) by omega, if_false]
  rw [show min ((pl : Int) + 1).toNat q.length = pl + 1 by omega, List.take_of_length_le (by rw [List.length_drop]; omega)]
theorem set_getD {q : List Int} {pl : Nat} (h : pl < q.length) (hue : Int) (i : Nat) : (q.set pl hue).getD i 0 = if i = pl then hue else q.getD i 0 := by
  rw [List.getD_eq_getElem?_getD, List.getD_eq_getElem?_getD, List.getElem?_set]
  by_cases e : i = pl
  · subst e
    simp [h]
  · rw [if_neg e, if_neg fun z => e z.symm]
def barC (q : List Int) (s pl : Nat) (hue : Int) (p : Nat × Nat) : Bool := (List.range s).all fun k => decide (p.1 + k * p.2 = pl) || decide (q.getD (p.1 + k * p.2) 0 = hue)
def barsL (q : List Int) (s pl : Nat) (hue : Int) : List (Nat × Nat) := (through q.length s pl).filter (barC q s pl hue)
theorem barsL_len {q : List Int} (s pl : Nat) (hue : Int) (hl : q.length ≤ 100) : (barsL q s pl hue).length ≤ 10000 := by
  refine Nat.le_trans (List.length_filter_le _ _) (Nat.le_trans (List.length_filter_le _ _) (Nat.le_trans (rowsTo_len _ _ _) ?_))
  exact Nat.mul_le_mul hl hl
theorem tn_ix {sz : List Nat} {h : Nat} (hh : h < sz.length) : D.ix (tn sz) (.int h) = pure (.int (sz.getD h 0 : Nat)) := by
  rw [tn_ti, ix_at (by rw [List.length_map]; exact hh)]
  congr 2
  simp [List.getD_eq_getElem?_getD, hh]
theorem eq_nil_Dr (rs : List (Nat × Nat)) : D.eqA (.lst (rs.map Dr)) (.lst []) = pure (.bl (decide (rs = []))) := (Enc.lst (Enc.pair (enc_nat 0) (enc_nat 0))).eqA (by decide) rs []
/-- the open hues -/
def openL (sz : List Nat) (q : List Int) (pl : Nat) : List Int := ((List.range sz.length).filter fun h => decide (barsL q (sz.getD h 0) pl h = [])).map fun h : Nat => (h : Int)
theorem rangeL0 (n : Nat) : rangeL 0 n = (List.range n).map fun i : Nat => D.int i := by
  unfold rangeL
  rw [show ((n : Int) - 0).toNat = n by omega]
  apply List.map_congr_left
  intro i _
  rw [Int.zero_add]
theorem lcF_rngP {n : Nat} {rt : D → M Bool} {re : D → M D} (p : Nat → Bool) (hl : n ≤ 16777216) (h2 : ∀ i : Nat, i < n → rt (.int i) = pure (p i)) (h3 : ∀ i : Nat, i < n → re (.int i) = pure (.int i)) : lcF (pure (rangeL 0 n)) tg1 rt re = pure (((List.range n).filter p).map fun i : Nat => D.int i) := by
  rw [rangeL0, lcF_eq1 (fun d => match d with | .int i => p i.toNat | _ => false) (fun x => x) (by rw [List.length_map, List.length_range]; exact hl) (fun x hx => ?_) fun x hx _ => ?_]
  · rw [List.map_id', List.filter_map]
    rfl
  · obtain ⟨i, hi, rfl⟩ := List.mem_map.mp hx
    exact h2 i (List.mem_range.mp hi)
  · obtain ⟨i, hi, rfl⟩ := List.mem_map.mp hx
    exact h3 i (List.mem_range.mp hi)
/-! ### lots -/
structure Lot (l : List Nat) : Prop where
  up : l.Pairwise (· < ·)
  lt : ∀ x ∈ l, x < 40
theorem up_len : ∀ (l : List Nat) (lo n : Nat), l.Pairwise (· < ·) → (∀ x ∈ l, lo ≤ x ∧ x < n) → l.length ≤ n - lo
  | [], _, _, _, _ => Nat.zero_le _
  | x :: r, lo, n, h, hb => by
    obtain ⟨h1, h2⟩ := List.pairwise_cons.mp h
    have := up_len r (x + 1) n h2 fun y hy => ⟨h1 y hy, (hb y (List.mem_cons_of_mem _ hy)).2⟩
    have hx := hb x List.mem_cons_self
    rw [List.length_cons]
    omega
theorem Lot.len {l : List Nat} (h : Lot l) : l.length ≤ 40 := by
  have := up_len l 0 40 h.up fun x hx => ⟨Nat.zero_le _, h.lt x hx⟩
  omega
theorem lcM_mapP {α : Type} {rt : D → M Bool} {re : D → M D} {f g : α → D} {p : α → Bool} : ∀ {L : List α} {acc : List D}, (∀ a ∈ L, rt (f a) = pure (p a)) → (∀ a ∈ L, p a = true → re (f a) = pure (g a)) → acc.length + L.length ≤ 16777216 → lcM (fun x => tg1 x >>= fun t => lcIf (rt t) (re t)) (L.map f) acc = pure (acc ++ (L.filter p).map g)
  | [], acc, _, _, _ => by rw [List.map_nil, lcM, List.filter_nil, List.map_nil, List.append_nil]
  | a :: r, acc, h1, h2, hl => by
    rw [List.length_cons] at hl
    rw [List.map_cons, lcM, tg1_def, pure_bind, lcIf, h1 a List.mem_cons_self, pure_bind]
    by_cases e : p a = true
    · rw [if_pos e, h2 a List.mem_cons_self e, pure_bind, pure_bind, List.filter_cons_of_pos e]
      show (guard _ >>= fun _ => _) = _
      rw [guard_bind (by rw [line_eq]; omega), lcM_mapP (fun b hb => h1 b (List.mem_cons_of_mem _ hb)) (fun b hb => h2 b (List.mem_cons_of_mem _ hb)) (by rw [List.length_append, List.length_singleton]; omega)]
      simp
    · rw [if_neg e, pure_bind, List.filter_cons_of_neg e]
      exact lcM_mapP (fun b hb => h1 b (List.mem_cons_of_mem _ hb)) (fun b hb => h2 b (List.mem_cons_of_mem _ hb)) (by omega)
theorem lcF_mapP {α : Type} {rt : D → M Bool} {re : D → M D} {f : α → D} (p : α → Bool) (g : α → D) {L : List α} (hl : L.length ≤ 16777216) (h1 : ∀ a ∈ L, rt (f a) = pure (p a)) (h2 : ∀ a ∈ L, p a = true → re (f a) = pure (g a)) : lcF (pure (L.map f)) tg1 rt re = pure ((L.filter p).map g) := by
  unfold lcF
  rw [pure_bind, lcM_mapP h1 h2 (by simpa using hl), nox_pure, List.nil_append]
theorem lcF_mapA {α : Type} {re : D → M D} {f : α → D} (g : α → D) {L : List α} (hl : L.length ≤ 16777216) (h2 : ∀ a ∈ L, re (f a) = pure (g a)) : lcF (pure (L.map f)) tg1 (fun _ => pure true) re = pure (L.map g) := by
  rw [lcF_mapP (fun _ => true) g hl (fun _ _ => rfl) (fun a ha _ => h2 a ha), List.filter_eq_self.mpr fun _ _ => rfl]
theorem forM_findS {S L : Type} {α : Type} {body : D → S → M (Fl S S)} {f : α → D} {g : α → Option D} : ∀ {xs : List α} {s : S}, (∀ x ∈ xs, ∀ s, body (f x) s = match g x with | some d => pure (.rt d) | none => pure (.nx s)) → forM (L := L) body (xs.map f) s = match xs.findSome? g with | some d => pure (.rt d) | none => pure (.nx s)
  | [], s, _ => rfl
  | x :: r, s, h => by
    rw [List.map_cons, forM_cons, h x List.mem_cons_self s, List.findSome?_cons]
    cases e : g x with
    | some d => rfl
    | none => exact forM_findS fun y hy => h y (List.mem_cons_of_mem _ hy)
theorem any_nat (x : Nat) : ∀ l : List Nat, (l.map fun k : Nat => (k : Int)).any (fun n => n == (x : Int)) = decide (x ∈ l)
  | [] => rfl
  | y :: r => by
    rw [List.map_cons, List.any_cons, any_nat x r, Bool.eq_iff_iff, Bool.or_eq_true, decide_eq_true_iff, decide_eq_true_iff, List.mem_cons, beq_iff_eq]
    constructor
    · rintro (h | h)
      · exact .inl (by omega)
      · exact .inr h
    · rintro (h | h)
      · exact .inl (by omega)
      · exact .inr h
theorem innB_tn (x : Nat) (l : List Nat) : innB (.int x) (tn l) = pure (decide (x ∈ l)) := by
  show (ofO (intsL (l.map fun k : Nat => D.int k)) >>= fun ns => pure (ns.any fun n => n == (x : Int))) = _
  rw [intsL_map (fun k : Nat => (k : Int))]
  show pure _ = _
  rw [any_nat]
theorem inn_tn (x : Nat) (l : List Nat) : D.innA (.int x) (tn l) = pure (.bl (decide (x ∈ l))) := by
  unfold D.innA
  rw [innB_tn, pure_bind]
theorem notin_tn (x : Nat) (l : List Nat) : D.notinA (.int x) (tn l) = pure (.bl (!decide (x ∈ l))) := by
  unfold D.notinA
  rw [innB_tn, pure_bind]
theorem items_tn (l : List Nat) : itemsL (tn l) = pure (l.map fun k : Nat => D.int k) := rfl
theorem up_zip : ∀ {l : List Nat}, l.Pairwise (· < ·) → ∀ p ∈ l.zip (l.drop 1), p.1 < p.2
  | [], _, p, hp => by simp at hp
  | [x], _, p, hp => by simp at hp
  | x :: y :: r, h, p, hp => by
    obtain ⟨h1, h2⟩ := List.pairwise_cons.mp h
    rw [List.drop_succ_cons, List.drop_zero, List.zip_cons_cons] at hp
    rcases List.mem_cons.mp hp with rfl | hp
    · exact h1 y List.mem_cons_self
    · exact up_zip h2 p (by rwa [List.drop_succ_cons, List.drop_zero])
theorem cut_one (l : List Nat) : D.cutI (tn l) (some 1) none = pure (tn (l.drop 1)) := by
  show pure (D.tup (cutL (l.map fun k : Nat => D.int k) (some 1) none)) = _
  congr 2
  unfold cutL sIx'
  simp only [show ¬ ((1 : Int) < 0) by decide, if_false]
  cases l with
  | nil => rfl
  | cons x r =>
    rw [show min (1 : Int).toNat (List.map (fun k : Nat => D.int k) (x :: r)).length = 1 by simp, List.take_of_length_le (by simp)]
    simp
theorem zip_tn (l m : List Nat) : zipT [pure (tn l), pure (tn m)] = pure ((l.zip m).map fun p => D.tup [.int p.1, .int p.2]) := by
  show pure (zipL (l.map fun k : Nat => D.int k) (m.map fun k : Nat => D.int k)) = _
  congr 1
  unfold zipL
  rw [List.zipWith_map, List.zip, List.map_zipWith]
theorem lcF_un2 {α : Type} {re : D × D → M D} {f : α → D} {a b g : α → D} {L : List α} (hf : ∀ x, f x = .tup [a x, b x]) (hl : L.length ≤ 16777216) (h : ∀ x ∈ L, re (a x, b x) = pure (g x)) : lcF (pure (L.map f)) un2 (fun _ => pure true) re = pure (L.map g) := by
  have key : ∀ (L : List α) (acc : List D), (∀ x ∈ L, re (a x, b x) = pure (g x)) → acc.length + L.length ≤ 16777216 → lcM (fun x => un2 x >>= fun t => lcIf (pure true) (re t)) (L.map f) acc = pure (acc ++ L.map g) := by
    intro L
    induction L with
    | nil => intro acc _ _; simp [lcM]
    | cons x r ih =>
      intro acc h hl
      rw [List.length_cons] at hl
      rw [List.map_cons, lcM, hf, show un2 (.tup [a x, b x]) = pure (a x, b x) from rfl, pure_bind, lcIf, pure_bind, if_pos rfl, h x List.mem_cons_self, pure_bind, pure_bind]
      show (guard _ >>= fun _ => _) = _
      rw [guard_bind (by rw [line_eq]; omega), ih _ (fun y hy => h y (List.mem_cons_of_mem _ hy)) (by rw [List.length_append, List.length_singleton]; omega)]
      simp
  unfold lcF
  rw [pure_bind, key L [] h (by simpa using hl), nox_pure, List.nil_append]
theorem all_true {α : Type} {L : List α} : D.all (.lst (L.map fun _ => D.bl true)) = pure (.bl true) := by
  rw [all_map (fun _ => true)]
  congr 2
  rw [List.all_eq_true]
  exact fun _ _ => rfl
theorem is_lot_ok {l : List Nat} (h : Lot l) : D_is_lot [tn l] = pure (.bl true) := by
  have hl := h.len
  rw [D_is_lot_eq]
  unfold B_is_lot
  simp only [pure_bind, bin_def, callM_def, seqL_cons, seqL_nil, f1_one, notM_def, asB_def, orM_def, show isaM .tuple (tn l) = pure (.bl true) from rfl, isB_bl, Bool.not_true, Bool.false_eq_true, if_false, items_tn, partM_def, asI_int, cutM_def, cut_one]
  rw [lcF_mapA (fun _ => .bl true) (by omega) fun x hx => by
    have := h.lt x hx
    rw [is_between_eq (show D.kn (.int (x : Nat)) from trivial), show btw (.int (x : Nat)) 0 39 = true by simp [btw]; omega]]
  simp only [pure_bind, f1_one, all_true, isB_bl, Bool.not_true, Bool.false_eq_true, if_false, zip_tn]
  rw [lcF_un2 (a := fun p : Nat × Nat => .int p.1) (b := fun p : Nat × Nat => .int p.2) (g := fun _ => .bl true) (fun _ => rfl) (by rw [List.length_zip]; omega) fun p hp => by
    have := up_zip h.up p hp
    rw [lt_int, decide_eq_true (by omega)]]
  simp only [pure_bind, f1_one, all_true, endB_rt]
/-! rows within a lot -/
def hasRow (s : Nat) (l : List Nat) (p : Nat × Nat) : Bool := (List.range s).all fun k => decide (p.1 + k * p.2 ∈ l)
def isHit (s : Nat) (l : List Nat) (p : Nat × Nat) : Bool := (List.range s).any fun k => decide (p.1 + k * p.2 ∈ l)
theorem places_map (p : Nat × Nat) (s : Nat) : itemsL (ti (places p s)) = pure ((List.range s).map fun k => D.int ((p.1 + k * p.2 : Nat) : Int)) := by
  show pure ((places p s).map D.int) = _
  unfold places
  rw [List.map_map]
  rfl
/-- the first full row -/
def fullG (s : Nat) (l : List Nat) (f g : Nat) : Option (Nat × Nat) := if decide (f < g) && hasRow s l (f, g - f) then some (f, g - f) else none
def fullR (s : Nat) (l : List Nat) : Option (Nat × Nat) := l.findSome? fun f => l.findSome? fun g => fullG s l f g
def rowO : Option (Nat × Nat) → D
  | none => .non
  | some p => Dr p
theorem findSome_map {α β γ : Type} (h : β → γ) (g : α → Option β) : ∀ l : List α, l.findSome? (fun x => (g x).map h) = (l.findSome? g).map h
  | [] => rfl
  | x :: r => by
    rw [List.findSome?_cons, List.findSome?_cons, findSome_map h g r]
    cases g x <;> rfl
def Bare (s : Nat) (l : List Nat) : Prop := ∀ f d, 1 ≤ d → ¬ ∀ k, k < s → f + k * d ∈ l
theorem hasRow_iff {s : Nat} {l : List Nat} {p : Nat × Nat} : hasRow s l p = true ↔ ∀ k, k < s → p.1 + k * p.2 ∈ l := by
  unfold hasRow
  rw [List.all_eq_true]
  constructor
  · exact fun h k hk => of_decide_eq_true (h k (List.mem_range.mpr hk))
  · exact fun h k hk => decide_eq_true (h k (List.mem_range.mp hk))
theorem full_none {s : Nat} (hs : 2 ≤ s) {l : List Nat} : fullR s l = none ↔ Bare s l := by
  unfold fullR
  rw [List.findSome?_eq_none_iff]
  constructor
  · intro h f d hd hk
    have hf : f ∈ l := by simpa using hk 0 (by omega)
    have hg : f + d ∈ l := by simpa using hk 1 (by omega)
    have := List.findSome?_eq_none_iff.mp (h f hf) (f + d) hg
    unfold fullG at this
    rw [decide_eq_true (show f < f + d by omega), show f + d - f = d by omega, show hasRow s l (f, d) = true from hasRow_iff.mpr hk] at this
    cases this
  · intro h f hf
    rw [List.findSome?_eq_none_iff]
    intro g hg
    unfold fullG
    rw [if_neg]
    intro e
    obtain ⟨e1, e2⟩ := Bool.and_eq_true_iff.mp e
    have := of_decide_eq_true e1
    exact h f (g - f) (by omega) (hasRow_iff.mp e2)
theorem isN_rowO (o : Option (Nat × Nat)) : isNF (rowO o) .non = pure (.bl o.isNone) := by cases o <;> rfl
theorem bare_iff {s : Nat} (h0 : 2 ≤ s) {l : List Nat} : (fullR s l).isNone = true ↔ Bare s l := by
  rw [Option.isNone_iff_eq_none]
  exact full_none h0
/-- what is left -/
def restL (n : Nat) (l : List Nat) : List Nat := (List.range n).filter fun x => !decide (x ∈ l)
theorem mem_restL {n x : Nat} {l : List Nat} : x ∈ restL n l ↔ x < n ∧ x ∉ l := by
  unfold restL
  rw [List.mem_filter, List.mem_range]
  simp
theorem lot_rest {n : Nat} (hn : n ≤ 40) (l : List Nat) : Lot (restL n l) := ⟨(List.pairwise_lt_range).sublist List.filter_sublist, fun x hx => by
  have := (mem_restL.mp hx).1
  omega⟩
def hitB (s n : Nat) (l : List Nat) : Bool := (rowsL n s).all (isHit s l)
theorem hit_iff {s n : Nat} (h0 : 2 ≤ s) {l m : List Nat} (hm : ∀ x, x ∈ m ↔ x < n ∧ x ∉ l) : hitB s n l = true ↔ Bare s m := by
  unfold hitB
  rw [List.all_eq_true]
  constructor
  · intro h f d hd hk
    have hlast := (hm _).mp (hk (s - 1) (by omega))
    have hp := h (f, d) ((rows_mem h0).mpr ⟨hlast.1, hd⟩)
    unfold isHit at hp
    obtain ⟨k, hk1, hk2⟩ := List.any_eq_true.mp hp
    exact ((hm _).mp (hk k (List.mem_range.mp hk1))).2 (of_decide_eq_true hk2)
  · intro h p hp
    obtain ⟨p1, p2⟩ := (rows_mem h0).mp hp
    unfold isHit
    apply Classical.byContradiction
    intro hno
    refine h p.1 p.2 p2 fun k hk => (hm _).mpr ⟨places_lt p1 hk, fun hin => hno ?_⟩
    exact List.any_eq_true.mpr ⟨k, List.mem_range.mpr hk, decide_eq_true hin⟩
theorem pen_sat (n : Int) : Sat (D_L_pen [.int n]) (fun d => ∃ xs, d = .lst xs ∧ penOk true xs) := by
  rw [D_L_pen_eq]
  unfold B_L_pen
  have p1 : D.pow (.int 10) (.int 18) = pure (.int (10 ^ 18)) := pow_ok (by decide)
  simp [-bind_pure_comp, p1]
  rw [mod_ok (by decide)]
  simp [-bind_pure_comp]
  exact Sat.pur ⟨_, rfl, _, _, _, _, rfl, by decide, Int.emod_nonneg _ (by decide), Int.emod_lt_of_pos _ (by decide)⟩
theorem cell_sat (ns : List Int) {k : Int} (h : 0 ≤ k) : ∃ n : Int, D_L_cell_at [.scr ns, .int k] = pure (.int n) := by
  rw [D_L_cell_at_eq]
  unfold B_L_cell_at
  by_cases e : k < ns.length
  · exact ⟨ns[k.toNat], by simp [-bind_pure_comp, e, ix_scr h e]⟩
  · refine ⟨0, ?_⟩
    simp [-bind_pure_comp, e]
/-! a comprehension whose test draws -/
theorem Sat.lcMT {rt : D → M Bool} : ∀ {L : List Nat} {acc : List D}, (∀ a ∈ L, Sat (rt (.int (a : Int))) fun _ => True) → acc.length + L.length ≤ 16777216 → Sat (Ev.lcM (fun x => tg1 x >>= fun t => lcIf (rt t) (pure t)) (L.map fun k : Nat => D.int k) acc) (fun ys => ∃ m : List Nat, List.Sublist m L ∧ ys = acc ++ m.map fun k : Nat => D.int k)
  | [], acc, _, _ => Sat.pur ⟨[], .slnil, by simp⟩
  | a :: r, acc, h, hl => by
    rw [List.length_cons] at hl
    rw [List.map_cons, Ev.lcM, tg1_def, pure_bind, lcIf, bind_assoc]
    refine Sat.bind (h a List.mem_cons_self) fun b _ => ?_
    cases b with
    | true =>
      rw [if_pos rfl, pure_bind, pure_bind]
      show Sat (guard _ >>= fun _ => _) _
      rw [guard_bind (by rw [line_eq]; omega)]
      refine Sat.mono (Sat.lcMT (fun b hb => h b (List.mem_cons_of_mem _ hb)) (by rw [List.length_append, List.length_singleton]; omega)) ?_
      rintro _ ⟨m, hm, rfl⟩
      exact ⟨a :: m, hm.cons₂ a, by simp⟩
    | false =>
      rw [if_neg (by decide), pure_bind]
      refine Sat.mono (Sat.lcMT (fun b hb => h b (List.mem_cons_of_mem _ hb)) (by omega)) ?_
      rintro _ ⟨m, hm, rfl⟩
      exact ⟨m, hm.cons a, rfl⟩
/-! strictly rising lists -/
theorem up_ext : ∀ {l m : List Nat}, l.Pairwise (· < ·) → m.Pairwise (· < ·) → (∀ x, x ∈ l ↔ x ∈ m) → l = m
  | [], [], _, _, _ => rfl
  | [], y :: r, _, _, h => absurd ((h y).mpr List.mem_cons_self) (by simp)
  | x :: r, [], _, _, h => absurd ((h x).mp List.mem_cons_self) (by simp)
  | x :: r, y :: t, h1, h2, h => by
    obtain ⟨a1, a2⟩ := List.pairwise_cons.mp h1
    obtain ⟨b1, b2⟩ := List.pairwise_cons.mp h2
    have e : x = y := by
      rcases List.mem_cons.mp ((h x).mp List.mem_cons_self) with e | hx
      · exact e
      · rcases List.mem_cons.mp ((h y).mpr List.mem_cons_self) with e | hy
        · exact e.symm
        · have := a1 y hy
          have := b1 x hx
          omega
    subst e
    rw [up_ext a2 b2 fun z => ?_]
    constructor
    · intro hz
      rcases List.mem_cons.mp ((h z).mp (List.mem_cons_of_mem _ hz)) with e | hz2
      · have := a1 z hz
        omega
      · exact hz2
    · intro hz
      rcases List.mem_cons.mp ((h z).mpr (List.mem_cons_of_mem _ hz)) with e | hz2
      · have := b1 z hz
        omega
      · exact hz2
/-! ### rounds -/
def roundL (n f d s : Nat) : List Nat := (List.range s).map fun k => (f + k * d) % n
theorem roundL_len (n f d s : Nat) : (roundL n f d s).length = s := by unfold roundL; rw [List.length_map, List.length_range]
theorem roundL_lt {n f d s x : Nat} (hn : 0 < n) (h : x ∈ roundL n f d s) : x < n := by
  unfold roundL at h
  obtain ⟨k, _, rfl⟩ := List.mem_map.mp h
  exact Nat.mod_lt _ hn
theorem mod_shift {n f a b : Nat} : (f + a) % n = (f + b) % n ↔ a % n = b % n := by
  constructor
  · intro h
    have h1 : ((f + a : Nat) : Int) % n = ((f + b : Nat) : Int) % n := by rw [← Int.natCast_emod, ← Int.natCast_emod, h]
    rw [Int.emod_eq_emod_iff_emod_sub_eq_zero] at h1
    have h2 : (a : Int) % n = (b : Int) % n := by
      rw [Int.emod_eq_emod_iff_emod_sub_eq_zero, show (a : Int) - (b : Int) = ((f + a : Nat) : Int) - ((f + b : Nat) : Int) by omega]
      exact h1
    rw [← Int.natCast_emod, ← Int.natCast_emod] at h2
    omega
  · intro h
    rw [Nat.add_mod, h, ← Nat.add_mod]
theorem round_shift {n f d s : Nat} : (roundL n f d s).Nodup ↔ (roundL n 0 d s).Nodup := by
  unfold roundL List.Nodup
  rw [List.pairwise_map, List.pairwise_map]
  constructor
  · intro h
    exact h.imp fun h e => h (by rw [Nat.zero_add, Nat.zero_add] at e; exact mod_shift.mpr e)
  · intro h
    exact h.imp fun h e => h (by rw [Nat.zero_add, Nat.zero_add]; exact mod_shift.mp e)
def unlikeB (n f d s : Nat) : Bool := decide (roundL n f d s).Nodup
theorem place_eq {n f d k : Nat} (hn : 0 < n) (hd : d ≤ 1000) (hk : k ≤ 1000) : (D.mulA (.int (k : Nat)) (.int (d : Nat)) >>= fun y => D.add (.int (f : Nat)) y >>= fun x => D.mod x (.int (n : Nat))) = pure (.int (((f + k * d) % n : Nat) : Int)) := by
  rw [mul_ok (.inl ⟨by omega, by omega⟩), pure_bind, add_int, pure_bind, mod_ok (by omega)]
  congr 2
def stepsL (n s : Nat) : List Nat := ((List.range (n - 1)).filter fun j => unlikeB n 0 (j + 1) s).map fun j => j + 1
def roundsL (n s : Nat) : List (Nat × Nat) := (List.range n).flatMap fun f => (stepsL n s).map fun d => (f, d)
theorem stepsL_len (n s : Nat) : (stepsL n s).length ≤ n - 1 := by
  unfold stepsL
  rw [List.length_map]
  refine Nat.le_trans (List.length_filter_le _ _) ?_
  rw [List.length_range]
  exact Nat.le_refl _
theorem stepsL_mem {n s d : Nat} (h : d ∈ stepsL n s) : 1 ≤ d ∧ d < n ∧ (roundL n 0 d s).Nodup := by
  unfold stepsL at h
  obtain ⟨j, hj, rfl⟩ := List.mem_map.mp h
  obtain ⟨h1, h2⟩ := List.mem_filter.mp hj
  have := List.mem_range.mp h1
  exact ⟨by omega, by omega, of_decide_eq_true h2⟩
def rdTo (n s i : Nat) : List (Nat × Nat) := (List.range i).flatMap fun f => (stepsL n s).map fun d => (f, d)
theorem rdTo_len (n s : Nat) : ∀ i, (rdTo n s i).length ≤ i * n
  | 0 => by simp [rdTo]
  | i + 1 => by
    have := rdTo_len n s i
    have h2 := stepsL_len n s
    have e : rdTo n s (i + 1) = rdTo n s i ++ (stepsL n s).map fun d => (i, d) := by
      unfold rdTo
      rw [List.range_succ, List.flatMap_append]
      simp
    rw [e, List.length_append, List.length_map, Nat.succ_mul]
    omega
theorem rdTo_succ (n s i : Nat) : rdTo n s (i + 1) = rdTo n s i ++ (stepsL n s).map fun d => (i, d) := by
  unfold rdTo
  rw [List.range_succ, List.flatMap_append]
  simp
theorem rng_from1 {n : Nat} (hn : 1 ≤ n) : rangeL 1 (n : Int) = (List.range (n - 1)).map fun j : Nat => D.int ((j + 1 : Nat) : Int) := by
  unfold rangeL
  rw [show ((n : Int) - 1).toNat = n - 1 by omega]
  apply List.map_congr_left
  intro j _
  rw [show (1 : Int) + (j : Int) = ((j + 1 : Nat) : Int) by omega]
/-! the law's own rounds -/
def rd3 (n s : Nat) (p : Nat × Nat) : D := .tup [.int p.1, .int p.2, .lst ((roundL n p.1 p.2 s).map fun k : Nat => D.int k)]
def rdIn (n s f j : Nat) : List (Nat × Nat) := ((List.range j).filter fun i => unlikeB n f (i + 1) s).map fun i => (f, i + 1)
theorem rdIn_all (n s f : Nat) : rdIn n s f (n - 1) = (stepsL n s).map fun d => (f, d) := by
  unfold rdIn stepsL
  rw [List.map_map, show (fun i => unlikeB n f (i + 1) s) = fun i => unlikeB n 0 (i + 1) s from funext fun i => by unfold unlikeB; rw [decide_eq_decide]; exact round_shift]
  rfl
theorem rdIn_len (n s f j : Nat) : (rdIn n s f j).length ≤ j := by
  unfold rdIn
  rw [List.length_map]
  refine Nat.le_trans (List.length_filter_le _ _) ?_
  rw [List.length_range]
  exact Nat.le_refl _
theorem rdIn_succ (n s f j : Nat) : rdIn n s f (j + 1) = rdIn n s f j ++ (if unlikeB n f (j + 1) s then [(f, j + 1)] else []) := by
  unfold rdIn
  rw [List.range_succ, List.filter_append, List.map_append]
  by_cases e : unlikeB n f (j + 1) s = true
  · rw [if_pos e, List.filter_cons_of_pos (p := fun i => unlikeB n f (i + 1) s) e]
    rfl
  · rw [if_neg e, List.filter_cons_of_neg (p := fun i => unlikeB n f (i + 1) s) e]
    rfl
/-! ### what is told, or the word of what is refused -/
theorem gotM_pure (xs : List Str) (F : Str → List D → M D) (d : D) : gotM xs F (pure d) = pure d := rfl
theorem gotM_raise {xs : List Str} {F : Str → List D → M D} {c : Str} {ar : Option (Int × Int)} {w : D} (h : c ∈ xs) (k : ∀ x, F c [x] = pure w) : gotM xs F (raise ⟨c, ar⟩) = pure w := M.ext' fun Q E => ⟨fun z => by
  have := z.2 0
  rw [k] at this
  exact this, fun q => ⟨h, fun a => by rw [k]; exact q⟩⟩
def marksOf (c : Str) : List Bool := [decide (c = "NoStrip"), decide (c = "NoSizes"), decide (c = "NoNumber"), decide (c = "NoPlace"), decide (c = "NoHue"), decide (c = "NoDraft"), decide (c = "NoPaper"), decide (c = "NoFit"), decide (c = "TooGreat"), decide (c = "NoLot"), decide (c = "NoRing"), decide (c = "NoRound"), decide (c = "NoStand"), decide (c = "NoText"), decide (c = "NoDeed"), decide (c = "NoLine")]
def kindWords : List Str := ["strip", "sizes", "number", "place", "hue", "draft", "paper", "fit", "great", "lot", "ring", "round", "stand", "text", "deed", "line"]
theorem kind_eq {c w : Str} {j : Nat} (x : D) (h1 : (marksOf c).count true = 1) (h2 : (marksOf c).findIdx? (· == true) = some j) (h3 : kindWords[j]? = some w) (h4 : w.length ≤ 1000) : D_L_kind c [x] = pure (.str ("! " ++ w)) := by
  rw [D_L_kind_eq]
  unfold B_L_kind
  simp only [seqL_cons, seqL_nil, pure_bind, bin_def]
  rw [add_lst (Nat.le_of_ble_eq_true rfl), pure_bind, add_lst (Nat.le_of_ble_eq_true rfl), pure_bind, add_lst (Nat.le_of_ble_eq_true rfl), pure_bind, add_lst (Nat.le_of_ble_eq_true rfl), pure_bind]
  have e1 : lstMet cntB (pure (.lst ((marksOf c).map D.bl))) [pure (.bl true)] = pure (.int ((marksOf c).count true : Nat)) := rfl
  have e2 : lstMet idxB (pure (.lst ((marksOf c).map D.bl))) [pure (.bl true)] = (ofO ((marksOf c).findIdx? (· == true)) >>= fun j => pure (.int j)) := rfl
  have hj : j < kindWords.length := (List.getElem?_eq_some_iff.mp h3).1
  have e3 : D.ix (.lst (kindWords.map D.str)) (.int j) = pure (.str w) := by
    rw [ix_lst (by omega) (by rw [List.length_map]; omega)]
    simp only [Int.toNat_natCast, List.getElem_map]
    rw [(List.getElem?_eq_some_iff.mp h3).2]
  have e4 : D.add (.str "! ") (.str w) = pure (.str ("! " ++ w)) := by
    show (guard _ >>= fun _ => _) = _
    rw [guard_bind]
    show (2 : Nat) + w.length ≤ _
    rw [line_eq]
    omega
  rw [show ([D.bl (decide (c = "NoStrip")), .bl (decide (c = "NoSizes")), .bl (decide (c = "NoNumber")), .bl (decide (c = "NoPlace"))] ++ [D.bl (decide (c = "NoHue")), .bl (decide (c = "NoDraft")), .bl (decide (c = "NoPaper")), .bl (decide (c = "NoFit"))] ++ [D.bl (decide (c = "TooGreat")), .bl (decide (c = "NoLot")), .bl (decide (c = "NoRing")), .bl (decide (c = "NoRound"))] ++ [D.bl (decide (c = "NoStand")), .bl (decide (c = "NoText")), .bl (decide (c = "NoDeed")), .bl (decide (c = "NoLine"))]) = (marksOf c).map D.bl from rfl]
  rw [e1, h1, e2, h2]
  simp only [notM_def, asB_def, orM_def, pure_bind, isB_bl, neA_int, Bool.not_true, Bool.false_eq_true, if_false]
  rw [show (!decide (((1 : Nat) : Int) = 1)) = false from rfl, if_neg (by decide), show (ofO (some j) : M Nat) = pure j from rfl, pure_bind, pure_bind]
  rw [show ([D.str "strip", .str "sizes", .str "number", .str "place", .str "hue", .str "draft", .str "paper", .str "fit", .str "great", .str "lot", .str "ring", .str "round"] ++ [D.str "stand", .str "text", .str "deed", .str "line"]) = kindWords.map D.str from rfl, e3, pure_bind, e4, pure_bind, endB_rt]
theorem got_of {xs : List Str} {c w : Str} {ar : Option (Int × Int)} {j : Nat} (h : c ∈ xs) (h1 : (marksOf c).count true = 1) (h2 : (marksOf c).findIdx? (· == true) = some j) (h3 : kindWords[j]? = some w) (h4 : w.length ≤ 1000) : gotM xs D_L_kind (raise ⟨c, ar⟩) = pure (.str ("! " ++ w)) :=
  gotM_raise h fun x => kind_eq x h1 h2 h3 h4
/-! ### a thing and itself -/
theorem eqv_self {d : D} {n : Nat} (h : d.cm n) : d.eqv d = true := PySem.SeqAt.eqv_refl d.py h.2.1
theorem eqA_self {d : D} {n : Nat} (h : d.cm n) (l : n ≤ 64) : D.eqA d d = pure (.bl true) := by rw [eqA_cm h h l, eqv_self h]
theorem neA_self {d : D} {n : Nat} (h : d.cm n) (l : n ≤ 64) : D.neA d d = pure (.bl false) := by rw [neA_cm h h l, eqv_self h]; rfl
theorem cm_strs {ws : List Str} (h : ∀ w ∈ ws, PyData.strOk w = true) : D.cm 1 (.lst (ws.map D.str)) := cm_lst fun x hx => by
  obtain ⟨w, hw, rfl⟩ := List.mem_map.mp hx
  exact cm_str 0 w (h w hw)
theorem ix_mem {xs : List D} {i : Int} (h0 : 0 ≤ i) (h1 : i < xs.length) : ∃ x ∈ xs, D.ix (.lst xs) (.int i) = pure x := ⟨_, List.getElem_mem _, ix_lst h0 h1⟩
theorem mul_str (w : Str) (k : Nat) (h : k ≤ 1000) : D.mulA (.lst [.str w]) (.int k) = pure (.lst ((List.replicate k w).map D.str)) := by
  rw [mul_lst ⟨by omega, by simp, by omega⟩]
  congr 1
  unfold rep
  rw [Int.toNat_natCast]
  congr 1
  induction k with
  | zero => rfl
  | succ n ih =>
    rw [List.replicate_succ, List.replicate_succ, List.map_cons, List.flatten_cons, ih (by omega)]
    rfl
theorem app_small {A : Type} {xs : List D} {d : D} {k : D → M A} (h : xs.length ≤ 1000) : appM xs (pure d) k = k d := by
  rw [appM_def, pure_bind, guard_bind (by rw [line_eq]; omega)]
theorem lcF_bindr {T α : Type} (m : M α) (f : α → M (List D)) (tg : D → M T) (rt : T → M Bool) (re : T → M D) : lcF (m >>= f) tg rt re = m >>= fun x => lcF (f x) tg rt re := rfl
theorem rep_ints (n : Nat) (c : Nat) : rep (n : Int) [D.int (c : Nat)] = (List.replicate n c).map fun k : Nat => D.int k := by
  unfold rep
  rw [Int.toNat_natCast]
  induction n with
  | zero => rfl
  | succ n ih => rw [List.replicate_succ, List.replicate_succ, List.map_cons, List.flatten_cons, ih]; rfl
theorem rep_tn (n c : Nat) : D.tup (rep (n : Int) [D.int (c : Nat)]) = tn (List.replicate n c) := by
  rw [rep_ints]
  rfl
theorem cut_to {α : Type} (q : List α) (k : Nat) : cutL q none (some (k : Int)) = q.take k := by
  have e : cutL q none (some (k : Int)) = (q.drop 0).take ((if (k : Int) < 0 then ((k : Int) + q.length).toNat else min (k : Int).toNat q.length) - 0) := rfl
  rw [e, if_neg (by omega), List.drop_zero, Int.toNat_natCast, Nat.sub_zero]
  by_cases h : k ≤ q.length
  · rw [Nat.min_eq_left h]
  · rw [Nat.min_eq_right (by omega), List.take_of_length_le (Nat.le_refl _), List.take_of_length_le (by omega)]
theorem cut_from {α : Type} (q : List α) (k : Nat) : cutL q (some (k : Int)) none = q.drop k := by
  have e : cutL q (some (k : Int)) none = (q.drop (if (k : Int) < 0 then ((k : Int) + q.length).toNat else min (k : Int).toNat q.length)).take (q.length - (if (k : Int) < 0 then ((k : Int) + q.length).toNat else min (k : Int).toNat q.length)) := rfl
  rw [e, if_neg (by omega), Int.toNat_natCast]
  by_cases h : k ≤ q.length
  · rw [Nat.min_eq_left h, List.take_of_length_le (by rw [List.length_drop]; exact Nat.le_refl _)]
  · rw [Nat.min_eq_right (by omega), List.drop_of_length_le (Nat.le_refl _), List.drop_of_length_le (by omega), List.take_nil]
/-! ### texts of tuples of numbers -/
theorem cps_app (a b : Str) : (a ++ b).cps.toList = a.cps.toList ++ b.cps.toList := by
  show (a.cps ++ b.cps).toList = _
  rw [Array.toList_append]
theorem strOk_app (a b : Str) : PyData.strOk (a ++ b) = (PyData.strOk a && PyData.strOk b) := by
  unfold PyData.strOk
  rw [← Array.all_toList, ← Array.all_toList, ← Array.all_toList, cps_app, List.all_append]
theorem strOk_join (s : Str) (hs : PyData.strOk s = true) : ∀ ts : List Str, (∀ t ∈ ts, PyData.strOk t = true) → PyData.strOk (Str.join s ts) = true
  | [], _ => by
    show PyData.strOk Str.empty = true
    decide +kernel
  | [x], h => h x List.mem_cons_self
  | x :: y :: r, h => by
    show PyData.strOk (x ++ s ++ Str.join s (y :: r)) = true
    rw [strOk_app, strOk_app, hs, h x List.mem_cons_self, strOk_join s hs (y :: r) fun t ht => h t (List.mem_cons_of_mem _ ht)]
    rfl
theorem strOk_int (i : Int) : PyData.strOk ((toString i : String) : Str) = true := by
  unfold PyData.strOk
  rw [← Array.all_toList, List.all_eq_true]
  intro c hc
  apply decide_eq_true
  apply Classical.byContradiction
  intro h
  exact PyProof.Rows.int_text_free' c (by omega) i hc
theorem strOk_tup {xs : List D} (h : ∀ x ∈ xs, PyData.strOk x.shown = true) : PyData.strOk (D.shown (.tup xs)) = true := by
  have e : ∀ xs : List D, PyData.shownAll (D.pys xs) = xs.map D.shown := fun xs => by
    induction xs with
    | nil => simp [D.pys, PyData.shownAll]
    | cons x r ih => simp [D.pys, PyData.shownAll, ih, D.shown]
  unfold D.shown
  rw [D.py, PyData.shown, e]
  unfold PySem.tupleText
  rw [strOk_app, strOk_app, strOk_join _ (by decide +kernel) _ fun t ht => by
    obtain ⟨x, hx, rfl⟩ := List.mem_map.mp ht
    exact h x hx]
  rw [show PyData.strOk ("(" : Str) = true from by decide +kernel, Bool.true_and, Bool.true_and]
  split <;> decide +kernel
theorem strOk_ishown (i : Int) : PyData.strOk (D.shown (.int i)) = true := by
  unfold D.shown
  rw [D.py, PyData.shown]
  exact strOk_int i
theorem strOk_Dr (p : Nat × Nat) : PyData.strOk (D.shown (Dr p)) = true := strOk_tup fun x hx => by
  rcases List.mem_cons.mp hx with rfl | hx
  · exact strOk_ishown _
  · rw [List.mem_singleton.mp hx]
    exact strOk_ishown _
theorem nats_of {P : Nat → Prop} : ∀ {ys : List D}, (∀ y ∈ ys, ∃ v : Nat, y = .int v ∧ P v) → ∃ r : List Nat, ys = r.map (fun k : Nat => D.int k) ∧ ∀ x ∈ r, P x
  | [], _ => ⟨[], rfl, by simp⟩
  | y :: t, h => by
    obtain ⟨r, e, hr⟩ := nats_of fun z hz => h z (List.mem_cons_of_mem _ hz)
    obtain ⟨v, rfl, hv⟩ := h y List.mem_cons_self
    exact ⟨v :: r, by rw [e]; rfl, fun z hz => by
      rcases List.mem_cons.mp hz with rfl | hz
      · exact hv
      · exact hr z hz⟩
theorem show_tn {l : List Nat} (hl : l.length ≤ 1000) (hb : ∀ x ∈ l, x < 1000) : D.canShow (tn l) := by
  rw [tn_ti]
  exact show_ti (by rw [List.length_map]; exact hl) fun x hx => by
    obtain ⟨k, hk, rfl⟩ := List.mem_map.mp hx
    have := hb k hk
    omega
theorem show_str {x : Str} (h : (PySem.reprText x).length ≤ 100) : D.canShow (.str x) := can_show (itm_str (n := 0) (m := 100) h) (by decide) (by decide) (.inl (by simp [D.noD, D.py, PyData.hasDict]))
theorem nat_draw {k : Bool} {m : Int} (h0 : 0 < m) (h1 : m < 1073741824) : Sat (drawF k [.pen k, .int m]) (fun d => ∃ i : Nat, d = .int i ∧ (i : Int) < m) := Sat.mono (Sat.drw h0 h1) fun d ⟨i, e, a, b⟩ => ⟨i.toNat, by rw [e, Int.toNat_of_nonneg a], by omega⟩
theorem maxI_eq {ns : List Int} {m : Int} (h : m ∈ ns) (h2 : ∀ y ∈ ns, y ≤ m) : maxI ns = some m := by
  cases ns with
  | nil => cases h
  | cons x r =>
    obtain ⟨a, b⟩ := foldl_max_mem r x
    show some _ = _
    rw [Int.le_antisymm (h2 _ a) (b _ h)]
/-! rising lists of numbers -/
theorem mem_putZ {x z : Int} : ∀ {l : List Int}, z ∈ putZ x l ↔ z = x ∨ z ∈ l
  | [] => by simp [putZ]
  | y :: r => by
    rw [putZ]
    by_cases e : x < y
    · rw [if_pos e, List.mem_cons]
    · rw [if_neg e, List.mem_cons, mem_putZ, List.mem_cons]
      constructor
      · rintro (h | h | h)
        · exact .inr (.inl h)
        · exact .inl h
        · exact .inr (.inr h)
      · rintro (h | h | h)
        · exact .inr (.inl h)
        · exact .inl h
        · exact .inr (.inr h)
theorem mem_sortZ {z : Int} : ∀ {l : List Int}, z ∈ sortZ l ↔ z ∈ l
  | [] => Iff.rfl
  | x :: r => by rw [sortZ, mem_putZ, mem_sortZ, List.mem_cons]
theorem putZ_up {x : Int} : ∀ {l : List Int}, l.Pairwise (· < ·) → x ∉ l → (putZ x l).Pairwise (· < ·)
  | [], _, _ => List.pairwise_singleton _ _
  | y :: r, h, hx => by
    obtain ⟨a1, a2⟩ := List.pairwise_cons.mp h
    rw [putZ]
    have hne : x ≠ y := fun z => hx (by rw [z]; exact List.mem_cons_self)
    by_cases e : x < y
    · rw [if_pos e]
      exact List.pairwise_cons.mpr ⟨fun z hz => by
        rcases List.mem_cons.mp hz with rfl | hz
        · exact e
        · exact Int.lt_trans e (a1 z hz), h⟩
    · rw [if_neg e]
      exact List.pairwise_cons.mpr ⟨fun z hz => by
        rcases mem_putZ.mp hz with rfl | hz
        · omega
        · exact a1 z hz, putZ_up a2 fun z => hx (List.mem_cons_of_mem _ z)⟩
theorem sortZ_up : ∀ {l : List Int}, l.Nodup → (sortZ l).Pairwise (· < ·)
  | [], _ => .nil
  | x :: r, h => by
    obtain ⟨a1, a2⟩ := List.nodup_cons.mp h
    exact putZ_up (sortZ_up a2) fun z => a1 (mem_sortZ.mp z)
theorem sortZ_id : ∀ {l : List Int}, l.Pairwise (· < ·) → sortZ l = l
  | [], _ => rfl
  | x :: r, h => by
    obtain ⟨a1, a2⟩ := List.pairwise_cons.mp h
    rw [sortZ, sortZ_id a2]
    cases r with
    | nil => rfl
    | cons y t => rw [putZ, if_pos (a1 y List.mem_cons_self)]
theorem ddI_nodup (ns : List Int) : (ddI ns).Nodup := by
  have key : ∀ (l acc : List Int), acc.Nodup → (l.foldl (fun acc x => if acc.any (· == x) then acc else acc ++ [x]) acc).Nodup := by
    intro l
    induction l with
    | nil => intro acc h; exact h
    | cons x r ih =>
      intro acc h
      rw [List.foldl_cons]
      apply ih
      by_cases e : acc.any (· == x) = true
      · rw [if_pos e]; exact h
      · rw [if_neg e]
        refine List.nodup_append.mpr ⟨h, List.nodup_cons.mpr ⟨by simp, .nil⟩, fun y hy z hz => ?_⟩
        rw [List.mem_singleton.mp hz]
        intro e2
        apply e
        exact List.any_eq_true.mpr ⟨y, hy, by rw [e2]; exact beq_self_eq_true x⟩
  exact key ns [] .nil
theorem ddI_id {ns : List Int} (h : ns.Nodup) : ddI ns = ns := by
  have key : ∀ (l acc : List Int), (acc ++ l).Nodup → l.foldl (fun acc x => if acc.any (· == x) then acc else acc ++ [x]) acc = acc ++ l := by
    intro l
    induction l with
    | nil => intro acc _; simp
    | cons x r ih =>
      intro acc h
      have hx : ¬ acc.any (· == x) = true := fun z => by
        obtain ⟨y, hy, e⟩ := List.any_eq_true.mp z
        have e2 : y = x := beq_iff_eq.mp e
        subst e2
        exact (List.nodup_append.mp h).2.2 y hy y List.mem_cons_self rfl
      rw [List.foldl_cons, if_neg hx, ih _ (by simpa using h)]
      simp
  exact key ns [] (by simpa using h)
theorem up_sort (ns : List Int) : ns = sortZ (ddI ns) ↔ ns.Pairwise (· < ·) := by
  constructor
  · intro h
    rw [h]
    exact sortZ_up (ddI_nodup ns)
  · intro h
    rw [ddI_id (h.imp fun h => Int.ne_of_lt h), sortZ_id h]
theorem ddI_len (ns : List Int) : (ddI ns).length ≤ ns.length := by
  have key : ∀ (l acc : List Int), (l.foldl (fun acc x => if acc.any (· == x) then acc else acc ++ [x]) acc).length ≤ acc.length + l.length := by
    intro l
    induction l with
    | nil => intro acc; simp
    | cons x r ih =>
      intro acc
      rw [List.foldl_cons, List.length_cons]
      refine Nat.le_trans (ih _) ?_
      by_cases e : acc.any (· == x) = true
      · rw [if_pos e]; omega
      · rw [if_neg e, List.length_append, List.length_singleton]; omega
  have := key ns []
  rw [List.length_nil, Nat.zero_add] at this
  exact this
theorem ddI_mem (ns : List Int) : ∀ z ∈ ddI ns, z ∈ ns := by
  have key : ∀ (l acc : List Int), ∀ z ∈ l.foldl (fun acc x => if acc.any (· == x) then acc else acc ++ [x]) acc, z ∈ acc ∨ z ∈ l := by
    intro l
    induction l with
    | nil => intro acc z h; exact .inl h
    | cons x r ih =>
      intro acc z h
      rw [List.foldl_cons] at h
      rcases ih _ z h with h | h
      · by_cases e : acc.any (· == x) = true
        · rw [if_pos e] at h
          exact .inl h
        · rw [if_neg e] at h
          rcases List.mem_append.mp h with h | h
          · exact .inl h
          · rw [List.mem_singleton.mp h]
            exact .inr List.mem_cons_self
      · exact .inr (List.mem_cons_of_mem _ h)
  intro z h
  rcases key ns [] z h with h | h
  · cases h
  · exact h
theorem putZ_len (x : Int) : ∀ l : List Int, (putZ x l).length = l.length + 1
  | [] => rfl
  | y :: r => by
    rw [putZ]
    by_cases e : x < y
    · rw [if_pos e]; rfl
    · rw [if_neg e, List.length_cons, putZ_len x r]; rfl
theorem sortZ_len : ∀ l : List Int, (sortZ l).length = l.length
  | [] => rfl
  | x :: r => by rw [sortZ, putZ_len, sortZ_len r]; rfl
/-! ### texts, sign by sign -/
theorem one_inj {a b : Nat} : oneS a = oneS b ↔ a = b := ⟨fun h => by
  have := congrArg (fun x : Str => x.cps.toList) h
  simpa [oneS] using this, fun h => by rw [h]⟩
abbrev chs (x : Str) : List Nat := x.cps.toList
theorem chs_len (x : Str) : (chs x).length = x.length := Array.length_toList
theorem str_ext {x y : Str} (h : chs x = chs y) : x = y := by
  cases x
  cases y
  exact congrArg Str.mk (Array.toList_inj.mp h)
structure WT (n : Nat) (x : Str) : Prop where
  len : x.length ≤ n
  lo : ∀ c ∈ chs x, c < 128
theorem WT.mono {n m : Nat} {x : Str} (h : WT n x) (l : n ≤ m) : WT m x := ⟨Nat.le_trans h.len l, h.lo⟩
theorem chs_add (x y : Str) : chs (x ++ y) = chs x ++ chs y := by
  show (x.cps ++ y.cps).toList = _
  rw [Array.toList_append]
theorem WT.add {n m : Nat} {x y : Str} (h : WT n x) (k : WT m y) : WT (n + m) (x ++ y) := ⟨by
  rw [← chs_len, chs_add, List.length_append, chs_len, chs_len]
  exact Nat.add_le_add h.len k.len, fun c hc => by
  rw [chs_add] at hc
  rcases List.mem_append.mp hc with z | z
  · exact h.lo c z
  · exact k.lo c z⟩
theorem chs_cut (x : Str) (l h : Option Int) : chs (cutT x l h) = cutL (chs x) l h := rfl
theorem cutL_sub {α : Type} (xs : List α) (l h : Option Int) : ∀ x ∈ cutL xs l h, x ∈ xs := fun x hx => by
  unfold cutL at hx
  exact List.mem_of_mem_drop (List.mem_of_mem_take hx)
theorem WT.cut {n : Nat} {x : Str} (w : WT n x) (l h : Option Int) : WT n (cutT x l h) := ⟨by
  rw [← chs_len, chs_cut]
  have := cutL_le (chs x) l h
  rw [chs_len] at this
  exact Nat.le_trans this w.len, fun c hc => by
  rw [chs_cut] at hc
  exact w.lo c (cutL_sub _ _ _ c hc)⟩
theorem ix_txt {z : Str} {i : Nat} (hi : i < z.length) (h : z.length ≤ 1000) : ∃ c ∈ chs z, D.ixX (.str z) (.int i) = pure (.str (oneS c)) ∧ (chs z)[i]? = some c := by
  have hl : i < (chs z).length := by rw [chs_len]; exact hi
  refine ⟨(chs z)[i], List.getElem_mem hl, ?_, List.getElem?_eq_getElem hl⟩
  show (guard _ >>= fun _ => _) = _
  rw [guard_bind (by rw [line_eq]; omega)]
  unfold atI'
  have hl2 : i < z.cps.toList.length := hl
  rw [if_pos (by omega), if_pos (by omega), Int.toNat_natCast, List.getElem?_eq_getElem hl]
  rfl
theorem cut_txt {z : Str} (h : z.length ≤ 1000) (l k : Option Int) : D.cutX (.str z) l k = pure (.str (cutT z l k)) := by
  show (guard _ >>= fun _ => _) = _
  rw [guard_bind (by rw [line_eq]; omega)]
theorem add_txt {x y : Str} (h : x.length + y.length ≤ 1000) : D.add (.str x) (.str y) = pure (.str (x ++ y)) := by
  show (guard _ >>= fun _ => _) = _
  rw [guard_bind (by rw [line_eq]; omega)]
theorem len_txt {x : Str} (h : x.length ≤ 1000) : D.len (.str x) = pure (.int x.length) := by
  show (guard _ >>= fun _ => _) = _
  rw [guard_bind (by rw [line_eq]; omega)]
theorem items_txt (x : Str) : itemsX (.str x) = pure ((chs x).map fun c => D.str (oneS c)) := rfl
theorem in_txt (c : Nat) (z : Str) : D.innX false (.str (oneS c)) (.str z) = pure (.bl (decide (c ∈ chs z))) := rfl
theorem notin_txt (c : Nat) (z : Str) : D.innX true (.str (oneS c)) (.str z) = pure (.bl (!decide (c ∈ chs z))) := rfl
theorem all_txt {x : Str} (h : x.length ≤ 1000) (z : Str) : lcF (pure ((chs x).map fun c => D.str (oneS c))) tg1 (fun _ => pure true) (fun s => D.innX false s (.str z)) = pure ((chs x).map fun c => D.bl (decide (c ∈ chs z))) :=
  lcF_mapA (f := fun c => D.str (oneS c)) (fun c => D.bl (decide (c ∈ chs z))) (by rw [chs_len]; omega) fun c _ => in_txt c z
theorem wrong_txt {x : Str} (h : x.length ≤ 1000) (z : Str) : lcF (pure ((chs x).map fun c => D.str (oneS c))) tg1 (fun s => D.innX true s (.str z) >>= isB) (fun s => pure s) = pure (((chs x).filter fun c => !decide (c ∈ chs z)).map fun c => D.str (oneS c)) :=
  lcF_mapP (f := fun c => D.str (oneS c)) (fun c => !decide (c ∈ chs z)) (fun c => D.str (oneS c)) (by rw [chs_len]; omega) (fun c _ => by rw [notin_txt, pure_bind, isB_bl]) fun c _ _ => rfl
theorem cm_one {c : Nat} (h : c < 128) : D.cm 3 (.str (oneS c)) := cm_str 3 _ (by
  unfold PyData.strOk oneS
  simp
  omega)
theorem neA_ones {L : List Nat} (h : ∀ c ∈ L, c < 128) : D.neA (.lst (L.map fun c => D.str (oneS c))) (.lst []) = pure (.bl (!decide (L = []))) := by
  rw [neA_cm (cm_lst (n := 3) fun x hx => by
    obtain ⟨c, hc, rfl⟩ := List.mem_map.mp hx
    exact cm_one (h c hc)) (cm_mono (cm_lst (n := 0) (xs := []) (by simp)) (by decide)) (by decide)]
  cases L with
  | nil => simp [D.eqv, D.py, D.pys, PyData.eqv, PyData.eqvAll]
  | cons x r => simp [D.eqv, D.py, D.pys, PyData.eqv, PyData.eqvAll]
theorem filt_all {L : List Nat} {z : Str} : decide (L.filter (fun c => !decide (c ∈ chs z)) = []) = L.all fun c => decide (c ∈ chs z) := by
  rw [Bool.eq_iff_iff, decide_eq_true_iff, List.filter_eq_nil_iff, List.all_eq_true]
  exact ⟨fun h c hc => by simpa using h c hc, fun h c hc => by simpa using h c hc⟩
/-! ### hues -/
def hueI (c : Nat) : Int := if c = 46 then -1 else (c : Int) - 48
def hueD (c : Nat) : D := .int (hueI c)
def hueG (x z : Str) : Bool := decide (1 ≤ x.length) && decide (x.length ≤ 40) && (chs x).all fun c => decide (c ∈ chs z)
def s4 : Str := "0123"
def s5 : Str := "0123."
theorem sign_of {z : Str} (hz : z = s4 ∨ z = s5) {c : Nat} (h : c ∈ chs z) : (D.eqA (.str (oneS c)) (.str ".") >>= isB >>= fun k => if k = true then D.neg (.int 1) else D.sidx (.str z) (.str (oneS c))) = pure (hueD c) ∧ (D.sidx (.str ".0123") (.str (oneS c)) >>= fun d => D.sub d (.int 1)) = pure (hueD c) := by
  have h5 : c = 48 ∨ c = 49 ∨ c = 50 ∨ c = 51 ∨ c = 46 ∧ z = s5 := by
    rcases hz with rfl | rfl
    · have e : chs s4 = [48, 49, 50, 51] := by decide +kernel
      rw [e] at h
      simp only [List.mem_cons, List.not_mem_nil, or_false] at h
      omega
    · have e : chs s5 = [48, 49, 50, 51, 46] := by decide +kernel
      rw [e] at h
      simp only [List.mem_cons, List.not_mem_nil, or_false] at h
      rcases h with h | h | h | h | h
      · exact .inl h
      · exact .inr (.inl h)
      · exact .inr (.inr (.inl h))
      · exact .inr (.inr (.inr (.inl h)))
      · exact .inr (.inr (.inr (.inr ⟨h, rfl⟩)))
  have idx : ∀ (a : Str) (c i : Nat), PySem.Builtin.Str.occurrences a (oneS c) 0 a.length 1 = [i] → D.sidx (.str a) (.str (oneS c)) = pure (.int i) := fun a c i e => by
    show (match PySem.Builtin.Str.occurrences a (oneS c) 0 a.length 1 with | i :: _ => pure (.int (i : Nat)) | [] => fail : M D) = _
    rw [e]
  have dot : ∀ c : Nat, c ≠ 46 → D.eqA (.str (oneS c)) (.str ".") = pure (.bl false) := fun c hc => by
    rw [eqA_str, decide_eq_false]
    intro e
    exact hc (one_inj.mp (e.trans (show Str.ofString "." = oneS 46 by decide +kernel)))
  rcases h5 with rfl | rfl | rfl | rfl | ⟨rfl, rfl⟩
  · rw [dot 48 (by decide), idx ".0123" 48 1 (by decide +kernel), pure_bind, pure_bind, isB_bl, pure_bind, if_neg (by decide)]
    refine ⟨?_, rfl⟩
    rcases hz with rfl | rfl
    · exact idx s4 48 0 (by decide +kernel)
    · exact idx s5 48 0 (by decide +kernel)
  · rw [dot 49 (by decide), idx ".0123" 49 2 (by decide +kernel), pure_bind, pure_bind, isB_bl, pure_bind, if_neg (by decide)]
    refine ⟨?_, rfl⟩
    rcases hz with rfl | rfl
    · exact idx s4 49 1 (by decide +kernel)
    · exact idx s5 49 1 (by decide +kernel)
  · rw [dot 50 (by decide), idx ".0123" 50 3 (by decide +kernel), pure_bind, pure_bind, isB_bl, pure_bind, if_neg (by decide)]
    refine ⟨?_, rfl⟩
    rcases hz with rfl | rfl
    · exact idx s4 50 2 (by decide +kernel)
    · exact idx s5 50 2 (by decide +kernel)
  · rw [dot 51 (by decide), idx ".0123" 51 4 (by decide +kernel), pure_bind, pure_bind, isB_bl, pure_bind, if_neg (by decide)]
    refine ⟨?_, rfl⟩
    rcases hz with rfl | rfl
    · exact idx s4 51 3 (by decide +kernel)
    · exact idx s5 51 3 (by decide +kernel)
  · rw [idx ".0123" 46 0 (by decide +kernel), eqA_str, show decide (oneS 46 = Str.ofString ".") = true by decide +kernel, pure_bind, pure_bind, isB_bl, pure_bind, if_pos rfl]
    exact ⟨rfl, rfl⟩
theorem hues_in_eq {x z : Str} (hz : z = s4 ∨ z = s5) (w : WT 1000 x) : D_hues_in [.str x, .str z] = if x = "none" then pure (.tup []) else if hueG x z = true then pure (.tup ((chs x).map hueD)) else raise ⟨"NoText", none⟩ := by
  have hl := w.len
  rw [D_hues_in_eq]
  unfold B_hues_in
  simp only [callM_def, seqL_cons, seqL_nil, pure_bind, bin_def, f1_one, isaM_str, notM_def, asB_def, isB_bl, show ((Ty.str == Ty.str) : Bool) = true from rfl, Bool.not_true, Bool.false_eq_true, if_false, eqA_str, tupM_def, items_txt, chainM_def, len_txt hl, le_int, all_txt hl]
  by_cases e : x = "none"
  · rw [if_pos e, decide_eq_true e]
    rfl
  · rw [if_neg e, decide_eq_false e, if_neg (by decide)]
    have hg : (orM ((if decide ((1 : Int) ≤ (x.length : Nat)) = true then pure (.bl (decide (((x.length : Nat) : Int) ≤ 40))) else pure (D.bl false)) >>= isB >>= fun k => pure !k) (D.all (.lst ((chs x).map fun c => D.bl (decide (c ∈ chs z)))) >>= isB >>= fun k => pure !k)) = pure (!hueG x z) := by
      rw [all_map (fun c => decide (c ∈ chs z))]
      unfold hueG
      by_cases h1 : 1 ≤ x.length
      · rw [decide_eq_true (show (1 : Int) ≤ (x.length : Nat) by omega), if_pos rfl, decide_eq_true h1]
        by_cases h2 : x.length ≤ 40
        · rw [decide_eq_true (show ((x.length : Nat) : Int) ≤ 40 by omega), decide_eq_true h2]
          rfl
        · rw [decide_eq_false (show ¬ ((x.length : Nat) : Int) ≤ 40 by omega), decide_eq_false h2]
          rfl
      · rw [decide_eq_false (show ¬ (1 : Int) ≤ (x.length : Nat) by omega), if_neg (by decide), decide_eq_false h1]
        rfl
    rw [hg, pure_bind]
    cases hG : hueG x z with
    | false => rfl
    | true =>
      unfold hueG at hG
      simp only [Bool.and_eq_true, List.all_eq_true, decide_eq_true_eq] at hG
      rw [Bool.not_true, if_neg (by decide), if_pos rfl]
      have e2 := lcF_mapA (f := fun c => D.str (oneS c)) (re := fun v_sign => D.eqA v_sign (.str ".") >>= isB >>= fun k => if k = true then D.neg (.int 1) else sidxM (pure (.str z)) (pure v_sign)) hueD (L := chs x) (by rw [chs_len]; omega) fun c hc => (sign_of hz (hG.2 c hc)).1
      rw [e2]
      rfl
/-! ### words -/
def words (x : Str) : List Str := PySem.Txt.split x ","
theorem split_txt {x : Str} (h : x.length ≤ 1000) : splitM (pure (.str x)) (pure (.str ",")) = pure ((words x).map D.str) := by
  show (guard _ >>= fun _ => _) = _
  rw [guard_bind ⟨by decide +kernel, by rw [line_eq]; omega⟩]
  rfl
theorem spl_ok (S : List Nat) : ∀ (l : List Nat) (k : Nat) (acc : List Nat), TL.spl S k acc l ≠ [] ∧ (TL.spl S k acc l).length ≤ l.length + 1 ∧ ∀ p ∈ TL.spl S k acc l, p.length ≤ acc.length + l.length ∧ ∀ c ∈ p, c ∈ acc ∨ c ∈ l
  | [], k, acc => by
    rw [TL.spl_nil]
    exact ⟨by simp, by simp, fun p hp => by
      rw [List.mem_singleton.mp hp]
      exact ⟨by simp, fun c hc => .inl hc⟩⟩
  | c :: r, 0, acc => by
    show (if TL.pre S (c :: r) = true then acc :: TL.spl S (S.length - 1) [] r else TL.spl S 0 (acc ++ [c]) r) ≠ [] ∧ _
    by_cases e : TL.pre S (c :: r) = true
    · rw [TL.spl_hit e]
      obtain ⟨h1, h2, h3⟩ := spl_ok S r (S.length - 1) []
      refine ⟨by rw [if_pos e]; simp, by simp only [List.length_cons]; omega, fun p hp => ?_⟩
      rcases List.mem_cons.mp hp with rfl | hp
      · exact ⟨by simp, fun c hc => .inl hc⟩
      · obtain ⟨a, b⟩ := h3 p hp
        rw [List.length_nil] at a
        exact ⟨by rw [List.length_cons]; omega, fun d hd => (b d hd).elim (fun z => nomatch z) fun z => .inr (List.mem_cons_of_mem _ z)⟩
    · rw [Bool.not_eq_true] at e
      rw [TL.spl_miss e]
      obtain ⟨h1, h2, h3⟩ := spl_ok S r 0 (acc ++ [c])
      refine ⟨by rw [if_neg (by rw [e]; decide)]; exact h1, by simp only [List.length_cons]; omega, fun p hp => ?_⟩
      obtain ⟨a, b⟩ := h3 p hp
      rw [List.length_append, List.length_singleton] at a
      refine ⟨by rw [List.length_cons]; omega, fun d hd => ?_⟩
      rcases b d hd with z | z
      · rcases List.mem_append.mp z with z | z
        · exact .inl z
        · rw [List.mem_singleton.mp z]
          exact .inr List.mem_cons_self
      · exact .inr (List.mem_cons_of_mem _ z)
  | c :: r, k + 1, acc => by
    obtain ⟨h1, h2, h3⟩ := spl_ok S r k acc
    exact ⟨h1, by simp only [List.length_cons]; exact Nat.le_succ_of_le h2, fun p hp => ⟨by
      have := (h3 p hp).1
      rw [List.length_cons]
      omega, fun d hd => (h3 p hp).2 d hd |>.imp id fun z => List.mem_cons_of_mem _ z⟩⟩
theorem words_ok {n : Nat} {x : Str} (w : WT n x) : words x ≠ [] ∧ (words x).length ≤ n + 1 ∧ ∀ y ∈ words x, WT n y := by
  have e : (words x).map TL.tl = TL.spl (TL.tl ",") 0 [] (TL.tl x) := TL.split_spl x "," (by decide +kernel) (TL.kind_ok (by decide +kernel))
  obtain ⟨h1, h2, h3⟩ := spl_ok (TL.tl ",") (TL.tl x) 0 []
  rw [← e] at h1 h2 h3
  have hl : (TL.tl x).length = x.length := (TL.len_tl x).symm
  refine ⟨fun z => h1 (by rw [z]; rfl), ?_, fun y hy => ?_⟩
  · rw [List.length_map] at h2
    have := w.len
    omega
  · obtain ⟨a, b⟩ := h3 (TL.tl y) (List.mem_map_of_mem hy)
    have hy2 : (TL.tl y).length = y.length := (TL.len_tl y).symm
    refine ⟨?_, fun c hc => ?_⟩
    · have := w.len
      rw [List.length_nil] at a
      omega
    · rcases b c hc with z | z
      · cases z
      · exact w.lo c z
/-! ### numbers -/
def digG (y : Str) : Bool := (chs y).all fun c => decide (c ∈ chs "0123456789")
def numG (y : Str) : Bool := decide (1 ≤ y.length) && decide (y.length ≤ 30) && digG y && !(decide ((chs y).head? = some 48) && decide (1 < y.length))
def numV (y : Str) : Nat := PySem.NumText.digitsVal (chs y)
def numD (y : Str) : D := if numG y = true then .int (numV y) else .non
theorem dig_mem {c : Nat} : c ∈ chs "0123456789" ↔ 48 ≤ c ∧ c ≤ 57 := by
  have e : chs "0123456789" = [48, 49, 50, 51, 52, 53, 54, 55, 56, 57] := by decide +kernel
  rw [e]
  simp only [List.mem_cons, List.not_mem_nil, or_false]
  omega
theorem int_txt {y : Str} (h1 : 1 ≤ y.length) (h2 : y.length ≤ 30) (h3 : digG y = true) : D.toIntX (.str y) = pure (.int (numV y : Nat)) := by
  show (guard _ >>= fun _ => _) = _
  rw [guard_bind (by omega), PySem.intText_digits (x := y) (fun c hc => dig_mem.mp (by
    unfold digG at h3
    exact of_decide_eq_true (List.all_eq_true.mp h3 c hc))) (fun z => by
    have := chs_len y
    rw [show chs y = [] from z] at this
    rw [← this] at h1
    exact absurd h1 (by decide)) (by omega)]
  rfl
theorem dv_lt (a : Nat) : ∀ (cs : List Nat) (acc n : Nat), (∀ c ∈ cs, c ≤ 57) → acc < 10 ^ n → cs.foldl (fun acc c => acc * 10 + (c - 48)) acc < 10 ^ (n + cs.length)
  | [], acc, n, _, h => h
  | c :: r, acc, n, hc, h => by
    rw [List.foldl_cons, List.length_cons, show n + (r.length + 1) = (n + 1) + r.length by omega]
    refine dv_lt a r _ (n + 1) (fun d hd => hc d (List.mem_cons_of_mem _ hd)) ?_
    have := hc c List.mem_cons_self
    rw [Nat.pow_succ]
    omega
theorem numV_lt {y : Str} (h2 : y.length ≤ 30) (h3 : digG y = true) : numV y < 10 ^ 30 := by
  have := dv_lt 0 (chs y) 0 0 (fun c hc => by
    unfold digG at h3
    exact (dig_mem.mp (of_decide_eq_true (List.all_eq_true.mp h3 c hc))).2) (by decide)
  rw [Nat.zero_add, chs_len] at this
  exact Nat.lt_of_lt_of_le this (Nat.pow_le_pow_right (by decide) h2)
theorem head_txt {y : Str} (h1 : 1 ≤ y.length) (h2 : y.length ≤ 1000) : (D.ixX (.str y) (.int 0) >>= fun d => D.eqA d (.str "0")) = pure (.bl (decide ((chs y).head? = some 48))) := by
  obtain ⟨c, hc, e1, e2⟩ := ix_txt (i := 0) (z := y) (by omega) h2
  rw [show D.ixX (.str y) (.int 0) = pure (.str (oneS c)) from e1, pure_bind, eqA_str]
  have e3 : (chs y).head? = some c := by rw [← e2]; cases chs y <;> rfl
  rw [e3]
  congr 2
  rw [decide_eq_decide, show (Str.ofString "0") = oneS 48 by decide +kernel, one_inj, Option.some_inj]
theorem number_in_eq {y : Str} (w : WT 1000 y) : D_number_in [.str y] = pure (numD y) := by
  have hl := w.len
  rw [D_number_in_eq]
  unfold B_number_in
  simp only [callM_def, seqL_cons, seqL_nil, pure_bind, bin_def, f1_one, notM_def, asB_def, isB_bl, items_txt, chainM_def, len_txt hl, le_int, gt_int, all_txt hl]
  have hg : (orM ((if decide ((1 : Int) ≤ (y.length : Nat)) = true then pure (.bl (decide (((y.length : Nat) : Int) ≤ 30))) else pure (D.bl false)) >>= isB >>= fun k => pure !k) (D.all (.lst ((chs y).map fun c => D.bl (decide (c ∈ chs "0123456789")))) >>= isB >>= fun k => pure !k)) = pure (!(decide (1 ≤ y.length) && decide (y.length ≤ 30) && digG y)) := by
    rw [all_map (fun c => decide (c ∈ chs "0123456789"))]
    unfold digG
    by_cases h1 : 1 ≤ y.length
    · rw [decide_eq_true (show (1 : Int) ≤ (y.length : Nat) by omega), if_pos rfl, decide_eq_true h1]
      by_cases h2 : y.length ≤ 30
      · rw [decide_eq_true (show ((y.length : Nat) : Int) ≤ 30 by omega), decide_eq_true h2]
        rfl
      · rw [decide_eq_false (show ¬ ((y.length : Nat) : Int) ≤ 30 by omega), decide_eq_false h2]
        rfl
    · rw [decide_eq_false (show ¬ (1 : Int) ≤ (y.length : Nat) by omega), if_neg (by decide), decide_eq_false h1]
      rfl
  rw [hg, pure_bind]
  unfold numD numG
  cases hG : (decide (1 ≤ y.length) && decide (y.length ≤ 30) && digG y) with
  | false => rfl
  | true =>
    simp only [Bool.and_eq_true, decide_eq_true_eq] at hG
    obtain ⟨⟨h1, h2⟩, h3⟩ := hG
    rw [Bool.not_true, if_neg (by decide), head_txt h1 (by omega), pure_bind, isB_bl, andM_def, pure_bind, Bool.true_and]
    by_cases c1 : (chs y).head? = some 48
    · rw [decide_eq_true c1, if_pos rfl, pure_bind]
      by_cases c2 : 1 < y.length
      · rw [decide_eq_true (show (1 : Int) < (y.length : Nat) by omega), decide_eq_true c2]
        rfl
      · rw [decide_eq_false (show ¬ (1 : Int) < (y.length : Nat) by omega), decide_eq_false c2, if_neg (by decide), int_txt h1 h2 h3]
        rfl
    · rw [decide_eq_false c1, if_neg (by decide), pure_bind, if_neg (by decide), int_txt h1 h2 h3]
      rfl
theorem numbers_in_eq {x : Str} (w : WT 900 x) : D_numbers_in [.str x] = pure (.tup ((words x).map numD)) := by
  obtain ⟨w1, w2, w3⟩ := words_ok w
  have hl := w.len
  rw [D_numbers_in_eq]
  unfold B_numbers_in
  simp only [callM_def, seqL_cons, seqL_nil, pure_bind, f1_one, isaM_str, notM_def, asB_def, isB_bl, show ((Ty.str == Ty.str) : Bool) = true from rfl, Bool.not_true, Bool.false_eq_true, if_false, split_txt (show x.length ≤ 1000 by omega), show itemsX (.lst ((words x).map D.str)) = pure ((words x).map D.str) from rfl]
  rw [lcF_mapA (f := D.str) numD (by omega) fun y hy => number_in_eq ((w3 y hy).mono (by decide))]
  rfl
/-! ### the readers -/
theorem cut_signs : cutT "0123." none (some 4) = s4 := by decide +kernel
def noText : M D := raise ⟨"NoText", none⟩
def hueM (x z : Str) : M D := if x = "none" then pure (.tup []) else if hueG x z = true then pure (.tup ((chs x).map hueD)) else noText
theorem strip_read_eq {x : Str} (w : WT 1000 x) : D_strip_read [.str x] = hueM x s4 := by
  rw [D_strip_read_eq]
  unfold B_strip_read
  simp only [callM_def, seqL_cons, seqL_nil, pure_bind, partM_def, asI_int, cutM_def, cut_txt (z := "0123.") (by decide +kernel), cut_signs, hues_in_eq (.inl rfl) w, endB_bind, endB_rt, bind_pure]
  rfl
theorem draft_read_eq {x : Str} (w : WT 1000 x) : D_draft_read [.str x] = hueM x s5 := by
  rw [D_draft_read_eq]
  unfold B_draft_read
  simp only [callM_def, seqL_cons, seqL_nil, pure_bind, hues_in_eq (z := "0123.") (.inr rfl) w, endB_bind, endB_rt, bind_pure]
  rfl
theorem numD_kn (y : Str) : (numD y).kn ∧ (numD y).plain true = true := by
  unfold numD
  split
  · exact ⟨trivial, rfl⟩
  · exact ⟨trivial, rfl⟩
theorem plain_nums (ws : List Str) : D.plain true (.tup (ws.map numD)) = true := by
  rw [D.plain, D.plains_all, List.all_eq_true]
  intro x hx
  obtain ⟨y, _, rfl⟩ := List.mem_map.mp hx
  exact (numD_kn y).2
def sizG (x : Str) : Bool := areB (.tup ((words x).map numD))
theorem sizes_read_eq {x : Str} (w : WT 900 x) : D_sizes_read [.str x] = if sizG x = true then pure (.tup ((words x).map numD)) else noText := by
  rw [D_sizes_read_eq]
  unfold B_sizes_read
  simp only [callM_def, seqL_cons, seqL_nil, pure_bind, numbers_in_eq w, are_sizes_eq (plain_nums (words x)), notM_def, asB_def, isB_bl]
  unfold sizG
  cases areB (.tup ((words x).map numD)) <;> rfl
theorem btw_tn {a b : Int} (ha : 0 ≤ a) : ∀ {xs : List D}, (∀ x ∈ xs, btw x a b = true) → ∃ l : List Nat, D.tup xs = tn l ∧ ∀ x ∈ l, (x : Int) ≤ b
  | [], _ => ⟨[], rfl, by simp⟩
  | x :: r, h => by
    obtain ⟨l, e, hl⟩ := btw_tn ha fun y hy => h y (List.mem_cons_of_mem _ hy)
    have hx := h x List.mem_cons_self
    cases x with
    | int i =>
      simp only [btw, Bool.and_eq_true, decide_eq_true_iff] at hx
      refine ⟨i.toNat :: l, ?_, fun y hy => ?_⟩
      · unfold tn at e ⊢
        rw [D.tup.inj e, List.map_cons, Int.toNat_of_nonneg (by omega)]
      · rcases List.mem_cons.mp hy with rfl | hy
        · omega
        · exact hl y hy
    | _ => exact absurd (show false = true from hx) Bool.false_ne_true
theorem zip_up : ∀ {l : List Nat}, (∀ p ∈ l.zip (l.drop 1), p.1 < p.2) → l.Pairwise (· < ·)
  | [], _ => .nil
  | [x], _ => List.pairwise_singleton _ _
  | x :: y :: r, h => by
    rw [List.drop_succ_cons, List.drop_zero, List.zip_cons_cons] at h
    have hxy := h (x, y) List.mem_cons_self
    have ih := zip_up (l := y :: r) fun p hp => h p (List.mem_cons_of_mem _ (by rwa [List.drop_succ_cons, List.drop_zero] at hp))
    obtain ⟨a, _⟩ := List.pairwise_cons.mp ih
    exact List.pairwise_cons.mpr ⟨fun z hz => by
      rcases List.mem_cons.mp hz with rfl | hz
      · exact hxy
      · exact Nat.lt_trans hxy (a z hz), ih⟩
def IsLot (t : D) : Prop := ∃ l, t = tn l ∧ Lot l
noncomputable def lotB (t : D) : Bool := @decide (IsLot t) (Classical.propDecidable _)
theorem is_lot_gen {xs : List D} (he : ∀ x ∈ xs, x.kn) (hl : xs.length ≤ 1000) : D_is_lot [.tup xs] = pure (.bl (lotB (.tup xs))) := by
  unfold lotB
  letI := Classical.propDecidable (IsLot (.tup xs))
  by_cases y : IsLot (.tup xs)
  · obtain ⟨l, e, L⟩ := id y
    rw [decide_eq_true y, e]
    exact is_lot_ok L
  rw [decide_eq_false y]
  rw [D_is_lot_eq]
  unfold B_is_lot
  simp only [pure_bind, bin_def, callM_def, seqL_cons, seqL_nil, f1_one, notM_def, asB_def, orM_def, show isaM .tuple (.tup xs) = pure (.bl true) from rfl, isB_bl, Bool.not_true, Bool.false_eq_true, if_false, show itemsL (.tup xs) = pure xs from rfl]
  rw [lcF_map1 (fun x => .bl (btw x 0 39)) (by omega) (fun x hx => is_between_eq (he x hx) 0 39)]
  simp only [pure_bind, f1_one]
  rw [all_map (fun x => btw x 0 39), pure_bind, isB_bl, pure_bind]
  by_cases c : (xs.all fun x => btw x 0 39) = true
  · rw [c]
    obtain ⟨l, e, hb⟩ := btw_tn (b := 39) (Int.le_refl 0) fun x hx => List.all_eq_true.mp c x hx
    have hup : ¬ l.Pairwise (· < ·) := fun z => y ⟨l, e, z, fun x hx => by have := hb x hx; omega⟩
    have hz : (l.zip (l.drop 1)).all (fun p => decide ((p.1 : Int) < (p.2 : Int))) = false := by
      rw [List.all_eq_false]
      apply Classical.byContradiction
      intro z
      apply hup
      refine zip_up fun p hp => Classical.byContradiction fun y => z ⟨p, hp, ?_⟩
      rw [decide_eq_true_iff]
      omega
    have hll : l.length ≤ 1000 := by
      have e2 := D.tup.inj e
      rw [e2, List.length_map] at hl
      exact hl
    simp only [Bool.not_true, Bool.false_eq_true, if_false, e, partM_def, asI_int, pure_bind, cutM_def, cut_one, zip_tn]
    rw [lcF_un2 (a := fun p : Nat × Nat => .int p.1) (b := fun p : Nat × Nat => .int p.2) (g := fun p : Nat × Nat => .bl (decide ((p.1 : Int) < (p.2 : Int)))) (fun _ => rfl) (by rw [List.length_zip]; omega) fun p hp => lt_int _ _]
    simp only [pure_bind, f1_one]
    rw [all_map (fun p : Nat × Nat => decide ((p.1 : Int) < (p.2 : Int))), hz]
    rfl
  · rw [Bool.eq_false_iff.mpr c]
    rfl
noncomputable def lotM (x : Str) : M D := if x = "none" then pure (.tup []) else if lotB (.tup ((words x).map numD)) = true then pure (.tup ((words x).map numD)) else noText
theorem lot_read_eq {x : Str} (w : WT 900 x) : D_lot_read [.str x] = lotM x := by
  obtain ⟨w1, w2, w3⟩ := words_ok w
  rw [D_lot_read_eq]
  unfold B_lot_read
  have e0 : ∀ a b : Str, D.eqX (.str a) (.str b) = pure (.bl (decide (a = b))) := fun a b => eqA_str a b
  simp only [callM_def, seqL_cons, seqL_nil, pure_bind, bin_def, e0, numbers_in_eq w, is_lot_gen (xs := (words x).map numD) (fun d hd => by
    obtain ⟨y, _, rfl⟩ := List.mem_map.mp hd
    exact (numD_kn y).1) (by rw [List.length_map]; omega), notM_def, asB_def, isB_bl, tupM_def]
  unfold lotM
  by_cases e : x = "none"
  · rw [decide_eq_true e, if_pos rfl, if_pos e]
    rfl
  · rw [decide_eq_false e, if_neg (by decide), if_neg e]
    cases lotB (.tup ((words x).map numD)) <;> rfl
end Ev

namespace Ev
open PySem (Str PyData)
-- eqd: lot_read
/-! ### what the law tells -/
theorem ones_zero {y : Str} (h : (chs y).head? = some 48) : (y = "0") ↔ ¬ 1 < y.length := by
  have hl := chs_len y
  constructor
  · rintro rfl
    decide +kernel
  · intro z
    apply str_ext
    have e : chs "0" = [48] := by decide +kernel
    rw [e]
    cases hy : chs y with
    | nil => rw [hy] at h; cases h
    | cons a r =>
      rw [hy] at h hl
      cases h
      rw [List.length_cons] at hl
      cases r with
      | nil => rfl
      | cons b t =>
        rw [List.length_cons] at hl
        omega
theorem wrong_word {y : Str} (w : WT 1000 y) : (orM (D.eqA (.str y) (.str "") >>= isB) (orM (pure (decide ((30 : Int) < (y.length : Nat)))) (orM (pure (!digG y)) (andM ((D.ixX (.str y) (.int 0) >>= fun d => D.eqA d (.str "0")) >>= isB) (pure (!decide (y = "0"))))))) = pure (!numG y) := by
  have hl := chs_len y
  rw [eqA_str, pure_bind, isB_bl, orM_def, pure_bind]
  unfold numG
  by_cases c0 : y = ""
  · rw [decide_eq_true c0, c0, if_pos rfl, show decide (1 ≤ (Str.ofString "").length) = false by decide +kernel]
    rfl
  rw [decide_eq_false c0, if_neg (by decide), orM_def, pure_bind]
  have h1 : 1 ≤ y.length := by
    apply Classical.byContradiction
    intro z
    apply c0
    apply str_ext
    have : chs y = [] := List.eq_nil_of_length_eq_zero (by omega)
    rw [this]
    decide +kernel
  rw [decide_eq_true h1]
  by_cases h2 : y.length ≤ 30
  · rw [decide_eq_false (show ¬ (30 : Int) < (y.length : Nat) by omega), decide_eq_true h2, if_neg (by decide), orM_def, pure_bind]
    cases h3 : digG y with
    | false => rfl
    | true =>
      rw [Bool.not_true, if_neg (by decide), head_txt h1 (by omega), pure_bind, isB_bl, andM_def, pure_bind]
      by_cases c1 : (chs y).head? = some 48
      · rw [decide_eq_true c1, if_pos rfl]
        have := ones_zero c1
        by_cases c2 : 1 < y.length
        · rw [decide_eq_true c2, decide_eq_false (show ¬ y = "0" from fun z => this.mp z c2)]
          rfl
        · rw [decide_eq_false c2, decide_eq_true (this.mpr c2)]
          rfl
      · rw [decide_eq_false c1]
        rfl
  · rw [decide_eq_true (show (30 : Int) < (y.length : Nat) by omega), decide_eq_false h2, if_pos rfl]
    rfl
theorem num_loop {L : Type} {body : D → List D → M (Fl (List D) (List D))} {N : Nat} : ∀ {ws : List Str} {acc : List D}, (∀ y ∈ ws, ∀ s : List D, s.length ≤ N → body (.str y) s = if numG y = true then pure (.nx (s ++ [numD y])) else pure (.rt .non)) → acc.length + ws.length ≤ N → forM (L := L) body (ws.map D.str) acc = if ws.all numG = true then pure (.nx (acc ++ ws.map numD)) else pure (.rt .non)
  | [], acc, _, _ => by
    rw [List.map_nil, List.map_nil, List.append_nil]
    rfl
  | y :: r, acc, h, hn => by
    rw [List.length_cons] at hn
    rw [List.map_cons, forM_cons, h y List.mem_cons_self acc (by omega), List.all_cons]
    cases e : numG y with
    | false => rfl
    | true =>
      rw [if_pos rfl, pure_bind, Bool.true_and]
      show forM body (r.map D.str) (acc ++ [numD y]) = _
      rw [num_loop (N := N) (fun z hz => h z (List.mem_cons_of_mem _ hz)) (by rw [List.length_append, List.length_singleton]; omega), List.map_cons, List.append_assoc]
      rfl
theorem L_numbers_eq {x : Str} (w : WT 900 x) : D_L_numbers [.str x] = pure (if (words x).all numG = true then .tup ((words x).map numD) else .non) := by
  obtain ⟨w1, w2, w3⟩ := words_ok w
  have hl := w.len
  rw [D_L_numbers_eq]
  unfold B_L_numbers
  simp only [callM_def, seqL_cons, seqL_nil, pure_bind, f1_one, split_txt (show x.length ≤ 1000 by omega), show itemsX (.lst ((words x).map D.str)) = pure ((words x).map D.str) from rfl, forF_def, tg1_def]
  rw [num_loop (N := 1000) (fun y hy s hs => ?_) (by rw [List.length_nil]; omega)]
  · cases (words x).all numG <;> rfl
  · have wy := (w3 y hy).mono (show 900 ≤ 1000 by decide)
    have yl := wy.len
    simp only [bin_def, asB_def, pure_bind, items_txt, wrong_txt (show y.length ≤ 1000 by omega), len_txt (show y.length ≤ 1000 by omega), gt_int, neA_str, isB_bl]
    rw [neA_ones (fun c hc => wy.lo c (List.mem_filter.mp hc).1), pure_bind, isB_bl, filt_all]
    have e := wrong_word wy
    unfold digG at e
    rw [e, pure_bind]
    cases hG : numG y with
    | false => rfl
    | true =>
      have hG2 := hG
      unfold numG at hG2
      simp only [Bool.and_eq_true, decide_eq_true_eq] at hG2
      rw [Bool.not_true, if_neg (by decide), if_pos rfl, appM_def, int_txt hG2.1.1.1 hG2.1.1.2 hG2.1.2, pure_bind, guard_bind (by rw [line_eq]; omega)]
      unfold numD
      rw [if_pos hG]
def hueA (x z : Str) : D := if x = "none" then .tup [] else if hueG x z = true then .tup ((chs x).map hueD) else .str "! text"
theorem L_due_hue {x z : Str} {i : Nat} (hi : i = 0 ∧ z = s4 ∨ i = 1 ∧ z = s5) (w : WT 900 x) : D_L_due [.int i, .str x] = pure (hueA x z) := by
  have hl := w.len
  have hz : z = s4 ∨ z = s5 := by rcases hi with h | h; exact .inl h.2; exact .inr h.2
  rw [D_L_due_eq]
  unfold B_L_due
  have ei : D.ixX (.lst [.str "0123", .str "0123."]) (.int i) = pure (.str z) := by
    rcases hi with ⟨rfl, rfl⟩ | ⟨rfl, rfl⟩ <;> rfl
  have i2 : i < 2 := by omega
  simp only [callM_def, seqL_cons, seqL_nil, pure_bind, bin_def, f1_one, isaM_str, notM_def, asB_def, isB_bl, show ((Ty.str == Ty.str) : Bool) = true from rfl, Bool.not_true, Bool.false_eq_true, if_false, eqA_str, neA_int, lt_int, tupM_def, items_txt, len_txt (show x.length ≤ 1000 by omega), gt_int, ei, wrong_txt (show x.length ≤ 1000 by omega), decide_eq_true (show (i : Int) < 2 by omega), if_true]
  unfold hueA
  by_cases e : x = "none"
  · rw [if_pos e, decide_eq_true e, decide_eq_false (show ¬ (i : Int) = 2 by omega)]
    rfl
  · rw [if_neg e, decide_eq_false e, andM_def, pure_bind, if_neg (by decide), pure_bind, if_neg (by decide)]
    rw [neA_ones (fun c hc => w.lo c (List.mem_filter.mp hc).1), pure_bind, isB_bl, filt_all]
    have hg : (orM (pure (decide (x = ""))) (orM (pure (decide ((40 : Int) < (x.length : Nat)))) (pure (!(chs x).all fun c => decide (c ∈ chs z))))) = pure (!hueG x z) := by
      unfold hueG
      have hc := chs_len x
      by_cases c0 : x = ""
      · rw [decide_eq_true c0, c0]
        rfl
      · have h1 : 1 ≤ x.length := by
          apply Classical.byContradiction
          intro z
          apply c0
          apply str_ext
          have : chs x = [] := List.eq_nil_of_length_eq_zero (by omega)
          rw [this]
          decide +kernel
        rw [decide_eq_false c0, decide_eq_true h1]
        by_cases h2 : x.length ≤ 40
        · rw [decide_eq_false (show ¬ (40 : Int) < (x.length : Nat) by omega), decide_eq_true h2]
          rfl
        · rw [decide_eq_true (show (40 : Int) < (x.length : Nat) by omega), decide_eq_false h2]
          rfl
    rw [hg, pure_bind]
    cases hG : hueG x z with
    | false => rfl
    | true =>
      unfold hueG at hG
      simp only [Bool.and_eq_true, List.all_eq_true, decide_eq_true_eq] at hG
      rw [Bool.not_true, if_neg (by decide), if_pos rfl]
      have e2 := lcF_mapA (f := fun c => D.str (oneS c)) (re := fun l_sign => sidxM (pure (.str ".0123")) (pure l_sign) >>= fun d => D.sub d (.int 1)) hueD (L := chs x) (by rw [chs_len]; omega) fun c hc => (sign_of hz (hG.2 c hc)).2
      rw [e2]
      rfl
def sizA (x : Str) : D := if sizG x = true then .tup ((words x).map numD) else .str "! text"
noncomputable def lotA (x : Str) : D := if x = "none" then .tup [] else if lotB (.tup ((words x).map numD)) = true then .tup ((words x).map numD) else .str "! text"
theorem nums_all {ws : List Str} (h : ws.all numG = true) : ws.map numD = (ws.map fun y => (numV y : Int)).map D.int := by
  rw [List.map_map]
  refine List.map_congr_left fun y hy => ?_
  unfold numD
  rw [if_pos (List.all_eq_true.mp h y hy)]
  rfl
theorem nums_bad {ws : List Str} (h : ws.all numG = false) : .non ∈ ws.map numD := by
  rw [List.all_eq_false] at h
  obtain ⟨y, hy, e⟩ := h
  refine List.mem_map.mpr ⟨y, hy, ?_⟩
  unfold numD
  rw [if_neg e]
theorem L_due_siz {x : Str} (w : WT 900 x) : D_L_due [.int 2, .str x] = pure (sizA x) := by
  have hl := w.len
  obtain ⟨w1, w2, w3⟩ := words_ok w
  rw [D_L_due_eq]
  unfold B_L_due
  have eN := L_numbers_eq w
  simp only [callM_def, seqL_cons, seqL_nil, pure_bind, bin_def, f1_one, isaM_str, notM_def, asB_def, isB_bl, show ((Ty.str == Ty.str) : Bool) = true from rfl, Bool.not_true, Bool.false_eq_true, if_false, eqA_str, neA_int, eqA_int, lt_int, tupM_def, decide_eq_false (show ¬ (2 : Int) < 2 by decide), decide_true, if_true, andM_def]
  rw [show (if decide (x = Str.ofString "none") = true then (pure false : M Bool) else pure false) = pure false by split <;> rfl, pure_bind, if_neg (by decide), eN]
  unfold sizA sizG
  cases hA : (words x).all numG with
  | false =>
    have hb : areB (.tup ((words x).map numD)) = false := by
      unfold areB
      rw [Bool.and_eq_false_iff]
      right
      rw [List.all_eq_false]
      exact ⟨.non, nums_bad hA, by decide⟩
    rw [hb]
    rfl
  | true =>
    rw [if_pos rfl, pure_bind]
    have en := nums_all hA
    generalize hns : (words x).map (fun y => (numV y : Int)) = ns at en
    have ln : ns.length = (words x).length := by rw [← hns, List.length_map]
    have n1 : 1 ≤ ns.length := by
      rw [ln]
      cases hw : words x with
      | nil => exact absurd hw w1
      | cons a r => rw [List.length_cons]; omega
    rw [en]
    have e3 : lcF (pure (ns.map D.int)) tg1 (fun l_one => chainM (pure (.int 2)) (pure l_one) (pure (.int 8)) D.le D.le >>= isB >>= fun k => pure !k) (fun l_one => pure l_one) = pure ((ns.filter fun i => !(decide (2 ≤ i) && decide (i ≤ 8))).map D.int) := by
      rw [lcF_mapP (fun i : Int => !(decide (2 ≤ i) && decide (i ≤ 8))) D.int (by omega) (fun i _ => ?_) (fun _ _ _ => rfl)]
      simp only [chainM_def, pure_bind, le_int, isB_bl]
      cases decide (2 ≤ i) <;> rfl
    have e4 : D.eqA (.lst ((ns.filter fun i => !(decide (2 ≤ i) && decide (i ≤ 8))).map D.int)) (.lst []) = pure (.bl (ns.all fun i => decide (2 ≤ i) && decide (i ≤ 8))) := by
      rw [show D.eqA (.lst ((ns.filter fun i => !(decide (2 ≤ i) && decide (i ≤ 8))).map D.int)) (.lst []) = _ from eqA_li (ns.filter fun i => !(decide (2 ≤ i) && decide (i ≤ 8))) []]
      congr 2
      rw [Bool.eq_iff_iff, decide_eq_true_iff, List.filter_eq_nil_iff, List.all_eq_true]
      exact ⟨fun h c hc => by simpa using h c hc, fun h c hc => by simpa using h c hc⟩
    have hb : areB (.tup (ns.map D.int)) = (decide (ns.length < 5) && ns.all fun i => decide (2 ≤ i) && decide (i ≤ 8)) := by
      show (decide (1 ≤ (ns.map D.int).length) && decide ((ns.map D.int).length ≤ 4) && (ns.map D.int).all fun x => btw x 2 8) = _
      rw [List.length_map, decide_eq_true n1, Bool.true_and, List.all_map]
      congr 1
      exact decide_eq_decide.mpr ⟨fun z => by omega, fun z => by omega⟩
    rw [hb]
    simp only [isNF_def, show D.isN (.tup (ns.map D.int)) = false from rfl, pure_bind, isB_bl, Bool.false_eq_true, if_false, show D.len (.tup (ns.map D.int)) = pure (.int (ns.map D.int).length) from rfl, List.length_map, lt_int, show itemsX (.tup (ns.map D.int)) = pure (ns.map D.int) from rfl, e3, e4]
    by_cases c : ns.length < 5
    · rw [decide_eq_true (show ((ns.length : Nat) : Int) < 5 by omega), decide_eq_true c, if_pos rfl, pure_bind, Bool.true_and]
      cases (ns.all fun i => decide (2 ≤ i) && decide (i ≤ 8)) <;> rfl
    · rw [decide_eq_false (show ¬ ((ns.length : Nat) : Int) < 5 by omega), decide_eq_false c, if_neg (by decide), pure_bind, Bool.false_and]
      rfl
theorem lot_of_ints (ns : List Nat) : IsLot (.tup ((ns.map fun n : Nat => (n : Int)).map D.int)) ↔ (ns.map fun n : Nat => (n : Int)).Pairwise (· < ·) ∧ ∀ n ∈ ns, n < 40 := by
  have e : D.tup ((ns.map fun n : Nat => (n : Int)).map D.int) = tn ns := by
    unfold tn
    rw [List.map_map]
    rfl
  constructor
  · rintro ⟨l, el, L⟩
    have : ns = l := by
      rw [e] at el
      unfold tn at el
      exact (List.map_inj_right (fun a b h => by
        have := D.int.inj h
        omega)).mp (D.tup.inj el)
    subst this
    refine ⟨?_, L.lt⟩
    rw [List.pairwise_map]
    exact L.up.imp fun h => by omega
  · rintro ⟨h1, h2⟩
    refine ⟨ns, e, ?_, h2⟩
    rw [List.pairwise_map] at h1
    exact h1.imp fun h => by omega
theorem last_max : ∀ {ns : List Nat}, (ns.map fun n : Nat => (n : Int)).Pairwise (· < ·) → ∀ {m : Nat}, ns.getLast? = some m → ∀ n ∈ ns, n ≤ m
  | [], _, _, h, _, hn => nomatch hn
  | [a], _, m, h, n, hn => by
    rw [List.mem_singleton.mp hn]
    cases h
    exact Nat.le_refl _
  | a :: b :: r, h, m, hm, n, hn => by
    obtain ⟨h1, h2⟩ := List.pairwise_cons.mp h
    have ih := last_max (ns := b :: r) h2 (m := m) (by rw [List.getLast?_cons_cons] at hm; exact hm)
    rcases List.mem_cons.mp hn with rfl | hn
    · have a1 : ((n : Nat) : Int) < (b : Nat) := h1 ((b : Nat) : Int) List.mem_cons_self
      have a2 := ih b List.mem_cons_self
      omega
    · exact ih n hn
theorem ix_last {ns : List Nat} {m : Nat} (h : ns.getLast? = some m) (hl : ns.length ≤ 1000) : D.ixX (.tup ((ns.map fun n : Nat => (n : Int)).map D.int)) (.int (-1)) = pure (.int (m : Nat)) := by
  show ofO (atI' _ (-1)) = _
  have e : atI' ((ns.map fun n : Nat => (n : Int)).map D.int) (-1) = some (.int (m : Nat)) := by
    unfold atI'
    have n1 : 1 ≤ ns.length := by
      cases ns with
      | nil => cases h
      | cons a r => rw [List.length_cons]; omega
    rw [if_neg (by decide), List.length_map, List.length_map, if_pos (by omega), show ((-1 : Int) + (ns.length : Nat)).toNat = ns.length - 1 by omega, List.getElem?_map, List.getElem?_map]
    rw [List.getLast?_eq_getElem?] at h
    rw [h]
    rfl
  rw [e]
  rfl
theorem L_due_lot {x : Str} (w : WT 60 x) : D_L_due [.int 3, .str x] = pure (lotA x) := by
  have hl := w.len
  obtain ⟨w1, w2, w3⟩ := words_ok w
  rw [D_L_due_eq]
  unfold B_L_due
  have eN := L_numbers_eq (w.mono (show 60 ≤ 900 by decide))
  simp only [callM_def, seqL_cons, seqL_nil, pure_bind, bin_def, f1_one, isaM_str, notM_def, asB_def, isB_bl, show ((Ty.str == Ty.str) : Bool) = true from rfl, Bool.not_true, Bool.false_eq_true, if_false, eqA_str, neA_int, eqA_int, lt_int, tupM_def, decide_eq_false (show ¬ (3 : Int) < 2 by decide), decide_eq_false (show ¬ (3 : Int) = 2 by decide), Bool.not_false, if_true, andM_def]
  unfold lotA
  by_cases en : x = "none"
  · rw [decide_eq_true en, if_pos en, if_pos rfl]
    rfl
  rw [decide_eq_false en, if_neg en, if_neg (by decide), pure_bind, if_neg (by decide), eN]
  have q : ∀ (p : Prop) (i : Decidable p), @decide p i = lotB (.tup ((words x).map numD)) ↔ (p ↔ IsLot (.tup ((words x).map numD))) := fun p i => by
    unfold lotB
    letI := Classical.propDecidable (IsLot (.tup ((words x).map numD)))
    exact decide_eq_decide
  cases hA : (words x).all numG with
  | false =>
    have hb : lotB (.tup ((words x).map numD)) = false := by
      rw [← (q False inferInstance).mpr ⟨False.elim, fun ⟨l, el, _⟩ => ?_⟩]
      · rfl
      · have := nums_bad hA
        rw [D.tup.inj el] at this
        obtain ⟨k, _, e⟩ := List.mem_map.mp this
        cases e
    rw [hb]
    rfl
  | true =>
    rw [if_pos rfl, pure_bind]
    have en := nums_all hA
    have enN : (words x).map (fun y => (numV y : Int)) = ((words x).map numV).map fun n : Nat => (n : Int) := by rw [List.map_map]; rfl
    rw [enN] at en
    generalize hns : (words x).map numV = ns at en
    have ln : ns.length = (words x).length := by rw [← hns, List.length_map]
    obtain ⟨m, hm⟩ : ∃ m, ns.getLast? = some m := by
      cases hn : ns with
      | nil =>
        rw [hn] at ln
        exact absurd (List.eq_nil_of_length_eq_zero ln.symm) w1
      | cons a r => exact ⟨_, List.getLast?_eq_getLast (by simp)⟩
    have hd := ddI_len (ns.map fun n : Nat => (n : Int))
    rw [List.length_map] at hd
    have e1 : sortSetX (.tup ((ns.map fun n : Nat => (n : Int)).map D.int)) = pure ((sortZ (ddI (ns.map fun n : Nat => (n : Int)))).map .int) := by
      show (ofO (intsL _) >>= fun ns => guard (ns.length ≤ 4000 ∧ (ddI ns).length < 64) >>= fun _ => pure ((sortZ (ddI ns)).map D.int)) = _
      rw [intsL_int]
      show (guard _ >>= fun _ => _) = _
      rw [guard_bind ⟨by rw [List.length_map]; omega, by omega⟩]
    have e2 := eqA_li (ns.map fun n : Nat => (n : Int)) (sortZ (ddI (ns.map fun n : Nat => (n : Int))))
    unfold li at e2
    have lb := lot_of_ints ns
    rw [en] at q ⊢
    simp only [isNF_def, show D.isN (.tup ((ns.map fun n : Nat => (n : Int)).map D.int)) = false from rfl, pure_bind, isB_bl, Bool.false_eq_true, if_false, show D.toLst (.tup ((ns.map fun n : Nat => (n : Int)).map D.int)) = pure (.lst ((ns.map fun n : Nat => (n : Int)).map D.int)) from rfl, e1, e2, andV_def, neg_int, ix_last hm (by omega), lt_int]
    by_cases u : (ns.map fun n : Nat => (n : Int)).Pairwise (· < ·)
    · rw [decide_eq_true ((up_sort _).mpr u), if_pos rfl, pure_bind, isB_bl, pure_bind]
      have hh : decide (((m : Nat) : Int) < 40) = lotB (.tup ((ns.map fun n : Nat => (n : Int)).map D.int)) := (q _ _).mpr ⟨fun z => lb.mpr ⟨u, fun n hn => by
        have := last_max u hm n hn
        omega⟩, fun z => by
        have := (lb.mp z).2 m (List.mem_of_getLast? hm)
        omega⟩
      rw [hh]
      cases lotB (.tup ((ns.map fun n : Nat => (n : Int)).map D.int)) <;> rfl
    · have hh : lotB (.tup ((ns.map fun n : Nat => (n : Int)).map D.int)) = false := by
        rw [← (q False inferInstance).mpr ⟨False.elim, fun z => u (lb.mp z).1⟩]
        rfl
      rw [decide_eq_false fun z => u ((up_sort _).mp z), if_neg (by decide), pure_bind, isB_bl, pure_bind, hh]
      rfl
/-! ### what is told of a thing -/
theorem show_text : D.canShow (.str "! text") := show_str (by decide +kernel)
theorem show_small {ds : List D} (h : ∀ x ∈ ds, inI (-(10 ^ 40)) (10 ^ 40) x) (hl : ds.length ≤ 1000) : D.canShow (.tup ds) := show_tup (oddOk_int (i := 0) (by decide)) (fun x hx => .inr (h x hx)) hl
theorem show_hueA {x z : Str} (w : WT 60 x) : D.canShow (hueA x z) := by
  have hl := w.len
  unfold hueA
  split
  · exact show_small (fun x hx => nomatch hx) (by decide)
  split
  · refine show_small (fun d hd => ?_) (by rw [List.length_map, chs_len]; omega)
    obtain ⟨c, hc, rfl⟩ := List.mem_map.mp hd
    have := w.lo c hc
    refine ⟨hueI c, rfl, ?_, ?_⟩ <;> (unfold hueI; split <;> omega)
  · exact show_text
theorem show_sizA {x : Str} (w : WT 60 x) : D.canShow (sizA x) := by
  obtain ⟨_, w2, _⟩ := words_ok w
  unfold sizA
  split
  · rename_i h
    unfold sizG at h
    have h : (decide (1 ≤ ((words x).map numD).length) && decide (((words x).map numD).length ≤ 4) && ((words x).map numD).all fun x => btw x 2 8) = true := h
    rw [Bool.and_eq_true, List.all_eq_true] at h
    refine show_small (fun d hd => ?_) (by rw [List.length_map]; omega)
    have hb := h.2 d hd
    unfold btw at hb
    split at hb
    · simp only [Bool.and_eq_true, decide_eq_true_eq] at hb
      exact ⟨_, rfl, by omega, by omega⟩
    · cases hb
  · exact show_text
theorem lotB_iff {t : D} : lotB t = true ↔ IsLot t := by
  unfold lotB
  letI := Classical.propDecidable (IsLot t)
  exact decide_eq_true_iff
theorem show_lotA {x : Str} (w : WT 60 x) : D.canShow (lotA x) := by
  obtain ⟨_, w2, _⟩ := words_ok w
  unfold lotA
  split
  · exact show_small (fun x hx => nomatch hx) (by decide)
  split
  · rename_i h
    obtain ⟨l, e, L⟩ := lotB_iff.mp h
    rw [e]
    have el : l.length ≤ 61 := by
      have e3 := congrArg List.length (D.tup.inj e)
      rw [List.length_map, List.length_map] at e3
      omega
    refine show_small (fun d hd => ?_) (by rw [List.length_map]; omega)
    obtain ⟨k, hk, rfl⟩ := List.mem_map.mp hd
    have := L.lt k hk
    exact ⟨k, rfl, by omega, by omega⟩
  · exact show_text
theorem got_text : gotM XS D_L_kind noText = pure (.str "! text") := by
  have h := got_of (xs := XS) (c := "NoText") (w := "text") (ar := none) (j := 13) (by decide) (by decide) (by decide) (by decide) (by decide)
  exact h
theorem hues_in_no {d z : D} (h : isaM .str d = pure (.bl false)) : D_hues_in [d, z] = noText := by
  rw [D_hues_in_eq]
  unfold B_hues_in
  simp only [pure_bind, h, notM_def, asB_def, isB_bl, Bool.not_false, if_true]
  rfl
theorem numbers_in_no {d : D} (h : isaM .str d = pure (.bl false)) : D_numbers_in [d] = noText := by
  rw [D_numbers_in_eq]
  unfold B_numbers_in
  simp only [pure_bind, h, notM_def, asB_def, isB_bl, Bool.not_false, if_true]
  rfl
theorem read_no {d : D} (h : isaM .str d = pure (.bl false)) (h2 : D.eqX d (.str "none") = pure (.bl false)) : ∀ i, i < 4 → D_fn1 i [d] = noText := by
  have e1 := hues_in_no (z := .str "0123.") h
  have e0 := hues_in_no (z := .str s4) h
  have e2 := numbers_in_no h
  intro i hi
  rcases (show i = 0 ∨ i = 1 ∨ i = 2 ∨ i = 3 by omega) with rfl | rfl | rfl | rfl
  · show D_strip_read _ = _
    rw [D_strip_read_eq]
    unfold B_strip_read
    simp only [callM_def, seqL_cons, seqL_nil, pure_bind, partM_def, asI_int, cutM_def, cut_txt (z := "0123.") (by decide +kernel), cut_signs, e0]
    rfl
  · show D_draft_read _ = _
    rw [D_draft_read_eq]
    unfold B_draft_read
    simp only [callM_def, seqL_cons, seqL_nil, pure_bind, e1]
    rfl
  · show D_sizes_read _ = _
    rw [D_sizes_read_eq]
    unfold B_sizes_read
    simp only [callM_def, seqL_cons, seqL_nil, pure_bind, e2]
    rfl
  · show D_lot_read _ = _
    rw [D_lot_read_eq]
    unfold B_lot_read
    simp only [callM_def, seqL_cons, seqL_nil, pure_bind, bin_def, h2, asB_def, isB_bl, Bool.false_eq_true, if_false, e2]
    rfl
theorem due_no {d : D} (h : isaM .str d = pure (.bl false)) (i : D) : D_L_due [i, d] = pure (.str "! text") := by
  rw [D_L_due_eq]
  unfold B_L_due
  simp only [pure_bind, h, notM_def, asB_def, isB_bl, Bool.not_false, if_true]
  rfl
def T82 (d : D) : Prop := (∃ x, d = .str x ∧ WT 60 x) ∨ d = .non ∨ d = .int 0 ∨ d = .bl true ∨ d = .tup [] ∨ d = .lst [.str "0"] ∨ d = .dct []
theorem due_read {d : D} (T : T82 d) {i : Nat} (hi : i < 4) : ∃ r, r.canShow ∧ D_L_due [.int i, d] = pure r ∧ gotM XS D_L_kind (D_fn1 i [d]) = pure r := by
  have no : ∀ d : D, isaM .str d = pure (.bl false) → D.eqX d (.str "none") = pure (.bl false) → ∃ r, r.canShow ∧ D_L_due [.int i, d] = pure r ∧ gotM XS D_L_kind (D_fn1 i [d]) = pure r := fun d h h2 =>
    ⟨.str "! text", show_text, due_no h _, by rw [read_no h h2 i hi]; exact got_text⟩
  rcases T with ⟨x, rfl, w⟩ | rfl | rfl | rfl | rfl | rfl | rfl
  · have w9 := w.mono (show 60 ≤ 900 by decide)
    have w10 := w.mono (show 60 ≤ 1000 by decide)
    have gh : ∀ z, gotM XS D_L_kind (hueM x z) = pure (hueA x z) := fun z => by
      unfold hueM hueA
      split
      · rfl
      split
      · rfl
      · exact got_text
    rcases (show i = 0 ∨ i = 1 ∨ i = 2 ∨ i = 3 by omega) with rfl | rfl | rfl | rfl
    · refine ⟨hueA x s4, show_hueA w, L_due_hue (.inl ⟨rfl, rfl⟩) w9, ?_⟩
      show gotM XS D_L_kind (D_strip_read _) = _
      rw [strip_read_eq w10]
      exact gh s4
    · refine ⟨hueA x s5, show_hueA w, L_due_hue (.inr ⟨rfl, rfl⟩) w9, ?_⟩
      show gotM XS D_L_kind (D_draft_read _) = _
      rw [draft_read_eq w10]
      exact gh s5
    · refine ⟨sizA x, show_sizA w, L_due_siz w9, ?_⟩
      show gotM XS D_L_kind (D_sizes_read _) = _
      rw [sizes_read_eq w9]
      unfold sizA
      split
      · rfl
      · exact got_text
    · refine ⟨lotA x, show_lotA w, L_due_lot w, ?_⟩
      show gotM XS D_L_kind (D_lot_read _) = _
      rw [lot_read_eq w9]
      unfold lotM lotA
      split
      · rfl
      split
      · rfl
      · exact got_text
  · exact no _ rfl (by show (guard _ >>= fun _ => _) = _; rw [guard_bind (by decide +kernel)]; rfl)
  · exact no _ rfl (by show (guard _ >>= fun _ => _) = _; rw [guard_bind (by decide +kernel)]; rfl)
  · exact no _ rfl (by show (guard _ >>= fun _ => _) = _; rw [guard_bind (by decide +kernel)]; rfl)
  · exact no _ rfl (by show (guard _ >>= fun _ => _) = _; rw [guard_bind (by decide +kernel)]; rfl)
  · exact no _ rfl (by show (guard _ >>= fun _ => _) = _; rw [guard_bind (by decide +kernel)]; rfl)
  · exact no _ rfl rfl
/-! ### the texts of the law -/
theorem join_wt {sep : Str} {n m : Nat} (hs : WT m sep) : ∀ {xs : List Str}, (∀ x ∈ xs, WT n x) → WT (xs.length * (n + m)) (Str.join sep xs)
  | [], _ => ⟨by
    show (Str.empty).length ≤ _
    exact Nat.zero_le _, fun c hc => nomatch hc⟩
  | [x], h => (h x List.mem_cons_self).mono (by rw [List.length_singleton]; omega)
  | x :: y :: r, h => by
    have ih := join_wt hs (xs := y :: r) (fun z hz => h z (List.mem_cons_of_mem x hz))
    have hx := h x List.mem_cons_self
    show WT _ (x ++ sep ++ Str.join sep (y :: r))
    refine ((hx.add hs).add ih).mono ?_
    rw [List.length_cons (a := x), Nat.add_mul, Nat.one_mul]
    omega
theorem strs_of {P : Str → Prop} : ∀ {ys : List D}, (∀ y ∈ ys, ∃ x, y = .str x ∧ P x) → ∃ xs, strsL ys = some xs ∧ xs.length = ys.length ∧ ∀ x ∈ xs, P x
  | [], _ => ⟨[], rfl, rfl, fun _ h => nomatch h⟩
  | y :: r, h => by
    obtain ⟨x, rfl, px⟩ := h y List.mem_cons_self
    obtain ⟨xs, e, l, q⟩ := strs_of (P := P) (ys := r) fun z hz => h z (List.mem_cons_of_mem _ hz)
    refine ⟨x :: xs, by rw [strsL, e]; rfl, by rw [List.length_cons, List.length_cons, l], fun z hz => ?_⟩
    rcases List.mem_cons.mp hz with rfl | hz
    · exact px
    · exact q z hz
theorem sum_le {n : Nat} : ∀ {xs : List Str}, (∀ x ∈ xs, x.length ≤ n) → (xs.map (·.length)).sum ≤ xs.length * n
  | [], _ => by rw [List.map_nil, List.sum_nil]; exact Nat.zero_le _
  | x :: r, h => by
    have := sum_le (n := n) (xs := r) fun z hz => h z (List.mem_cons_of_mem _ hz)
    have hx := h x List.mem_cons_self
    rw [List.map_cons, List.sum_cons, List.length_cons, Nat.add_mul, Nat.one_mul]
    omega
theorem join_sat {sep : Str} {n m : Nat} (hs : WT m sep) {ys : List D} (h : ∀ y ∈ ys, ∃ x, y = .str x ∧ WT n x) (hl : ys.length ≤ 100) (hn : n ≤ 10) (hm : m ≤ 10) : ∃ x, D.joinS (.str sep) (.lst ys) = pure (.str x) ∧ WT (ys.length * (n + m)) x := by
  obtain ⟨xs, e, l, q⟩ := strs_of h
  refine ⟨Str.join sep xs, ?_, by rw [← l]; exact join_wt hs q⟩
  show (ofO (strsL ys) >>= _) = _
  rw [e]
  show (guard _ >>= fun _ => _) = _
  refine guard_bind ?_ _
  have h1 := sum_le (n := 10) fun x hx => Nat.le_trans (q x hx).len hn
  have h2 := hs.len
  have h3 : xs.length * sep.length ≤ 100 * 10 := Nat.mul_le_mul (by omega) (by omega)
  omega
theorem hues_text {ds : List D} (h : ∀ x ∈ ds, ∃ i : Int, x = .int i ∧ -1 ≤ i ∧ i < 4) (hl : ds.length ≤ 41) : ∃ x, D_L_hues_text [.lst ds] = pure (.str x) ∧ WT 42 x := by
  rw [D_L_hues_text_eq]
  unfold B_L_hues_text
  simp only [callM_def, seqL_cons, seqL_nil, pure_bind, bin_def, f1_one, len_lst, gt_int, asB_def, isB_bl]
  by_cases c : 0 < ds.length
  · rw [decide_eq_true (show (0 : Int) < (ds.length : Nat) by omega), if_pos rfl]
    have hx : ∀ x ∈ ds, ∃ y, (D.add x (.int 1) >>= fun z => D.ixX (.str ".0123") z) = pure (.str y) ∧ WT 1 y := fun x hx => by
      obtain ⟨i, rfl, i1, i4⟩ := h x hx
      rw [add_int, pure_bind]
      have e : i + 1 = (((i + 1).toNat : Nat) : Int) := by omega
      rw [e]
      obtain ⟨c, hc, q, _⟩ := ix_txt (z := ".0123") (i := (i + 1).toNat) (by have : (Str.ofString ".0123").length = 5 := by decide +kernel
                                                                             omega) (by decide +kernel)
      refine ⟨_, q, ⟨Nat.le_of_eq rfl, fun c2 hc2 => ?_⟩⟩
      rw [List.mem_singleton.mp (show c2 ∈ [c] from hc2)]
      have : ∀ c ∈ chs ".0123", c < 128 := by decide +kernel
      exact this c hc
    obtain ⟨g, hg⟩ := Classical.axiomOfChoice (fun x : { x // x ∈ ds } => hx x.1 x.2)
    have e2 := lcF_map1 (xs := ds) (re := fun x => D.add x (.int 1) >>= fun z => D.ixX (.str ".0123") z) (fun d => letI := Classical.propDecidable (d ∈ ds); if m : d ∈ ds then .str (g ⟨d, m⟩) else .non) (by omega) fun x hx => by
      rw [dif_pos hx]
      exact (hg ⟨x, hx⟩).1
    obtain ⟨x, q1, q2⟩ := join_sat (sep := "") (n := 1) (m := 0) ⟨by decide +kernel, by decide +kernel⟩ (ys := ds.map fun d => letI := Classical.propDecidable (d ∈ ds); if m : d ∈ ds then .str (g ⟨d, m⟩) else .non) (fun y hy => by
      obtain ⟨d, hd, rfl⟩ := List.mem_map.mp hy
      rw [dif_pos hd]
      exact ⟨_, rfl, (hg ⟨d, hd⟩).2⟩) (by rw [List.length_map]; omega) (by decide) (by decide)
    rw [List.length_map] at q2
    refine ⟨x, ?_, q2.mono (by omega)⟩
    rw [show itemsX (.lst ds) = pure ds from rfl, e2, pure_bind]
    show endB false ((D.joinS (.str "") (.lst _) : M D) >>= fun d => pure (.rt d)) = _
    rw [q1]
    rfl
  · rw [decide_eq_false (show ¬ (0 : Int) < (ds.length : Nat) by omega), if_neg (by decide)]
    exact ⟨"none", rfl, ⟨by decide +kernel, by decide +kernel⟩⟩
theorem wt_two (k : Nat) (h : k < 100) : WT 2 ((toString (k : Int) : String) : Str) := by
  have key : ∀ k : Fin 100, (((toString ((k.1 : Nat) : Int) : String) : Str).length ≤ 2 ∧ (chs ((toString ((k.1 : Nat) : Int) : String) : Str)).all (fun c => decide (c < 128)) = true) := by decide +kernel
  obtain ⟨k1, k2⟩ := key ⟨k, h⟩
  exact ⟨k1, fun c hc => of_decide_eq_true (List.all_eq_true.mp k2 c hc)⟩
theorem numbers_text {ds : List D} (h : ∀ x ∈ ds, ∃ i : Int, x = .int i ∧ 0 ≤ i ∧ i < 40) (hl : ds.length ≤ 9) : ∃ x, D_L_numbers_text [.lst ds] = pure (.str x) ∧ WT 42 x := by
  rw [D_L_numbers_text_eq]
  unfold B_L_numbers_text
  simp only [callM_def, seqL_cons, seqL_nil, pure_bind, bin_def, f1_one, len_lst, gt_int, asB_def, isB_bl]
  by_cases c : 0 < ds.length
  · rw [decide_eq_true (show (0 : Int) < (ds.length : Nat) by omega), if_pos rfl]
    have e2 := lcF_map1 (xs := ds) (re := fun x => D.strI x) (fun d => match d with | .int i => .str ((toString i : String) : Str) | _ => d) (by omega) fun x hx => by
      obtain ⟨i, rfl, i0, i4⟩ := h x hx
      show (guard _ >>= fun _ => _) = _
      refine guard_bind ?_ _
      have : i.natAbs.log2 ≤ i.natAbs := Nat.log2_le_self _
      omega
    obtain ⟨x, q1, q2⟩ := join_sat (sep := ",") (n := 2) (m := 1) ⟨by decide +kernel, by decide +kernel⟩ (ys := ds.map fun d => match d with | .int i => .str ((toString i : String) : Str) | _ => d) (fun y hy => by
      obtain ⟨d, hd, rfl⟩ := List.mem_map.mp hy
      obtain ⟨i, rfl, i0, i4⟩ := h d hd
      refine ⟨_, rfl, ?_⟩
      have := wt_two i.toNat (by omega)
      rw [show ((i.toNat : Nat) : Int) = i by omega] at this
      exact this) (by rw [List.length_map]; omega) (by decide) (by decide)
    rw [List.length_map] at q2
    refine ⟨x, ?_, q2.mono (by omega)⟩
    rw [show itemsX (.lst ds) = pure ds from rfl, e2, pure_bind]
    show endB false ((D.joinS (.str ",") (.lst _) : M D) >>= fun d => pure (.rt d)) = _
    rw [q1]
    rfl
  · rw [decide_eq_false (show ¬ (0 : Int) < (ds.length : Nat) by omega), if_neg (by decide)]
    exact ⟨"none", rfl, ⟨by decide +kernel, by decide +kernel⟩⟩
theorem sort_drawn {ds : List D} (h : ∀ x ∈ ds, ∃ i : Int, x = .int i ∧ 0 ≤ i ∧ i < 40) (hl : ds.length ≤ 9) : ∃ es : List D, sortSetX (.lst ds) = pure es ∧ es.length ≤ 9 ∧ ∀ x ∈ es, ∃ i : Int, x = .int i ∧ 0 ≤ i ∧ i < 40 := by
  obtain ⟨ns, rfl, hn⟩ := exists_ints (a := 0) (b := 40) (ys := ds) fun y hy => h y hy
  rw [List.length_map] at hl
  have hd := ddI_len ns
  have hs : (sortZ (ddI ns)).length ≤ 9 := by
    have := sortZ_len (ddI ns)
    omega
  refine ⟨(sortZ (ddI ns)).map .int, ?_, by rw [List.length_map]; exact hs, fun x hx => ?_⟩
  · show (ofO (intsL _) >>= fun ns => guard (ns.length ≤ 4000 ∧ (ddI ns).length < 64) >>= fun _ => pure ((sortZ (ddI ns)).map D.int)) = _
    rw [intsL_int]
    show (guard _ >>= fun _ => _) = _
    rw [guard_bind ⟨by omega, by omega⟩]
  · obtain ⟨i, hi, rfl⟩ := List.mem_map.mp hx
    have := hn i (ddI_mem _ _ (mem_sortZ.mp hi))
    exact ⟨i, rfl, this.1, this.2⟩
theorem callV_at {is : List Nat} {F : Nat → List D → M D} {i : Nat} {rs : List (M D)} (h : i ∈ is) : callV is F (.opq (2 * i)) rs = callM (F i) rs := by
  show (if 2 * i / 2 ∈ is ∧ 2 * i % 2 = 0 then callM (F (2 * i / 2)) rs else fail) = _
  rw [show 2 * i / 2 = i by omega, if_pos ⟨h, by omega⟩]
theorem math : ∀ ns : List Int, ns.length ≤ 63 → (D_law [.scr ns]).run (fun d => d = .bl true) (fun _ => False) := by
  intro ns hl
  show Sat (D_law [.scr ns]) (fun d => d = .bl true)
  rw [D_law_eq]
  unfold B_law
  simp only [callM_def, seqL_cons, seqL_nil, pure_bind, bin_def, f1_one, len_scr, rng1_one, forF_def, tg1_def, tupM_def]
  rw [show f2 D.min2 [.int (ns.length : Int), .int 5] = pure (.int (min (ns.length : Int) 5)) from min2_int _ _, pure_bind, pure_bind, pure_bind, show f2 D.max2 [.int 1, .int (min (ns.length : Int) 5)] = pure (.int (max 1 (min (ns.length : Int) 5))) from max2_int _ _, pure_bind, range1_ok (by omega) (by omega), pure_bind]
  refine Sat.endseq (Sat.for0 (fun _ => True) trivial (fun k hk _ _ => ?_) (fun _ _ => Sat.pur rfl))
  obtain ⟨k, rfl, k0, _⟩ := rangeL_mem.mp hk
  obtain ⟨n, hn⟩ := cell_sat ns k0
  simp only [bind_assoc, hn, pure_bind]
  refine Sat.bind (pen_sat n) ?_
  rintro _ ⟨xs, rfl, hp⟩
  simp only [asL_lst, pure_bind]
  refine Sat.grd hp ?_
  refine Sat.bind (nat_draw (by omega) (by omega)) ?_
  rintro _ ⟨a, rfl, a3⟩
  refine Sat.bind (nat_draw (by omega) (by omega)) ?_
  rintro _ ⟨b, rfl, b5⟩
  rw [un2_two, pure_bind]
  refine Sat.bind (nat_draw (by omega) (by omega)) ?_
  rintro _ ⟨e, rfl, e20⟩
  obtain ⟨sg, ws, es, _⟩ := ix_txt (z := "0123.,-none 4589+\t\n_") (i := e) (by
    have : (Str.ofString "0123.,-none 4589+\t\n_").length = 20 := by decide +kernel
    omega) (by decide +kernel)
  have wsg : WT 1 (oneS sg) := ⟨Nat.le_of_eq rfl, fun c2 hc2 => by
    rw [List.mem_singleton.mp (show c2 ∈ [sg] from hc2)]
    have : ∀ c ∈ chs "0123.,-none 4589+\t\n_", c < 128 := by decide +kernel
    exact this sg ws⟩
  rw [es, pure_bind]
  refine Sat.bind (nat_draw (by omega) (by omega)) ?_
  rintro _ ⟨x, rfl, x10⟩
  refine Sat.bind (nat_draw (by omega) (by omega)) ?_
  rintro _ ⟨j, rfl, j4⟩
  obtain ⟨m, em, m41⟩ : ∃ m : Nat, D.ixX (.lst [.int 40, .int 41, .int x, .int 2]) (.int j) = pure (.int m) ∧ m ≤ 41 := by
    rcases (show j = 0 ∨ j = 1 ∨ j = 2 ∨ j = 3 by omega) with rfl | rfl | rfl | rfl
    · exact ⟨40, rfl, by decide⟩
    · exact ⟨41, rfl, by decide⟩
    · exact ⟨x, rfl, by omega⟩
    · exact ⟨2, rfl, by decide⟩
  rw [em, pure_bind]
  refine Sat.seq (Sat.mono (P := fun f => ∃ y, f = .nx (.str y) ∧ WT 42 y) ?_ ?_)
  · simp only [asB_def, lt_int, pure_bind, isB_bl]
    by_cases a2 : a < 2
    · rw [decide_eq_true (show (a : Int) < 2 by omega), if_pos rfl, range1_ok (by omega) (by omega)]
      refine Sat.bind (Sat.lcF1 (P := fun x => ∃ i : Int, x = .int i ∧ -1 ≤ i ∧ i < 4) (by rw [rangeL_length]; omega) fun d hd => ?_) ?_
      · rw [add_int, pure_bind]
        refine Sat.bind (Sat.drw (by omega) (by omega)) ?_
        rintro _ ⟨i, rfl, i0, i4⟩
        exact Sat.pur ⟨_, rfl, by omega, by omega⟩
      · rintro ds ⟨dl, dh⟩
        rw [rangeL_length] at dl
        obtain ⟨y, q1, q2⟩ := hues_text dh (by omega)
        rw [q1, pure_bind]
        exact Sat.pur ⟨y, rfl, q2⟩
    · rw [decide_eq_false (show ¬ (a : Int) < 2 by omega), if_neg (by decide)]
      refine Sat.seq (Sat.mono (P := fun f => ∃ y, f = .nx (.str y) ∧ WT 42 y) ?_ ?_)
      · rw [eqA_int, pure_bind, isB_bl, pure_bind]
        by_cases a2 : a = 2
        · rw [decide_eq_true (show (a : Int) = 2 by omega), if_pos rfl, mod_ok (by decide), pure_bind, add_int, pure_bind, range1_ok (by omega) (by omega)]
          refine Sat.bind (Sat.lcF1 (P := fun x => ∃ i : Int, x = .int i ∧ 0 ≤ i ∧ i < 40) (by rw [rangeL_length]; omega) fun d hd => ?_) ?_
          · refine Sat.bind (Sat.drw (by omega) (by omega)) ?_
            rintro _ ⟨i, rfl, i0, i4⟩
            exact Sat.pur ⟨_, rfl, by omega, by omega⟩
          · rintro ds ⟨dl, dh⟩
            rw [rangeL_length] at dl
            obtain ⟨y, q1, q2⟩ := numbers_text dh (by omega)
            rw [q1, pure_bind]
            exact Sat.pur ⟨y, rfl, q2⟩
        · rw [decide_eq_false (show ¬ (a : Int) = 2 by omega), if_neg (by decide), show f2 D.min2 [.int (m : Nat), .int 9] = pure (.int (min ((m : Nat) : Int) 9)) from min2_int _ _, pure_bind, range1_ok (by omega) (by omega)]
          refine Sat.bind (Sat.lcF1 (P := fun x => ∃ i : Int, x = .int i ∧ 0 ≤ i ∧ i < 40) (by rw [rangeL_length]; omega) fun d hd => Sat.drw (by omega) (by omega)) ?_
          rintro ds ⟨dl, dh⟩
          rw [rangeL_length] at dl
          obtain ⟨es, q0, el, eh⟩ := sort_drawn dh (by omega)
          obtain ⟨y, q1, q2⟩ := numbers_text eh el
          rw [q0, pure_bind, q1, pure_bind]
          exact Sat.pur ⟨y, rfl, q2⟩
      · rintro _ ⟨y, rfl, w⟩
        exact Sat.pur ⟨y, rfl, w⟩
  rintro _ ⟨y, rfl, w⟩
  have hl := w.len
  have cl : ∀ l k, (cutT y l k).length ≤ 42 := fun l k => (w.cut l k).len
  have sl : (oneS sg).length = 1 := rfl
  have a1 : ∀ l k, D.add (.str (cutT y l k)) (.str (oneS sg)) = pure (.str (cutT y l k ++ oneS sg)) := fun l k => add_txt (by have := cl l k; omega)
  have a2 : ∀ l k l' k', D.add (.str (cutT y l k ++ oneS sg)) (.str (cutT y l' k')) = pure (.str (cutT y l k ++ oneS sg ++ cutT y l' k')) := fun l k l' k' => add_txt (by
    have := cl l k
    have := cl l' k'
    rw [slen_app]
    omega)
  have a3 : ∀ l k l' k', D.add (.str (cutT y l k)) (.str (cutT y l' k')) = pure (.str (cutT y l k ++ cutT y l' k')) := fun l k l' k' => add_txt (by
    have := cl l k
    have := cl l' k'
    omega)
  have a4 : ∀ l k, D.add (.str y) (.str (cutT y l k)) = pure (.str (y ++ cutT y l k)) := fun l k => add_txt (by have := cl l k; omega)
  have a5 : ∀ l k, D.add (.str (cutT y l k)) (.str ",39") = pure (.str (cutT y l k ++ ",39")) := fun l k => add_txt (by
    have := cl l k
    have : (Str.ofString ",39").length = 3 := by decide +kernel
    omega)
  have a6 : ∀ l k, D.add (.str (cutT y l k)) (.str ",") = pure (.str (cutT y l k ++ ",")) := fun l k => add_txt (by
    have := cl l k
    have : (Str.ofString ",").length = 1 := by decide +kernel
    omega)
  have a7 : ∀ l k, D.add (.str "0") (.str (cutT y l k)) = pure (.str ("0" ++ cutT y l k)) := fun l k => add_txt (by
    have := cl l k
    have : (Str.ofString "0").length = 1 := by decide +kernel
    omega)
  have m1 : D.mulX (.str "1") (.int 31) = pure (.str (PySem.Txt.mul "1" 31)) := by
    show (guard _ >>= fun _ => _) = _
    exact guard_bind (by decide +kernel) _
  have m0 : D.mulX (.str "1") (.int 30) = pure (.str (PySem.Txt.mul "1" 30)) := by
    show (guard _ >>= fun _ => _) = _
    exact guard_bind (by decide +kernel) _
  have n1 : D.add (.str "3,") (.str (PySem.Txt.mul "1" 31)) = pure (.str ("3," ++ PySem.Txt.mul "1" 31)) := add_txt (by decide +kernel)
  have n0 : D.add (.str "3,") (.str (PySem.Txt.mul "1" 30)) = pure (.str ("3," ++ PySem.Txt.mul "1" 30)) := add_txt (by decide +kernel)
  have la : ∀ (p q : List D), p.length ≤ 100 → q.length ≤ 100 → D.add (.lst p) (.lst q) = pure (.lst (p ++ q)) := fun p q h1 h2 => add_lst (by omega)
  show Sat _ _
  simp only [len_txt (show y.length ≤ 1000 by omega), pure_bind, add_int, mod_ok (show (0 : Int) < (y.length : Nat) + 1 by omega), cutM_def, partM_def, asI_int, cut_txt (show y.length ≤ 1000 by omega), neg_int, a1, a2, a3, a4, a5, a6, a7, m1, m0, n1, n0]
  rw [la _ _ (by simp) (by simp), pure_bind, la _ _ (by simp) (by simp), pure_bind, la _ _ (by simp) (by simp), pure_bind, la _ _ (by simp) (by simp), pure_bind, show ∀ ds : List D, itemsX (.lst ds) = pure ds from fun _ => rfl, pure_bind]
  obtain ⟨p, ep, pl⟩ : ∃ p : Nat, ((b : Nat) : Int) % ((y.length : Nat) + 1) = (p : Nat) ∧ p ≤ y.length := ⟨b % (y.length + 1), rfl, by
    have := Nat.mod_lt b (show 0 < y.length + 1 by omega)
    omega⟩
  rw [ep]
  have c1 : ∀ q : Nat, WT q (cutT y none (some (q : Int))) := fun q => ⟨by
    rw [← chs_len, chs_cut, cut_to, List.length_take]
    omega, (w.cut _ _).lo⟩
  have c2 : ∀ q : Nat, WT (42 - q) (cutT y (some (q : Int)) none) := fun q => ⟨by
    rw [← chs_len, chs_cut, cut_from, List.length_drop, chs_len]
    omega, (w.cut _ _).lo⟩
  have c3 : WT (42 - p) (cutT y (some ((p : Int) + 1)) none) := by
    have := c2 (p + 1)
    rw [show (((p + 1 : Nat)) : Int) = (p : Int) + 1 by omega] at this
    exact this.mono (by omega)
  have c4 : WT 1 (cutT y (some (-1)) none) := ⟨by
    rw [← chs_len, chs_cut]
    unfold cutL
    rw [List.length_take, List.length_drop]
    unfold sIx'
    show min ((chs y).length - (if (-1 : Int) < 0 then ((-1 : Int) + (chs y).length).toNat else min (-1 : Int).toNat (chs y).length)) ((chs y).length - (if (-1 : Int) < 0 then ((-1 : Int) + (chs y).length).toNat else min (-1 : Int).toNat (chs y).length)) ≤ 1
    rw [if_pos (by decide)]
    omega, (w.cut _ _).lo⟩
  have tx : ∀ {n : Nat} {z : Str}, WT n z → n ≤ 60 → T82 (.str z) := fun hz hn => .inl ⟨_, rfl, hz.mono hn⟩
  have kc : ∀ {z : Str}, z.length ≤ 60 → ((chs z).all fun c => decide (c < 128)) = true → T82 (.str z) := fun h1 h2 => .inl ⟨_, rfl, h1, fun c hc => of_decide_eq_true (List.all_eq_true.mp h2 c hc)⟩
  have w39 : WT 3 ",39" := ⟨by decide +kernel, by decide +kernel⟩
  have wco : WT 1 "," := ⟨by decide +kernel, by decide +kernel⟩
  have w0 : WT 1 "0" := ⟨by decide +kernel, by decide +kernel⟩
  refine Sat.seq (Sat.for0 (fun _ => True) trivial (fun x hx _ _ => ?_) (fun _ _ => Sat.pur trivial))
  have T : T82 x := by
    revert hx
    revert x
    simp only [List.cons_append, List.nil_append]
    simp only [List.forall_mem_cons]
    refine ⟨tx w (by decide), tx (((c1 p).add wsg).add (c2 p)) (by omega), tx (((c1 p).add wsg).add c3) (by omega), tx ((c1 p).add c3) (by omega), tx (w.add c4) (by decide), tx ((c1 20).add w39) (by decide), tx (w0.add (c1 38)) (by decide), tx ((c1 20).add wco) (by decide), ?_⟩
    refine ⟨kc (by decide +kernel) (by decide +kernel), kc (by decide +kernel) (by decide +kernel), kc (by decide +kernel) (by decide +kernel), kc (by decide +kernel) (by decide +kernel), ?_⟩
    refine ⟨kc (by decide +kernel) (by decide +kernel), kc (by decide +kernel) (by decide +kernel), kc (by decide +kernel) (by decide +kernel), kc (by decide +kernel) (by decide +kernel), kc (by decide +kernel) (by decide +kernel), kc (by decide +kernel) (by decide +kernel), kc (by decide +kernel) (by decide +kernel), kc (by decide +kernel) (by decide +kernel), kc (by decide +kernel) (by decide +kernel), kc (by decide +kernel) (by decide +kernel), ?_⟩
    refine ⟨kc (by decide +kernel) (by decide +kernel), kc (by decide +kernel) (by decide +kernel), kc (by decide +kernel) (by decide +kernel), kc (by decide +kernel) (by decide +kernel), kc (by decide +kernel) (by decide +kernel), kc (by decide +kernel) (by decide +kernel), kc (by decide +kernel) (by decide +kernel), kc (by decide +kernel) (by decide +kernel), ?_⟩
    exact ⟨.inr (.inl rfl), .inr (.inr (.inl rfl)), .inr (.inr (.inr (.inl rfl))), .inr (.inr (.inr (.inr (.inl rfl)))), .inr (.inr (.inr (.inr (.inr (.inl rfl))))), .inr (.inr (.inr (.inr (.inr (.inr rfl))))), fun _ h => nomatch h⟩
  rw [show enumM (pure (D.lst [D.opq 0, D.opq 2, D.opq 4, D.opq 6])) = pure (enumL [D.opq 0, D.opq 2, D.opq 4, D.opq 6]) from rfl, pure_bind]
  refine Sat.seq (Sat.for0 (fun _ => True) trivial (fun z hz _ _ => ?_) (fun _ _ => Sat.pur trivial))
  obtain ⟨i, rfl, hi⟩ : ∃ i : Nat, z = .tup [.int i, .opq (2 * i)] ∧ i < 4 := by
    have hz : z ∈ [D.tup [.int 0, .opq 0], .tup [.int 1, .opq 2], .tup [.int 2, .opq 4], .tup [.int 3, .opq 6]] := hz
    simp only [List.mem_cons, List.not_mem_nil, or_false] at hz
    rcases hz with rfl | rfl | rfl | rfl
    · exact ⟨0, rfl, by decide⟩
    · exact ⟨1, rfl, by decide⟩
    · exact ⟨2, rfl, by decide⟩
    · exact ⟨3, rfl, by decide⟩
  have hm : i ∈ [0, 1, 2, 3] := by
    rcases (show i = 0 ∨ i = 1 ∨ i = 2 ∨ i = 3 by omega) with rfl | rfl | rfl | rfl <;> decide
  obtain ⟨r, r1, r2, r3⟩ := due_read T hi
  rw [un2_two, pure_bind]
  simp only [callV_at hm, callM_def, seqL_cons, seqL_nil, pure_bind, r2, r3, f1_one, repr_ok r1, neA_str, asB_def, isB_bl, decide_true, Bool.not_true, Bool.false_eq_true, if_false, range1_ok (show (2 : Int) < 2 ^ 62 by decide) (show -(2 ^ 62 : Int) ≤ 2 by decide)]
  exact Sat.seq (Sat.for0 (fun _ => True) trivial (fun _ _ _ _ => Sat.pur trivial) (fun _ _ => Sat.pur trivial))
end Ev

open PySem PySem.W PyProof.Rows
set_option maxHeartbeats 0 in
theorem PySem.Challenge.cw_evenhues_k82_texts_read_holds : PySem.Challenge.rw_evenhues_k82_texts_read.Holds := by
  w_on; o_law; k_head; (case hw => w_witness2)
  k_fill
  refine' @Ev.walk_g ⟨[(?B0, Ev.lamQ "law")], Ev.faOf [?F0, ?F1, ?F2, ?F3], fun _ _ _ => False, fun _ => [], fun _ => 0, fun _ => (0, [])⟩ true PySem.Challenge.rw_evenhues_k82_texts_read 63 9 _ _ _ _ _ _ "_law_script" Ev.D_law rfl (by decide) rfl ⟨rfl, by decide, by decide⟩ (fun w h Y => PySem.W.km_in_of Y) [(?cc0, ?B0)] rfl ?hT ?nT ?G Ev.math
  case G =>
    intro w mg fa h KX G hmg
    letI : Ev.Tb := ⟨[(?B0, Ev.lamQ "law")], Ev.faOf [?F0, ?F1, ?F2, ?F3], fun _ _ _ => False, fun _ => [], fun _ => 0, fun _ => (0, [])⟩
    refine' Ev.all_mk KX G hmg ?a_L_pen ?l_L_pen ?e_L_pen ?k_L_pen ?a_L_cell_at ?l_L_cell_at ?e_L_cell_at ?k_L_cell_at ?a_L_draw ?l_L_draw ?e_L_draw ?k_L_draw ?a_L_hues_text ?l_L_hues_text ?e_L_hues_text ?k_L_hues_text ?a_L_numbers_text ?l_L_numbers_text ?e_L_numbers_text ?k_L_numbers_text ?a_hues_in ?l_hues_in ?e_hues_in ?k_hues_in ?a_strip_read ?l_strip_read ?e_strip_read ?k_strip_read ?a_draft_read ?l_draft_read ?e_draft_read ?k_draft_read ?a_number_in ?l_number_in ?e_number_in ?k_number_in ?a_numbers_in ?l_numbers_in ?e_numbers_in ?k_numbers_in ?a_is_whole ?l_is_whole ?e_is_whole ?k_is_whole ?a_is_between ?l_is_between ?e_is_between ?k_is_between ?a_are_sizes ?l_are_sizes ?e_are_sizes ?k_are_sizes ?a_sizes_read ?l_sizes_read ?e_sizes_read ?k_sizes_read ?a_is_lot ?l_is_lot ?e_is_lot ?k_is_lot ?a_lot_read ?l_lot_read ?e_lot_read ?k_lot_read ?a_L_numbers ?l_L_numbers ?e_L_numbers ?k_L_numbers ?a_L_due ?l_L_due ?e_L_due ?k_L_due ?a_L_kind ?l_L_kind ?e_L_kind ?k_L_kind ?a_L_got ?l_L_got ?e_L_got ?k_L_got ?a_law ?l_law ?e_law ?k_law ?z_ValueError ?z_all ?z_bool ?z_enumerate ?z_int ?z_isinstance ?z_len ?z_list ?z_max ?z_min ?z_range ?z_repr ?z_set ?z_sorted ?z_str ?z_tuple ?z_zip ?y_EMPTY ?y_FIGURES ?y_HUES ?y_LEAST_SIZE ?y_MOST_FIGURES ?y_MOST_PLACE ?y_MOST_PLACES ?y_MOST_SIZE ?y_SIGNS ?xg_NoText ?xx_NoText ?xk_NoText ?xb_NoText ?xt_NoText ?ng_NoStrip ?nc_NoStrip ?ni_NoStrip ?nt_NoStrip ?ng_NoSizes ?nc_NoSizes ?ni_NoSizes ?nt_NoSizes ?ng_NoNumber ?nc_NoNumber ?ni_NoNumber ?nt_NoNumber ?ng_NoPlace ?nc_NoPlace ?ni_NoPlace ?nt_NoPlace ?ng_NoHue ?nc_NoHue ?ni_NoHue ?nt_NoHue ?ng_NoDraft ?nc_NoDraft ?ni_NoDraft ?nt_NoDraft ?ng_NoPaper ?nc_NoPaper ?ni_NoPaper ?nt_NoPaper ?ng_NoFit ?nc_NoFit ?ni_NoFit ?nt_NoFit ?ng_TooGreat ?nc_TooGreat ?ni_TooGreat ?nt_TooGreat ?ng_NoLot ?nc_NoLot ?ni_NoLot ?nt_NoLot ?ng_NoRing ?nc_NoRing ?ni_NoRing ?nt_NoRing ?ng_NoRound ?nc_NoRound ?ni_NoRound ?nt_NoRound ?ng_NoStand ?nc_NoStand ?ni_NoStand ?nt_NoStand ?ng_NoText ?nc_NoText ?ni_NoText ?nt_NoText ?ng_NoDeed ?nc_NoDeed ?ni_NoDeed ?nt_NoDeed ?ng_NoLine ?nc_NoLine ?ni_NoLine ?nt_NoLine ?ng_HueError ?nc_HueError ?ni_HueError ?nt_HueError ?nb_HueError ?nd_HueError ?vh_1 ?vh_2 ?u1_NoText ?u2_NoText ?u3_NoText ?u4_NoText ?u5_NoText ?u6_NoText ?u7_NoText ?u8_NoText ?s_NoText_NoStrip ?s_NoText_NoSizes ?s_NoText_NoNumber ?s_NoText_NoPlace ?s_NoText_NoHue ?s_NoText_NoDraft ?s_NoText_NoPaper ?s_NoText_NoFit ?s_NoText_TooGreat ?s_NoText_NoLot ?s_NoText_NoRing ?s_NoText_NoRound ?s_NoText_NoStand ?s_NoText_NoText ?s_NoText_NoDeed ?s_NoText_NoLine ?fa_strip_read ?fa_draft_read ?fa_sizes_read ?fa_lot_read ?q_law ?r_law ?p_law ?m_law ?nodup
    (case a_L_pen => k_is); (case l_L_pen => k_is); (case e_L_pen => k_is); (case k_L_pen => k_is); (case a_L_cell_at => k_is); (case l_L_cell_at => k_is); (case e_L_cell_at => k_is); (case k_L_cell_at => k_is); (case a_L_draw => k_is); (case l_L_draw => k_is); (case e_L_draw => k_is); (case k_L_draw => k_is); (case a_L_hues_text => k_is); (case l_L_hues_text => k_is); (case e_L_hues_text => k_is); (case k_L_hues_text => k_is); (case a_L_numbers_text => k_is); (case l_L_numbers_text => k_is); (case e_L_numbers_text => k_is); (case k_L_numbers_text => k_is); (case a_hues_in => k_is); (case l_hues_in => k_is); (case e_hues_in => k_is); (case k_hues_in => k_is); (case a_strip_read => k_is); (case l_strip_read => k_is); (case e_strip_read => k_is); (case k_strip_read => k_is); (case a_draft_read => k_is); (case l_draft_read => k_is); (case e_draft_read => k_is); (case k_draft_read => k_is); (case a_number_in => k_is); (case l_number_in => k_is); (case e_number_in => k_is); (case k_number_in => k_is); (case a_numbers_in => k_is); (case l_numbers_in => k_is); (case e_numbers_in => k_is); (case k_numbers_in => k_is); (case a_is_whole => k_is); (case l_is_whole => k_is); (case e_is_whole => k_is); (case k_is_whole => k_is); (case a_is_between => k_is); (case l_is_between => k_is); (case e_is_between => k_is); (case k_is_between => k_is); (case a_are_sizes => k_is); (case l_are_sizes => k_is); (case e_are_sizes => k_is); (case k_are_sizes => k_is); (case a_sizes_read => k_is); (case l_sizes_read => k_is); (case e_sizes_read => k_is); (case k_sizes_read => k_is); (case a_is_lot => k_is); (case l_is_lot => k_is); (case e_is_lot => k_is); (case k_is_lot => k_is); (case a_lot_read => k_is); (case l_lot_read => k_is); (case e_lot_read => k_is); (case k_lot_read => k_is); (case a_L_numbers => k_is); (case l_L_numbers => k_is); (case e_L_numbers => k_is); (case k_L_numbers => k_is); (case a_L_due => k_is); (case l_L_due => k_is); (case e_L_due => k_is); (case k_L_due => k_is); (case a_L_kind => k_is); (case l_L_kind => k_is); (case e_L_kind => k_is); (case k_L_kind => k_is); (case a_L_got => k_is); (case l_L_got => k_is); (case e_L_got => k_is); (case k_L_got => k_is); (case a_law => k_is); (case l_law => k_is); (case e_law => k_is); (case k_law => k_is); (case z_ValueError => k_is); (case z_all => k_is); (case z_bool => k_is); (case z_enumerate => k_is); (case z_int => k_is); (case z_isinstance => k_is); (case z_len => k_is); (case z_list => k_is); (case z_max => k_is); (case z_min => k_is); (case z_range => k_is); (case z_repr => k_is); (case z_set => k_is); (case z_sorted => k_is); (case z_str => k_is); (case z_tuple => k_is); (case z_zip => k_is); (case y_EMPTY => k_is); (case y_FIGURES => k_is); (case y_HUES => k_is); (case y_LEAST_SIZE => k_is); (case y_MOST_FIGURES => k_is); (case y_MOST_PLACE => k_is); (case y_MOST_PLACES => k_is); (case y_MOST_SIZE => k_is); (case y_SIGNS => k_is); (case xg_NoText => k_is); (case xx_NoText => k_exc); (case xk_NoText => k_is); (case xb_NoText => k_is); (case xt_NoText => k_is); (case ng_NoStrip => k_is); (case nc_NoStrip => k_is); (case ni_NoStrip => exact rfl); (case nt_NoStrip => k_is); (case ng_NoSizes => k_is); (case nc_NoSizes => k_is); (case ni_NoSizes => exact rfl); (case nt_NoSizes => k_is); (case ng_NoNumber => k_is); (case nc_NoNumber => k_is); (case ni_NoNumber => exact rfl); (case nt_NoNumber => k_is); (case ng_NoPlace => k_is); (case nc_NoPlace => k_is); (case ni_NoPlace => exact rfl); (case nt_NoPlace => k_is); (case ng_NoHue => k_is); (case nc_NoHue => k_is); (case ni_NoHue => exact rfl); (case nt_NoHue => k_is); (case ng_NoDraft => k_is); (case nc_NoDraft => k_is); (case ni_NoDraft => exact rfl); (case nt_NoDraft => k_is); (case ng_NoPaper => k_is); (case nc_NoPaper => k_is); (case ni_NoPaper => exact rfl); (case nt_NoPaper => k_is); (case ng_NoFit => k_is); (case nc_NoFit => k_is); (case ni_NoFit => exact rfl); (case nt_NoFit => k_is); (case ng_TooGreat => k_is); (case nc_TooGreat => k_is); (case ni_TooGreat => exact rfl); (case nt_TooGreat => k_is); (case ng_NoLot => k_is); (case nc_NoLot => k_is); (case ni_NoLot => exact rfl); (case nt_NoLot => k_is); (case ng_NoRing => k_is); (case nc_NoRing => k_is); (case ni_NoRing => exact rfl); (case nt_NoRing => k_is); (case ng_NoRound => k_is); (case nc_NoRound => k_is); (case ni_NoRound => exact rfl); (case nt_NoRound => k_is); (case ng_NoStand => k_is); (case nc_NoStand => k_is); (case ni_NoStand => exact rfl); (case nt_NoStand => k_is); (case ng_NoText => k_is); (case nc_NoText => k_is); (case ni_NoText => exact rfl); (case nt_NoText => k_is); (case ng_NoDeed => k_is); (case nc_NoDeed => k_is); (case ni_NoDeed => exact rfl); (case nt_NoDeed => k_is); (case ng_NoLine => k_is); (case nc_NoLine => k_is); (case ni_NoLine => exact rfl); (case nt_NoLine => k_is); (case ng_HueError => k_is); (case nc_HueError => k_is); (case ni_HueError => exact rfl); (case nt_HueError => k_is); (case nb_HueError => k_is); (case nd_HueError => k_is); (case vh_1 => k_is); (case vh_2 => k_is); (case u1_NoText => k_is); (case u2_NoText => k_is); (case u3_NoText => k_is); (case u4_NoText => k_is); (case u5_NoText => k_is); (case u6_NoText => k_is); (case u7_NoText => k_is); (case u8_NoText => k_is); (case s_NoText_NoStrip => k_is); (case s_NoText_NoSizes => k_is); (case s_NoText_NoNumber => k_is); (case s_NoText_NoPlace => k_is); (case s_NoText_NoHue => k_is); (case s_NoText_NoDraft => k_is); (case s_NoText_NoPaper => k_is); (case s_NoText_NoFit => k_is); (case s_NoText_TooGreat => k_is); (case s_NoText_NoLot => k_is); (case s_NoText_NoRing => k_is); (case s_NoText_NoRound => k_is); (case s_NoText_NoStand => k_is); (case s_NoText_NoText => k_is); (case s_NoText_NoDeed => k_is); (case s_NoText_NoLine => k_is); (case fa_strip_read => exact rfl); (case fa_draft_read => exact rfl); (case fa_sizes_read => exact rfl); (case fa_lot_read => exact rfl); (case q_law => exact rfl); (case r_law => k_is); (case p_law => exact rfl); (case m_law => exact .head _); (case nodup => exact (by decide))
  case hT => exact fun w h Y => List.forall_mem_cons.mpr ⟨⟨PySem.W.codeHd_of_K (PySem.W.km_in_of Y) (by kernel_rfl), PySem.W.km_tabs_of Y _ (by simp)⟩, fun _ h => nomatch h⟩
  case nT => exact fun w => List.forall_mem_cons.mpr ⟨by kernel_rfl, fun _ h => nomatch h⟩
