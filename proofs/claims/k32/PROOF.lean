import PyProof.Rows.All
import PyProof.ReprReads
import PyProof.P3Statements
import KE.DataMinMax
import Wide.All
import OpenK.AllK
import Wide.FinOn
import HandS.ForMost
import HandS.Exc
import HandS.TryOnly
import HandS.ExcOwn
import HandS.WordsExc
import HandS.TupAny
import HandS.TupMul
import HandS.IsInst
import HandS.Style
import HandS.Lambda
import HandS.Zip
import PyProof.ReprRoads
import HandS.SetFor
import KE.GoesEnum
import HandS.SortRule
import HandS.Deep
import HandS.Conv
import HandS.Strs
import HandS.Flow
import HandS.SortInts
import PyProof.Claim2Refuses
import HandS.HotCalls
import HandS.ExcIs
import HandS.ExcField
import KE.KExcIs
import PyProof.EqAt
import HandS.TupSets
import HandS.Small
import HandS.TupLe
import KE.KDictSum
import HandS.ExcInit
import HandS.ClsMeth
import PySem.Challenge.RW_evenhues_k32_papers_told
set_option Elab.async false
set_option linter.all false
set_option autoImplicit false
set_option maxRecDepth 100000
/-! Python data, and programs over it as predicate transformers. -/
namespace Ev
open PySem (Str PyData)

inductive D where
  | non | bl (b : Bool) | int (i : Int) | str (x : Str)
  | tup (xs : List D) | lst (xs : List D)
  | dct (kvs : List (Sum Int Str × D))
  | pen (k : Bool) | scr (ns : List Int) | opq (a : Nat)

def keyPy : Sum Int Str → PyData
  | .inl i => .int i
  | .inr z => .str z
mutual
def D.py : D → PyData
  | .non => .none | .bl b => .bool b | .int i => .int i | .str x => .str x
  | .tup xs => .tuple (D.pys xs) | .lst xs => .list (D.pys xs)
  | .dct kvs => .dict (D.pyKv kvs)
  | .pen _ => .none | .scr _ => .none | .opq _ => .none
def D.pys : List D → List PyData
  | [] => []
  | x :: r => x.py :: D.pys r
def D.pyKv : List (Sum Int Str × D) → List (PyData × PyData)
  | [] => []
  | (k, v) :: r => (keyPy k, v.py) :: D.pyKv r
end
mutual
/-- plain data: nothing that only we know of; dk: dicts allowed -/
def D.plain (dk : Bool) : D → Bool
  | .non | .bl _ | .int _ | .str _ => true
  | .tup xs => D.plains dk xs
  | .lst xs => D.plains dk xs
  | .dct kvs => dk && D.plainKv dk kvs
  | .pen _ | .scr _ | .opq _ => false
def D.plains (dk : Bool) : List D → Bool
  | [] => true
  | x :: r => x.plain dk && D.plains dk r
def D.plainKv (dk : Bool) : List (Sum Int Str × D) → Bool
  | [] => true
  | (_, v) :: r => v.plain dk && D.plainKv dk r
end
theorem D.pys_map : ∀ xs : List D, D.pys xs = xs.map D.py
  | [] => by simp [D.pys]
  | x :: r => by simp [D.pys, D.pys_map r]
theorem D.plains_all (dk : Bool) : ∀ xs : List D, D.plains dk xs = xs.all (D.plain dk)
  | [] => by simp [D.plains]
  | x :: r => by simp [D.plains, D.plains_all dk r]

/-- an exception: its class's name, and what it keeps -/
structure Exn where
  cls : Str
  args : Option (Int × Int) := none

/-- what a piece of code may do, by what is wanted behind it -/
structure M (α : Type) where
  run : (α → Prop) → (Exn → Prop) → Prop
  mono : ∀ {Q Q' : α → Prop} {E E' : Exn → Prop}, (∀ a, Q a → Q' a) → (∀ e, E e → E' e) → run Q E → run Q' E'

theorem M.ext' {α : Type} {m n : M α} (h : ∀ Q E, m.run Q E ↔ n.run Q E) : m = n := by
  cases m with
  | mk r1 m1 =>
    cases n with
    | mk r2 m2 =>
      have e : r1 = r2 := by funext Q E; exact propext (h Q E)
      subst e
      rfl

protected def M.pure {α : Type} (a : α) : M α := ⟨fun Q _ => Q a, fun h _ x => h _ x⟩
protected def M.bind {α β : Type} (m : M α) (f : α → M β) : M β :=
  ⟨fun Q E => m.run (fun a => (f a).run Q E) E, fun h1 h2 x => m.mono (fun a y => (f a).mono h1 h2 y) h2 x⟩
instance : Monad M where
  pure := M.pure
  bind := M.bind
instance : LawfulMonad M := LawfulMonad.mk' M (id_map := fun _ => rfl) (pure_bind := fun _ _ => rfl) (bind_assoc := fun _ _ _ => rfl)

def fail {α : Type} : M α := ⟨fun _ _ => False, fun _ _ x => x⟩
def guard (p : Prop) : M Unit := ⟨fun Q _ => p ∧ Q (), fun h _ x => ⟨x.1, h _ x.2⟩⟩
def raise {α : Type} (e : Exn) : M α := ⟨fun _ E => E e, fun _ h x => h _ x⟩
/-- some number from 0 on below many -/
def draw (many : Int) : M D := ⟨fun Q _ => (0 < many ∧ many < 1073741824) ∧ ∀ k : Int, 0 ≤ k → k < many → Q (.int k), fun h _ x => ⟨x.1, fun k a b => h _ (x.2 k a b)⟩⟩

section
variable {α β : Type} {Q : α → Prop} {E : Exn → Prop}
theorem run_pure (a : α) : (pure a : M α).run Q E = Q a := rfl
theorem run_bind (m : M β) (f : β → M α) : (m >>= f).run Q E = m.run (fun a => (f a).run Q E) E := rfl
theorem run_map (m : M β) (f : β → α) : (f <$> m).run Q E = m.run (fun a => Q (f a)) E := rfl
theorem run_guard (p : Prop) (Q : Unit → Prop) : (guard p).run Q E = (p ∧ Q ()) := rfl
theorem run_raise (e : Exn) : (raise e : M α).run Q E = E e := rfl
theorem run_fail : (fail : M α).run Q E = False := rfl
theorem run_draw (many : Int) (Q : D → Prop) : (draw many).run Q E = ((0 < many ∧ many < 1073741824) ∧ ∀ k : Int, 0 ≤ k → k < many → Q (.int k)) := rfl
theorem run_ite (c : Prop) [Decidable c] (a b : M α) : (if c then a else b).run Q E = if c then a.run Q E else b.run Q E := by
  by_cases h : c
  · rw [if_pos h, if_pos h]
  · rw [if_neg h, if_neg h]
theorem guard_true {p : Prop} (h : p) : guard p = pure () := M.ext' fun Q E => ⟨fun x => x.2, fun x => ⟨h, x⟩⟩
theorem guard_bind {p : Prop} (h : p) (f : Unit → M α) : (guard p >>= f) = f () := by rw [guard_true h]; rfl
theorem fail_bind (f : β → M α) : ((fail : M β) >>= f) = fail := rfl
theorem raise_bind (e : Exn) (f : β → M α) : ((raise e : M β) >>= f) = raise e := rfl
end

/-! ### what Python's operators do -/
def line : Nat := PySem.sizeLine

/-- a test and, or, not -/
def andM (a b : M Bool) : M Bool := a >>= fun x => if x then b else pure false
def orM (a b : M Bool) : M Bool := a >>= fun x => if x then pure true else b
def notM (a : M Bool) : M Bool := a >>= fun x => pure (!x)
/-- the same as values -/
def isB : D → M Bool
  | .bl b => pure b
  | _ => fail
def ofB (a : M Bool) : M D := a >>= fun b => pure (.bl b)

inductive Ty | int | bool | str | tuple | list | dict
  deriving DecidableEq
def D.isa : Ty → D → Option Bool
  | t, .non => some false
  | t, .bl _ => some (t == .bool || t == .int)
  | t, .int _ => some (t == .int)
  | t, .str _ => some (t == .str)
  | t, .tup _ => some (t == .tuple)
  | t, .lst _ => some (t == .list)
  | t, .dct _ => some (t == .dict)
  | _, _ => none
def isaM (t : Ty) (d : D) : M D := match d.isa t with | some b => pure (.bl b) | none => fail

def D.len : D → M D
  | .tup xs => pure (.int xs.length)
  | .lst xs => pure (.int xs.length)
  | .scr ns => pure (.int ns.length)
  | .str z => guard (z.length ≤ line) >>= fun _ => pure (.int z.length)
  | .dct kvs => pure (.int kvs.length)
  | _ => fail

def atI' {α : Type} (xs : List α) (i : Int) : Option α :=
  if 0 ≤ i then (if i < xs.length then xs[i.toNat]? else none) else (if -(xs.length : Int) ≤ i then xs[(i + xs.length).toNat]? else none)
def ofO {α : Type} : Option α → M α
  | some a => pure a
  | none => fail
def D.ix : D → D → M D
  | .tup xs, .int i => ofO (atI' xs i)
  | .lst xs, .int i => ofO (atI' xs i)
  | .scr ns, .int i => ofO (atI' ns i) >>= fun n => pure (.int n)
  | _, _ => fail

def D.add : D → D → M D
  | .int i, .int j => pure (.int (i + j))
  | .tup xs, .tup ys => guard (xs.length + ys.length ≤ line) >>= fun _ => pure (.tup (xs ++ ys))
  | .lst xs, .lst ys => guard (xs.length + ys.length ≤ line) >>= fun _ => pure (.lst (xs ++ ys))
  | .str x, .str y => guard (x.length + y.length ≤ line) >>= fun _ => pure (.str (x ++ y))
  | _, _ => fail
def D.sub : D → D → M D
  | .int i, .int j => pure (.int (i - j))
  | _, _ => fail
def smallI (i : Int) : Prop := -(2 ^ 64) < i ∧ i < 2 ^ 64
def rep {α : Type} (k : Int) (xs : List α) : List α := (List.replicate k.toNat xs).flatten
def D.mul : D → D → M D
  | .int i, .int j => guard (smallI i ∨ smallI j) >>= fun _ => pure (.int (i * j))
  | .tup xs, .int k => guard (xs ≠ [] ∧ 2 ≤ k ∧ k ≤ 1000 ∧ xs.length ≤ 1000) >>= fun _ => pure (.tup (rep k xs))
  | .lst xs, .int k => guard (k ≤ 1000 ∧ xs.length ≤ 1000 ∧ -(2 ^ 63) ≤ k) >>= fun _ => pure (.lst (rep k xs))
  | _, _ => fail
def D.fdiv : D → D → M D
  | .int i, .int j => guard (0 < j ∧ j < 1073741824) >>= fun _ => pure (.int (i / j))
  | _, _ => fail
def D.mod : D → D → M D
  | .int i, .int j => guard (0 < j) >>= fun _ => pure (.int (i % j))
  | _, _ => fail
def D.pow : D → D → M D
  | .int i, .int j => guard (0 ≤ j ∧ j ≤ 1000000 ∧ i.natAbs < 2 ^ 64) >>= fun _ => pure (.int (i ^ j.toNat))
  | _, _ => fail
def D.neg : D → M D
  | .int i => pure (.int (-i))
  | _ => fail

/-! comparisons -/
def D.lt : D → D → M D
  | .int i, .int j => pure (.bl (decide (i < j)))
  | _, _ => fail
def D.le : D → D → M D
  | .int i, .int j => pure (.bl (decide (i ≤ j)))
  | _, _ => fail
def D.gt : D → D → M D
  | .int i, .int j => pure (.bl (decide (j < i)))
  | _, _ => fail
def D.ge : D → D → M D
  | .int i, .int j => pure (.bl (decide (j ≤ i)))
  | _, _ => fail
/-- may be compared by == -/
def D.cmp (d : D) : Bool := d.plain false && d.py.canLay0 && decide (d.py.depth ≤ 64)
def D.eqv (a b : D) : Bool := PyData.eqv a.py b.py
def D.eq (a b : D) : M D := guard (a.cmp = true ∧ b.cmp = true) >>= fun _ => pure (.bl (a.eqv b))
def D.ne (a b : D) : M D := guard (a.cmp = true ∧ b.cmp = true) >>= fun _ => pure (.bl (!a.eqv b))
/-- texts -/
def D.eqS : D → D → M D
  | .str x, .str y => pure (.bl (decide (x = y)))
  | _, _ => fail
def D.neS : D → D → M D
  | .str x, .str y => pure (.bl (!decide (x = y)))
  | _, _ => fail
def D.isN : D → Bool
  | .non => true
  | _ => false
def D.isNM (d : D) : M D := pure (.bl d.isN)
def D.notNM (d : D) : M D := pure (.bl (!d.isN))
def D.items : D → M (List D)
  | .tup xs => pure xs
  | .lst xs => pure xs
  | _ => fail
def D.inn (x : D) (s : D) : M D := s.items >>= fun xs => guard (x.cmp = true ∧ (D.lst xs).cmp = true) >>= fun _ => pure (.bl (xs.any fun z => z.eqv x))
def D.notin (x : D) (s : D) : M D := s.items >>= fun xs => guard (x.cmp = true ∧ (D.lst xs).cmp = true) >>= fun _ => pure (.bl (!xs.any fun z => z.eqv x))

/-! texts of things -/
mutual
def nolst : PyData → Bool
  | .none | .bool _ | .int _ | .str _ => true
  | .list _ => false
  | .tuple xs => nolsts xs
  | .dict kvs => nolstKv kvs
def nolsts : List PyData → Bool
  | [] => true
  | x :: r => nolst x && nolsts r
def nolstKv : List (PyData × PyData) → Bool
  | [] => true
  | (k, v) :: r => nolst k && nolst v && nolstKv r
end
def D.shown (d : D) : Str := d.py.shown
def D.canShow (d : D) : Prop := d.plain true = true ∧ d.py.showable = true ∧ d.py.depth ≤ 60 ∧ d.py.shown.length ≤ line ∧ (d.py.hasDict = true → nolst d.py = true)
def D.repr (d : D) : M D := guard d.canShow >>= fun _ => pure (.str d.shown)

/-! built-in functions -/
def D.max2 : D → D → M D
  | .int i, .int j => pure (.int (if j > i then j else i))
  | _, _ => fail
def D.min2 : D → D → M D
  | .int i, .int j => pure (.int (if j < i then j else i))
  | _, _ => fail
def boolsL : List D → Option (List Bool)
  | [] => some []
  | .bl b :: r => (boolsL r).map (b :: ·)
  | _ :: _ => none
def intsL : List D → Option (List Int)
  | [] => some []
  | .int b :: r => (intsL r).map (b :: ·)
  | _ :: _ => none
def D.all : D → M D
  | .lst xs => ofO (boolsL xs) >>= fun bs => pure (.bl (bs.all id))
  | _ => fail
def D.any : D → M D
  | .lst xs => ofO (boolsL xs) >>= fun bs => pure (.bl (bs.any id))
  | _ => fail
def D.toTup : D → M D
  | .lst xs => pure (.tup xs)
  | .tup xs => pure (.tup xs)
  | _ => fail
def D.toLst : D → M D
  | .lst xs => pure (.lst xs)
  | .tup xs => pure (.lst xs)
  | _ => fail
def D.toInt : D → M D
  | .int i => pure (.int i)
  | .bl b => pure (.int (if b then 1 else 0))
  | _ => fail
def rangeL (lo hi : Int) : List D := (List.range (hi - lo).toNat).map fun i : Nat => D.int (lo + (i : Int))
def inR (i : Int) : Prop := -(2 ^ 62) ≤ i ∧ i < 2 ^ 62
def range1 : D → M (List D)
  | .int j => guard (inR j) >>= fun _ => pure (rangeL 0 j)
  | _ => fail
def range2 : D → D → M (List D)
  | .int i, .int j => guard (inR i ∧ inR j) >>= fun _ => pure (rangeL i j)
  | _, _ => fail

/-! slices: step 1 -/
def sIx' (n d : Nat) : Option Int → Nat
  | none => d
  | some v => if v < 0 then (v + n).toNat else min v.toNat n
def cutL {α : Type} (xs : List α) (lo hi : Option Int) : List α := (xs.drop (sIx' xs.length 0 lo)).take (sIx' xs.length xs.length hi - sIx' xs.length 0 lo)
def D.optI : Option D → M (Option Int)
  | none => pure none
  | some (.int i) => pure (some i)
  | some _ => fail
def D.cut (d : D) (lo hi : Option D) : M D := D.optI lo >>= fun l => D.optI hi >>= fun h => match d with
  | .tup xs => pure (.tup (cutL xs l h))
  | .lst xs => pure (.lst (cutL xs l h))
  | _ => fail

/-! ### statements -/
inductive Fl (S L : Type) where
  | nx (s : S) | rt (d : D) | bk (l : L) | ct (l : L)
def forM {S L : Type} (body : D → S → M (Fl S S)) : List D → S → M (Fl S L)
  | [], s => pure (.nx s)
  | x :: r, s => body x s >>= fun f => match f with
    | .nx s' => forM body r s'
    | .ct s' => forM body r s'
    | .bk s' => pure (.nx s')
    | .rt d => pure (.rt d)
def whileN {S L : Type} (c : S → M Bool) (body : S → M (Fl S S)) : Nat → S → M (Fl S L)
  | 0, _ => fail
  | n + 1, s => c s >>= fun b => if b then body s >>= fun f => match f with
      | .nx s' => whileN c body n s'
      | .ct s' => whileN c body n s'
      | .bk s' => pure (.nx s')
      | .rt d => pure (.rt d)
    else pure (.nx s)
def whileM {S L : Type} (c : S → M Bool) (body : S → M (Fl S S)) (s : S) : M (Fl S L) :=
  ⟨fun Q E => ∃ n, (whileN c body n s).run Q E, fun h1 h2 ⟨n, x⟩ => ⟨n, (whileN c body n s).mono h1 h2 x⟩⟩
/-- one block behind another -/
def seqM {S T L : Type} (a : M (Fl S L)) (b : S → M (Fl T L)) : M (Fl T L) := a >>= fun f => match f with
  | .nx s => b s
  | .rt d => pure (.rt d)
  | .bk l => pure (.bk l)
  | .ct l => pure (.ct l)
/-- a def's end -/
def endM {L : Type} (a : M (Fl Unit L)) : M D := a >>= fun f => match f with
  | .nx _ => pure .non
  | .rt d => pure d
  | .bk _ => fail
  | .ct _ => fail
/-- a list comprehension -/
def lcM (f : D → M (Option D)) : List D → List D → M (List D)
  | [], acc => pure acc
  | x :: r, acc => f x >>= fun o => match o with
    | none => lcM f r acc
    | some y => guard (acc.length < line) >>= fun _ => lcM f r (acc ++ [y])
/-- nothing may be raised -/
def nox {α : Type} (m : M α) : M α := ⟨fun Q _ => m.run Q fun _ => False, fun h _ x => m.mono h (fun _ z => z) x⟩
def lcIf (t : M Bool) (e : M D) : M (Option D) := t >>= fun b => if b then (e >>= fun y => pure (some y)) else pure none
def lcAll (e : M D) : M (Option D) := e >>= fun y => pure (some y)
/-- a pair's parts -/
def un2 : D → M (D × D)
  | .tup [a, b] => pure (a, b)
  | _ => fail
def un3 : D → M (D × D × D)
  | .tup [a, b, c] => pure (a, b, c)
  | _ => fail
def itemsL : D → M (List D)
  | .tup xs => pure xs
  | .lst xs => pure xs
  | .scr ns => pure (ns.map D.int)
  | _ => fail
/-! ### what stands in the mirrors -/
def seqL : List (M D) → M (List D)
  | [] => pure []
  | m :: r => m >>= fun x => seqL r >>= fun xs => pure (x :: xs)
def bin (f : D → D → M D) (a b : M D) : M D := a >>= fun x => b >>= fun y => f x y
def asB (r : M D) : M Bool := r >>= isB
def andV (a b : M D) : M D := a >>= isB >>= fun k => if k then b else pure (.bl false)
def orV (a b : M D) : M D := a >>= isB >>= fun k => if k then pure (.bl true) else b
def notV (a : M D) : M D := a >>= isB >>= fun k => pure (.bl (!k))
def chainM (a b c : M D) (f f' : D → D → M D) : M D := a >>= fun x => b >>= fun y => f x y >>= isB >>= fun k => if k then (c >>= fun z => f' y z) else pure (.bl false)
def tupM (rs : List (M D)) : M D := seqL rs >>= fun ds => pure (.tup ds)
def lstM (rs : List (M D)) : M D := seqL rs >>= fun ds => pure (.lst ds)
def f1 (g : D → M D) : List D → M D
  | [x] => g x
  | _ => fail
def f2 (g : D → D → M D) : List D → M D
  | [x, y] => g x y
  | _ => fail
def callM (f : List D → M D) (rs : List (M D)) : M D := seqL rs >>= f
def D.cutI (d : D) (l h : Option Int) : M D := match d with
  | .tup xs => pure (.tup (cutL xs l h))
  | .lst xs => pure (.lst (cutL xs l h))
  | _ => fail
def partM (r : M D) : M (Option Int) := r >>= fun d => match d with
  | .int i => pure (some i)
  | _ => fail
def cutM (r : M D) (lo hi : M (Option Int)) (f : D → Option Int → Option Int → M D) : M D := r >>= fun d => lo >>= fun l => hi >>= fun h => f d l h
def D.toLst' : D → M (List D)
  | .lst xs => pure xs
  | .tup xs => pure xs
  | _ => fail
def fo1 (g : D → M (List D)) : List D → M (List D)
  | [x] => g x
  | _ => fail
def leave {T L : Type} (m : M (Fl Empty L)) : M (Fl T L) := m >>= fun f => match f with
  | .nx e => e.elim
  | .rt d => pure (.rt d)
  | .bk l => pure (.bk l)
  | .ct l => pure (.ct l)
def endO {L : Type} (a : M (Fl Unit L)) : M D := a >>= fun f => match f with
  | .nx _ => fail
  | .rt d => pure d
  | .bk _ => fail
  | .ct _ => fail
def endB {L : Type} (own : Bool) (a : M (Fl Unit L)) : M D := match own with
  | false => endM a
  | true => endO a
def asL : D → M (List D)
  | .lst xs => pure xs
  | _ => fail
def penOk (k : Bool) (ds : List D) : Prop := match k with
  | false => ∃ x y : Int, ds = [.int x, .int y] ∧ 0 ≤ x ∧ 0 ≤ y ∧ y < 2147483629
  | true => ∃ x b n y : Int, ds = [.int x, .int b, .int n, .int y] ∧ 0 ≤ n ∧ 0 ≤ y ∧ y < 1000000007
def drawF (k : Bool) : List D → M D
  | [.pen k', .int many] => if k = k' then draw many else fail
  | _ => fail
def D.eqA (a b : D) : M D := match a, b with
  | .str x, .str y => pure (.bl (decide (x = y)))
  | a, b => D.eq a b
def D.neA (a b : D) : M D := match a, b with
  | .str x, .str y => pure (.bl (!decide (x = y)))
  | a, b => D.ne a b
def D.scal : D → Prop
  | .non | .bl _ | .int _ | .str _ => True
  | _ => False
def tg1 (d : D) : M D := pure d
def lcF {T : Type} (rit : M (List D)) (tg : D → M T) (rt : T → M Bool) (re : T → M D) : M (List D) := rit >>= fun xs => nox (lcM (fun x => tg x >>= fun t => lcIf (rt t) (re t)) xs [])
def rng1 (rs : List (M D)) : M (List D) := seqL rs >>= fun ds => match ds with | [x] => range1 x | _ => fail
def rng2 (rs : List (M D)) : M (List D) := seqL rs >>= fun ds => match ds with | [x, y] => range2 x y | _ => fail
def forF {T L V : Type} (rit : M (List D)) (tg : D → M V) (s0 : T) (body : V → T → M (Fl T T)) : M (Fl T L) := rit >>= fun xs => forM (fun x s => tg x >>= fun v => body v s) xs s0
def parM {A : Type} (rs : List (M D)) (k : D → D → M A) : M A := seqL rs >>= fun ds => match ds with | [d, e] => k d e | _ => fail
def par3M {A : Type} (rs : List (M D)) (k : D → D → D → M A) : M A := seqL rs >>= fun ds => match ds with | [d, e, f] => k d e f | _ => fail
def appM {A : Type} (ds : List D) (r : M D) (k : D → M A) : M A := r >>= fun d => guard (ds.length < line) >>= fun _ => k d
def extM {A : Type} (ds : List D) (r : M D) (k : List D → M A) : M A := r >>= fun d => match d with | .lst es => guard (ds.length + es.length ≤ line) >>= fun _ => k es | _ => fail
def isNF (x y : D) : M D := match y with | .non => D.isNM x | _ => fail
def notNF (x y : D) : M D := match y with | .non => D.notNM x | _ => fail
/-! more words -/
def ixP (n : Nat) (i : Int) : Option Nat := if 0 ≤ i then (if i < n then some i.toNat else none) else if -(n : Int) ≤ i then some (i + n).toNat else none
def stoM {A : Type} (ds : List D) (r ri : M D) (k : List D → M A) : M A := r >>= fun d => ri >>= fun x => match x with
  | .int z => ofO (ixP ds.length z) >>= fun j => k (ds.set j d)
  | _ => fail
def maxI : List Int → Option Int
  | [] => none
  | x :: r => some (r.foldl max x)
def minI : List Int → Option Int
  | [] => none
  | x :: r => some (r.foldl min x)
def D.max1 : D → M D
  | .lst xs => ofO (intsL xs) >>= fun ns => ofO (maxI ns) >>= fun m => pure (.int m)
  | _ => fail
def D.min1 : D → M D
  | .lst xs => ofO (intsL xs) >>= fun ns => ofO (minI ns) >>= fun m => pure (.int m)
  | _ => fail
def D.sum1 : D → M D
  | .lst xs => ofO (intsL xs) >>= fun ns => pure (.int ns.sum)
  | _ => fail
/-- a method of a list -/
def lstMet (f : List D → List D → M D) (ro : M D) (rs : List (M D)) : M D := ro >>= fun d => match d with
  | .lst xs => seqL rs >>= fun ds => f xs ds
  | _ => fail
def cntL (xs : List D) : List D → M D
  | [.int k] => ofO (intsL xs) >>= fun ns => pure (.int (ns.count k))
  | _ => fail
theorem foldl_max_mem : ∀ (r : List Int) (x : Int), r.foldl max x ∈ x :: r ∧ ∀ y ∈ x :: r, y ≤ r.foldl max x
  | [], x => ⟨List.mem_cons_self, fun y hy => by rw [List.mem_singleton.mp hy]; exact Int.le_refl _⟩
  | z :: r, x => by
    obtain ⟨h1, h2⟩ := foldl_max_mem r (max x z)
    rw [List.foldl_cons]
    have h3 := h2 _ (List.mem_cons_self)
    refine ⟨?_, fun y hy => ?_⟩
    · rcases List.mem_cons.mp h1 with e | m
      · rw [e]
        by_cases c : x ≤ z
        · rw [show max x z = z by omega]; simp
        · rw [show max x z = x by omega]; simp
      · simp [m]
    · rcases List.mem_cons.mp hy with e | m
      · omega
      · rcases List.mem_cons.mp m with e | m
        · omega
        · exact h2 y (List.mem_cons_of_mem _ m)
theorem foldl_min_mem : ∀ (r : List Int) (x : Int), r.foldl min x ∈ x :: r ∧ ∀ y ∈ x :: r, r.foldl min x ≤ y
  | [], x => ⟨List.mem_cons_self, fun y hy => by rw [List.mem_singleton.mp hy]; exact Int.le_refl _⟩
  | z :: r, x => by
    obtain ⟨h1, h2⟩ := foldl_min_mem r (min x z)
    rw [List.foldl_cons]
    have h3 := h2 _ (List.mem_cons_self)
    refine ⟨?_, fun y hy => ?_⟩
    · rcases List.mem_cons.mp h1 with e | m
      · rw [e]
        by_cases c : x ≤ z
        · rw [show min x z = x by omega]; simp
        · rw [show min x z = z by omega]; simp
      · simp [m]
    · rcases List.mem_cons.mp hy with e | m
      · omega
      · rcases List.mem_cons.mp m with e | m
        · omega
        · exact h2 y (List.mem_cons_of_mem _ m)
/-! enumerate, sorted -/
def enumL (xs : List D) : List D := (List.range xs.length).map fun i => .tup [.int (i : Nat), xs.getD i .non]
def enumM (r : M D) : M (List D) := r >>= fun d => match d with
  | .tup xs => pure (enumL xs)
  | .lst xs => pure (enumL xs)
  | _ => fail
def lexI : List Int → List Int → Bool
  | _, [] => false
  | [], _ :: _ => true
  | x :: xs, y :: ys => if x = y then lexI xs ys else decide (x < y)
def putI (x : List Int) : List (List Int) → List (List Int)
  | [] => [x]
  | y :: r => if lexI y x then y :: putI x r else x :: y :: r
def sortI : List (List Int) → List (List Int)
  | [] => []
  | x :: r => putI x (sortI r)
def D.nums : D → Option (List Int)
  | .tup xs => intsL xs
  | _ => none
def numsL : List D → Option (List (List Int))
  | [] => some []
  | x :: r => x.nums.bind fun a => (numsL r).map (a :: ·)
def D.sortT : D → M (List D)
  | .lst xs => ofO (numsL xs) >>= fun ls => guard (ls.length < 2 ∨ ∀ l ∈ ls, l ≠ []) >>= fun _ => pure ((sortI ls).map fun l => .tup (l.map .int))
  | _ => fail
/-! slices with a step -/
def stepL {α : Type} (xs : List α) (lo hi : Option Int) (st : Int) : List α :=
  (List.range (PySem.Builtin.Slice.slicePlaces (PySem.Builtin.Slice.sliceAdjust lo hi st xs.length).1 (PySem.Builtin.Slice.sliceAdjust lo hi st xs.length).2 st)).filterMap fun k : Nat => xs[((PySem.Builtin.Slice.sliceAdjust lo hi st xs.length).1 + (k : Int) * st).toNat]?
def D.cutS (d : D) (l h s : Option Int) : M D := match d, s with
  | .tup xs, some c => guard (c ≠ 0 ∧ (stepL xs l h c).length ≤ line) >>= fun _ => pure (.tup (stepL xs l h c))
  | _, _ => fail
def cutSM (r : M D) (lo hi st : M (Option Int)) : M D := r >>= fun d => lo >>= fun l => hi >>= fun h => st >>= fun s => d.cutS l h s
/-- a tuple so many times -/
def D.mulA : D → D → M D
  | .tup xs, .int k => if xs ≠ [] ∧ 2 ≤ k then D.mul (.tup xs) (.int k) else guard (-(2 ^ 63) ≤ k ∧ k < 2 ^ 63) >>= fun _ => pure (.tup (rep k xs))
  | a, b => D.mul a b
/-! in -/
def innB (x : D) : D → M Bool
  | .lst xs => guard (x.cmp = true ∧ (D.lst xs).cmp = true) >>= fun _ => pure (xs.any fun z => z.eqv x)
  | .tup xs => (match x with
    | .int i => ofO (intsL xs) >>= fun ns => pure (ns.any fun n => n == i)
    | _ => fail)
  | _ => fail
def D.innA (x s : D) : M D := innB x s >>= fun b => pure (.bl b)
def D.notinA (x s : D) : M D := innB x s >>= fun b => pure (.bl (!b))
theorem enumL_get {xs : List D} {i : Nat} {x : D} (h : (enumL xs)[i]? = some x) : ∃ z, xs[i]? = some z ∧ x = .tup [.int (i : Nat), z] := by
  unfold enumL at h
  rw [List.getElem?_map, Option.map_eq_some_iff] at h
  obtain ⟨j, e1, rfl⟩ := h
  have hl := (List.getElem?_eq_some_iff.mp e1).1
  rw [List.length_range] at hl
  rw [List.getElem?_range hl] at e1
  cases e1
  refine ⟨_, List.getElem?_eq_getElem hl, ?_⟩
  rw [List.getD_eq_getElem?_getD, List.getElem?_eq_getElem hl]
  rfl
theorem enumL_len (xs : List D) : (enumL xs).length = xs.length := by
  unfold enumL
  rw [List.length_map, List.length_range]
theorem lexI_irr : ∀ x : List Int, lexI x x = false
  | [] => rfl
  | x :: r => by
    rw [lexI, if_pos rfl]
    exact lexI_irr r
theorem lexI_asym : ∀ x y : List Int, lexI x y = true → lexI y x = false
  | [], [], h => by cases h
  | _ :: _, [], h => by cases h
  | [], _ :: _, _ => rfl
  | x :: xs, y :: ys, h => by
    rw [lexI] at h ⊢
    by_cases e : x = y
    · rw [if_pos e] at h
      rw [if_pos e.symm]
      exact lexI_asym xs ys h
    · rw [if_neg e] at h
      rw [if_neg (fun z => e z.symm)]
      have := of_decide_eq_true h
      exact decide_eq_false (by omega)
theorem lexI_tr : ∀ x y z : List Int, lexI y x = false → lexI z y = false → lexI z x = false
  | [], _, [], _, _ => rfl
  | [], _, _ :: _, _, _ => rfl
  | _ :: _, [], _, h, _ => by cases h
  | _ :: _, _ :: _, [], _, h => by cases h
  | x :: xs, y :: ys, z :: zs, h, k => by
    rw [lexI] at h k ⊢
    by_cases e1 : y = x
    · subst e1
      rw [if_pos rfl] at h
      by_cases e2 : z = y
      · subst e2
        rw [if_pos rfl] at k ⊢
        exact lexI_tr xs ys zs h k
      · rw [if_neg e2] at k ⊢
        exact k
    · rw [if_neg e1] at h
      have h' := of_decide_eq_false h
      by_cases e2 : z = y
      · subst e2
        rw [if_neg e1]
        exact h
      · rw [if_neg e2] at k
        have k' := of_decide_eq_false k
        rw [if_neg (by omega)]
        exact decide_eq_false (by omega)
theorem lexI_anti : ∀ x y : List Int, lexI x y = false → lexI y x = false → x = y
  | [], [], _, _ => rfl
  | [], _ :: _, h, _ => by cases h
  | _ :: _, [], _, h => by cases h
  | x :: xs, y :: ys, h, k => by
    rw [lexI] at h k
    by_cases e : x = y
    · subst e
      rw [if_pos rfl] at h k
      rw [lexI_anti xs ys h k]
    · rw [if_neg e] at h
      rw [if_neg (fun z => e z.symm)] at k
      have := of_decide_eq_false h
      have := of_decide_eq_false k
      omega
theorem putI_perm (x : List Int) : ∀ r, (putI x r).Perm (x :: r)
  | [] => .refl _
  | y :: r => by
    rw [putI]
    split
    · exact ((putI_perm x r).cons y).trans (.swap x y r)
    · exact .refl _
theorem sortI_perm : ∀ r, (sortI r).Perm r
  | [] => .refl _
  | x :: r => by
    rw [sortI]
    exact (putI_perm x _).trans ((sortI_perm r).cons x)
theorem putI_sorted (x : List Int) : ∀ r, r.Pairwise (fun a b => lexI b a = false) → (putI x r).Pairwise (fun a b => lexI b a = false)
  | [], _ => List.pairwise_singleton _ _
  | y :: r, h => by
    rw [putI]
    have h' := List.pairwise_cons.mp h
    split
    · rename_i c
      refine List.pairwise_cons.mpr ⟨fun z hz => ?_, putI_sorted x r h'.2⟩
      rcases List.mem_cons.mp ((putI_perm x r).mem_iff.mp hz) with rfl | m
      · exact lexI_asym _ _ c
      · exact h'.1 z m
    · rename_i c
      refine List.pairwise_cons.mpr ⟨fun z hz => ?_, h⟩
      have c' : lexI y x = false := by simpa using c
      rcases List.mem_cons.mp hz with rfl | m
      · exact c'
      · exact lexI_tr x y z c' (h'.1 z m)
theorem sortI_sorted : ∀ r, (sortI r).Pairwise (fun a b => lexI b a = false)
  | [] => List.Pairwise.nil
  | x :: r => by
    rw [sortI]
    exact putI_sorted x _ (sortI_sorted r)
/-- one rising arrangement alone -/
theorem sorted_uniq : ∀ {l m : List (List Int)}, l.Pairwise (fun a b => lexI b a = false) → m.Pairwise (fun a b => lexI b a = false) → l.Perm m → l = m
  | [], m, _, _, p => by rw [p.nil_eq]
  | x :: l, m, hl, hm, p => by
    cases m with
    | nil => exact absurd p.length_eq (by simp)
    | cons y m =>
      have hl' := List.pairwise_cons.mp hl
      have hm' := List.pairwise_cons.mp hm
      have e : x = y := by
        rcases List.mem_cons.mp (p.mem_iff.mp (List.mem_cons_self)) with e | a
        · exact e
        · rcases List.mem_cons.mp (p.mem_iff.mpr (List.mem_cons_self)) with e | b
          · exact e.symm
          · exact lexI_anti x y (hm'.1 x a) (hl'.1 y b)
      subst e
      rw [sorted_uniq hl'.2 hm'.2 p.cons_inv]
theorem sortI_eq {l m : List (List Int)} (hl : l.Pairwise (fun a b => lexI b a = false)) (p : l.Perm m) : l = sortI m := sorted_uniq hl (sortI_sorted m) (p.trans (sortI_perm m).symm)
/-- is, of truths -/
def D.isB2 : D → D → M D
  | .bl a, .bl b => pure (.bl (decide (a = b)))
  | _, _ => fail
def D.notB2 : D → D → M D
  | .bl a, .bl b => pure (.bl (!decide (a = b)))
  | _, _ => fail
/-! list(range(..)) -/
def rgOk (a b : Int) : Prop := -(2 ^ 62) ≤ a ∧ a < 2 ^ 62 ∧ -(2 ^ 62) ≤ b ∧ b < 2 ^ 62 ∧ (b - a).toNat ≤ 2 ^ 24
def lrng1 (r : M D) : M (List D) := r >>= fun d => match d with
  | .int n => guard (rgOk 0 n) >>= fun _ => pure (rangeL 0 n)
  | _ => fail
def lrng2 (r s : M D) : M (List D) := r >>= fun d => s >>= fun e => match d, e with
  | .int m, .int n => guard (rgOk m n) >>= fun _ => pure (rangeL m n)
  | _, _ => fail
/-! list(range(a, b, c)) -/
def rg3 (a c : Int) (n : Nat) : List D := (List.range n).map fun i : Nat => D.int (a + (i : Int) * c)
def rg3N (a b c : Int) : Nat := if a < b then ((b - a - 1) / c).toNat + 1 else 0
def rg3Ok (a b c : Int) : Prop := 0 ≤ a ∧ a ≤ 1000000 ∧ 0 ≤ b ∧ b ≤ 1000000 ∧ 1 ≤ c ∧ c ≤ 1000000
def lrng3 (rs : List (M D)) : M (List D) := seqL rs >>= fun ds => match ds with
  | [.int a, .int b, .int c] => guard (rg3Ok a b c) >>= fun _ => pure (rg3 a c (rg3N a b c))
  | _ => fail
/-! sets of numbers -/
def ddI (ns : List Int) : List Int := ns.foldl (fun acc x => if acc.any (· == x) then acc else acc ++ [x]) []
def numsOf : D → Option (List Int)
  | .tup xs => intsL xs
  | .lst xs => intsL xs
  | _ => none
def lenSet (d : D) : M D := ofO (numsOf d) >>= fun ns => guard (ns.length ≤ 4000) >>= fun _ => pure (.int (ddI ns).length)
def putZ (x : Int) : List Int → List Int
  | [] => [x]
  | y :: r => if x < y then x :: y :: r else y :: putZ x r
def sortZ : List Int → List Int
  | [] => []
  | x :: r => putZ x (sortZ r)
def sortSet : D → M (List D)
  | .tup xs => ofO (intsL xs) >>= fun ns => guard (ns.length ≤ 4000 ∧ (ddI ns).length < 64) >>= fun _ => pure ((sortZ (ddI ns)).map .int)
  | _ => fail
/-! zip of two -/
def zipL (xs ys : List D) : List D := List.zipWith (fun a b => D.tup [a, b]) xs ys
def zipM (rs : List (M D)) : M (List D) := seqL rs >>= fun ds => match ds with
  | [.lst xs, .lst ys] => pure (zipL xs ys)
  | [.tup xs, .tup ys] => pure (zipL xs ys)
  | _ => fail
/-! str of a number -/
def D.strI : D → M D
  | .int i => guard (i.natAbs.log2 < 1920) >>= fun _ => pure (.str (toString i))
  | _ => fail
/-- a thing's truth -/
def D.tru : D → Option Bool
  | .non => some false
  | .bl b => some b
  | .int i => some (i != 0)
  | .tup xs => some (!xs.isEmpty)
  | .lst xs => some (!xs.isEmpty)
  | _ => none
def orT (a b : M D) : M D := a >>= fun x => match x.tru with
  | some k => if k then pure x else b
  | none => fail
def revLM : D → M D
  | .lst xs => pure (.lst xs.reverse)
  | _ => fail
/-- one of them (the least one) -/
def D.minT : D → M D
  | .lst xs => ⟨fun Q _ => (∃ ls, numsL xs = some ls ∧ ls ≠ []) ∧ ∀ x ∈ xs, Q x, fun h _ x => ⟨x.1, fun y hy => h y (x.2 y hy)⟩⟩
  | _ => fail
def D.sortA : D → M (List D)
  | .tup xs => ofO (intsL xs) >>= fun ns => pure ((sortZ ns).map .int)
  | .lst xs => D.sortT (.lst xs)
  | _ => fail
/-! count and index of truths -/
def cntB (xs : List D) : List D → M D
  | [.bl b] => ofO (boolsL xs) >>= fun bs => pure (.int (bs.count b))
  | _ => fail
def idxB (xs : List D) : List D → M D
  | [.bl b] => ofO (boolsL xs) >>= fun bs => ofO (bs.findIdx? (· == b)) >>= fun j => pure (.int j)
  | _ => fail
/-- what is told, or what F tells of the class of a refusal -/
def gotM (xs : List Str) (F : Str → List D → M D) (m : M D) : M D :=
  ⟨fun Q E => m.run Q (fun e => e.cls ∈ xs ∧ ∀ a : Nat, (F e.cls [.opq (2 * a + 1)]).run Q (fun _ => False)), fun h k x => m.mono h (fun _ z => ⟨z.1, fun a => (F _ _).mono h (fun _ y => y) (z.2 a)⟩) x⟩
/-- the word of a refusal (with what it keeps), or that it is told -/
def saidM (xs : List Str) (F : Str → List D → M D) (m : M D) : M D :=
  ⟨fun Q E => m.run (fun _ => Q (.str "told")) (fun e => e.cls ∈ xs ∧ ∀ a : Nat, (F e.cls [.opq (2 * a + 1)]).run (fun d => ∃ w : Str, d = .str w ∧ ((w ≠ "great" ∧ Q d) ∨ ∃ i j : Int, w = "great" ∧ e.cls = "TooGreat" ∧ e.args = some (i, j) ∧ Q (.tup [.str "great", .int i, .int j]))) (fun _ => False)),
    fun h k x => m.mono (fun _ z => h _ z) (fun _ z => ⟨z.1, fun a => (F _ _).mono (fun _ ⟨w, y, t⟩ => ⟨w, y, t.imp (fun t => ⟨t.1, h _ t.2⟩) (fun ⟨i, j, t1, t2, t3, t4⟩ => ⟨i, j, t1, t2, t3, h _ t4⟩)⟩) (fun _ y => y) (z.2 a)⟩) x⟩
/-- what TooGreat keeps, or None -/
def greatM (m : M D) : M D :=
  ⟨fun Q E => m.run (fun _ => Q .non) (fun e => e.cls = "TooGreat" ∧ ∃ i j : Int, e.args = some (i, j) ∧ Q (.tup [.int i, .int j])), fun h k x => m.mono (fun _ z => h _ z) (fun _ ⟨a, i, j, b, c⟩ => ⟨a, i, j, b, h _ c⟩) x⟩
/-- raise TooGreat(.., ..) -/
def tooD {A : Type} : List D → M A
  | [.int i, .int j] => raise ⟨"TooGreat", some (i, j)⟩
  | _ => fail
def tooM {A : Type} (rs : List (M D)) : M A := seqL rs >>= tooD
theorem tooD_run {A : Type} {ds : List D} {Q : A → Prop} {E : Exn → Prop} (h : (tooD ds).run Q E) : ∃ i j, ds = [.int i, .int j] ∧ E ⟨"TooGreat", some (i, j)⟩ := by
  unfold tooD at h
  split at h
  · exact ⟨_, _, rfl, h⟩
  · exact (show False from h).elim
/-- the call of a def that is handed about -/
def callV (is : List Nat) (F : Nat → List D → M D) (d : D) (rs : List (M D)) : M D := match d with
  | .opq m => if m / 2 ∈ is ∧ m % 2 = 0 then callM (F (m / 2)) rs else fail
  | _ => fail
/-- t.count(k) -/
def cntT (xs : List D) : List D → M D
  | [.int k] => ofO (intsL xs) >>= fun ns => pure (.int (ns.count k))
  | _ => fail
def tupCnt (ro : M D) (rs : List (M D)) : M D := ro >>= fun d => match d with
  | .tup xs => seqL rs >>= fun ds => cntT xs ds
  | _ => fail
theorem cntT_run {xs ds : List D} {Q : D → Prop} {E : Exn → Prop} (h : (cntT xs ds).run Q E) : ∃ ns k, intsL xs = some ns ∧ ds = [.int k] ∧ Q (.int (ns.count k : Nat)) := by
  unfold cntT at h
  split at h
  · cases e : intsL xs with
    | none =>
      rw [e] at h
      exact (show False from h).elim
    | some ns =>
      rw [e] at h
      exact ⟨ns, _, rfl, rfl, h⟩
  · exact (show False from h).elim
/-- d[1].append(..), d a tuple of three -/
def appR {A : Type} (d : D) (r : M D) (k : M A) : M A := match d with
  | .tup [_, .lst ds, _] => appM ds r (fun _ => k)
  | _ => fail
/-- max and min of a tuple of numbers -/
def D.mxT (g : List Int → Option Int) : D → M D
  | .tup xs => ofO (intsL xs) >>= fun ns => ofO (g ns) >>= fun m => pure (.int m)
  | _ => fail
def D.maxT1 (d : D) : M D := D.mxT maxI d
def D.minT1 (d : D) : M D := D.mxT minI d
end Ev

/-! more words of the mirrors -/
namespace Ev
open PySem (Str PyData)
/-- min of alike data: one of those that stand as the first of the least -/
def D.minG : D → M D
  | .lst xs => ⟨fun Q _ => ∃ x r, D.pys xs = x :: r ∧ PySem.W.AlikeAll (x :: r) ∧ PyData.depthAll (x :: r) ≤ 60 ∧ D.plains true xs = true ∧ ∀ d ∈ xs, d.py = PySem.W.minD x r → Q d,
      fun h _ ⟨x, r, a, b, c, d, k⟩ => ⟨x, r, a, b, c, d, fun z hz e => h z (k z hz e)⟩⟩
  | _ => fail
/-- << by a small number, >>, & of numbers that are not negative -/
def D.shl : D → D → M D
  | .int i, .int j => guard (0 ≤ j ∧ j ≤ 1000000 ∧ i.natAbs < 2 ^ 64) >>= fun _ => pure (.int (i * 2 ^ j.toNat))
  | _, _ => fail
def D.shr : D → D → M D
  | .int i, .int j => guard (0 ≤ j) >>= fun _ => pure (.int (i / 2 ^ j.toNat))
  | _, _ => fail
def D.band : D → D → M D
  | .int i, .int j => guard (0 ≤ i ∧ 0 ≤ j) >>= fun _ => pure (.int ((i.toNat &&& j.toNat : Nat) : Int))
  | _, _ => fail
/-- tuple(range(..)) -/
def trng1 (r : M D) : M D := r >>= fun d => match d with
  | .int n => guard (rgOk 0 n) >>= fun _ => pure (.tup (rangeL 0 n))
  | _ => fail
def trng3 (rs : List (M D)) : M D := seqL rs >>= fun ds => match ds with
  | [.int a, .int b, .int c] => guard (rg3Ok a b c) >>= fun _ => pure (.tup (rg3 a c (rg3N a b c)))
  | _ => fail
/-- a method of a tuple -/
def tupMet (f : List D → List D → M D) (ro : M D) (rs : List (M D)) : M D := ro >>= fun d => match d with
  | .tup xs => seqL rs >>= fun ds => f xs ds
  | _ => fail
def idxT (xs : List D) : List D → M D
  | [.int k] => ofO (intsL xs) >>= fun ns => ofO (ns.findIdx? (· == k)) >>= fun j => pure (.int j)
  | _ => fail
theorem idxT_run {xs ds : List D} {Q : D → Prop} {E : Exn → Prop} (h : (idxT xs ds).run Q E) : ∃ ns k j, intsL xs = some ns ∧ ds = [.int k] ∧ ns.findIdx? (· == k) = some j ∧ Q (.int (j : Nat)) := by
  unfold idxT at h
  split at h
  · rename_i k
    cases e : intsL xs with
    | none =>
      rw [e] at h
      exact (show False from h).elim
    | some ns =>
      rw [e] at h
      have h' : (ofO (ns.findIdx? (· == k)) >>= fun j => pure (D.int j)).run Q E := h
      cases e2 : ns.findIdx? (· == k) with
      | none =>
        rw [e2] at h'
        exact (show False from h').elim
      | some j =>
        rw [e2] at h'
        exact ⟨ns, k, j, rfl, rfl, e2, h'⟩
  · exact (show False from h).elim
/-- in, of a tuple of any data -/
def D.innG (neg : Bool) (x : D) : D → M D
  | .tup xs => guard (x.cmp = true ∧ (D.tup xs).cmp = true) >>= fun _ => pure (.bl (if neg then !(xs.any fun z => z.eqv x) else xs.any fun z => z.eqv x))
  | _ => fail
/-! dicts of one's own with plain keys -/
def dkeyOf : D → M (Sum Int Str)
  | .int i => pure (.inl i)
  | .str x => pure (.inr x)
  | _ => fail
def putD (kvs : List (Sum Int Str × D)) (k : Sum Int Str) (d : D) : List (Sum Int Str × D) :=
  if (kvs.any fun kv => decide (kv.1 = k)) = true then kvs.map (fun kv => if kv.1 = k then (kv.1, d) else kv) else kvs ++ [(k, d)]
def dputM {A : Type} (ds : List (Sum Int Str × D)) (r ri : M D) (k : List (Sum Int Str × D) → M A) : M A :=
  r >>= fun d => ri >>= fun x => dkeyOf x >>= fun y => guard (ds.length < line) >>= fun _ => k (putD ds y d)
theorem dkeyOf_run {d : D} {Q : Sum Int Str → Prop} {E : Exn → Prop} (h : (dkeyOf d).run Q E) : (∃ i, d = .int i ∧ Q (.inl i)) ∨ ∃ x, d = .str x ∧ Q (.inr x) := by
  cases d with
  | int i => exact .inl ⟨i, rfl, h⟩
  | str x => exact .inr ⟨x, rfl, h⟩
  | _ => exact (show False from h).elim
/-- sorted(d.values()), tuples of numbers -/
def sortVals (ds : List (Sum Int Str × D)) : M (List D) := D.sortT (.lst (ds.map (·.2)))
/-- sorted(set(x)), x a list of tuples of numbers -/
def ddT : List (List Int) → List (List Int)
  | [] => []
  | x :: r => if x ∈ ddT r then ddT r else x :: ddT r
def sortSetT : D → M (List D)
  | .lst xs => ofO (numsL xs) >>= fun ls => guard (ls.length < 64 ∧ ((ddT ls).length < 2 ∨ ∀ l ∈ ls, l ≠ [])) >>= fun _ => pure ((sortI (ddT ls)).map fun l => .tup (l.map .int))
  | _ => fail
theorem ddT_mem : ∀ (r : List (List Int)) (x : List Int), x ∈ ddT r ↔ x ∈ r
  | [], x => by simp [ddT]
  | y :: r, x => by
    rw [ddT]
    split
    · rename_i h
      rw [ddT_mem r x, List.mem_cons]
      exact ⟨.inr, fun z => z.elim (fun e => e ▸ (ddT_mem r y).mp h) id⟩
    · rw [List.mem_cons, List.mem_cons, ddT_mem r x]
theorem ddT_nd : ∀ r : List (List Int), (ddT r).Nodup
  | [] => List.nodup_nil
  | y :: r => by
    rw [ddT]
    split
    · exact ddT_nd r
    · rename_i h
      exact List.nodup_cons.mpr ⟨h, ddT_nd r⟩
/-- sep.join(x), x a list or a tuple of texts -/
def strsL : List D → Option (List Str)
  | [] => some []
  | .str x :: r => (strsL r).map (x :: ·)
  | _ => none
def D.joinS : D → D → M D
  | .str a, .lst xs => ofO (strsL xs) >>= fun ys => guard ((ys.map (·.length)).sum + ys.length * a.length ≤ 16777216) >>= fun _ => pure (.str (Str.join a ys))
  | .str a, .tup xs => ofO (strsL xs) >>= fun ys => guard ((ys.map (·.length)).sum + ys.length * a.length ≤ 16777216) >>= fun _ => pure (.str (Str.join a ys))
  | _, _ => fail
def joinM (ro re : M D) : M D := ro >>= fun d => match d with
  | .str a => re >>= D.joinS (.str a)
  | _ => fail
/-- >, of numbers or of tuples of numbers -/
def D.gtA : D → D → M D
  | .int i, .int j => pure (.bl (decide (j < i)))
  | .tup xs, .tup ys => ofO (intsL xs) >>= fun ns => ofO (intsL ys) >>= fun ms => pure (.bl (lexI ms ns))
  | _, _ => fail
/-- xs.pop(i) for each of a loop's things -/
def popAt (l : List D) : D → M (D × List D)
  | .int i => guard (-(2 ^ 63) ≤ i ∧ i < 2 ^ 63) >>= fun _ => ofO (ixP l.length i) >>= fun k => ofO l[k]? >>= fun y => pure (y, l.eraseIdx k)
  | _ => fail
theorem popAt_run {l : List D} {d : D} {Q : D × List D → Prop} {E : Exn → Prop} (h : (popAt l d).run Q E) : ∃ i k y, d = .int i ∧ -(2 ^ 63) ≤ i ∧ i < 2 ^ 63 ∧ ixP l.length i = some k ∧ l[k]? = some y ∧ Q (y, l.eraseIdx k) := by
  cases d with
  | int i =>
    obtain ⟨⟨h1, h2⟩, h⟩ := h
    have h : (ofO (ixP l.length i) >>= fun k => ofO l[k]? >>= fun y => pure (y, l.eraseIdx k)).run Q E := h
    cases e : ixP l.length i with
    | none =>
      rw [e] at h
      exact (show False from h).elim
    | some k =>
      rw [e] at h
      have h : (ofO l[k]? >>= fun y => pure (y, l.eraseIdx k)).run Q E := h
      cases e2 : l[k]? with
      | none =>
        rw [e2] at h
        exact (show False from h).elim
      | some y =>
        rw [e2] at h
        exact ⟨i, k, y, rfl, h1, h2, e, e2, h⟩
  | _ => exact (show False from h).elim
def popsL (rd : D → List D → M D) : List D → List D → List D → M (List D)
  | [], _, acc => pure acc
  | t :: r, l, acc => rd t l >>= fun d => popAt l d >>= fun p => guard (acc.length < line) >>= fun _ => popsL rd r p.2 (acc ++ [p.1])
/-- the last one popped -/
def popM {A : Type} (ds : List D) (k : D → M A) : M A := match ds.getLast? with | some d => k d | none => fail
def popsM {A : Type} (ds : List D) (rit : M (List D)) (rd : D → List D → M D) (k : D → M A) : M A := rit >>= fun xs => nox (popsL rd xs ds []) >>= fun acc => k (.tup acc)
def trng2 (r s : M D) : M D := r >>= fun d => s >>= fun e => match d, e with
  | .int m, .int n => guard (rgOk m n) >>= fun _ => pure (.tup (rangeL m n))
  | _, _ => fail
/-- sorted, of a list of numbers -/
def D.sortZL : D → M (List D)
  | .lst xs => ofO (intsL xs) >>= fun ns => pure ((sortZ ns).map .int)
  | _ => fail
/-- what is said of each of a list of kept lambdas -/
def saidL (xs : List Str) (F : Str → List D → M D) (ms : List (M D)) : M (List D) := seqL (ms.map (saidM xs F))
end Ev

namespace Ev
open PySem PySem.Spec L2

/-- the tables of code objects that turn, with the name of what each tells; the defs that are handed about -/
class Tb where
  T : List (Addr × Str)
  fa : Nat → Addr
def TabAny : HO → Prop := fun o => ∃ ps, o = .tbl ps
variable [Tb]
/-! ### worlds: what is frozen data (P), which things turn, and what always holds of them (N) -/
structure Wd where
  P : Hp
  N : Addr → Option (HO → Prop)
/-- a pen of either kind -/
def PenIs : Bool → HO → Prop
  | false => fun o => ∃ x y : Int, o = .lst [.int x, .int y] ∧ 0 ≤ x ∧ 0 ≤ y ∧ y < 2147483629
  | true => fun o => ∃ x b n y : Int, o = .lst [.int x, .int b, .int n, .int y] ∧ 0 ≤ n ∧ 0 ≤ y ∧ y < 1000000007
structure WOk (W : Wd) (H : Hp) : Prop where
  kin : ∀ a φ, W.N a = some φ → (∃ k, φ = PenIs k) ∨ φ = TabAny
  sub : ∀ a o, W.P a = some o → H a = some o
  pen : ∀ a φ, W.N a = some φ → W.P a = none ∧ ∃ o, H a = some o ∧ φ o
  tab : LamX.Tabs Tb.T H
  tb : ∀ b ps, H b = some (.tbl ps) → W.N b = some TabAny ∧ ∃ q, (b, q) ∈ Tb.T
structure Le (W W' : Wd) : Prop where
  p : ∀ a o, W.P a = some o → W'.P a = some o
  n : ∀ a φ, W.N a = some φ → W'.N a = some φ
theorem Le.refl (W : Wd) : Le W W := ⟨fun _ _ h => h, fun _ _ h => h⟩
theorem Le.trans {A B C : Wd} (x : Le A B) (y : Le B C) : Le A C := ⟨fun a o h => y.p a o (x.p a o h), fun a φ h => y.n a φ (x.n a φ h)⟩
theorem Le.rd {W W' : Wd} (l : Le W W') {a : Addr} {u : HO} (h : Rd W.P a u) : Rd W'.P a u := by
  rcases h with h | ⟨o, h⟩
  · exact .inl (l.p _ _ h)
  · exact .inr ⟨o, l.p _ _ h⟩
theorem Le.sqL {K : PySem.W.Frag} {W W' : Wd} (l : Le W W') {a : Addr} {xs : List V} (h : SqL K W.P a xs) : SqL K W'.P a xs := by
  rcases h with h | h
  · exact .inl (l.rd h)
  · exact .inr h
/-- a tuple whose object has no dict of its own -/
def BqT (K : PySem.W.Frag) (P : Hp) (a : Addr) (xs : List V) : Prop := (∃ o, P a = some (.frz o (.tup xs)) ∧ o.dict = none) ∨
  ∃ o its n, K.lookup a = some o ∧ o.cls = .type "tuple" ∧ o.dict = none ∧ o.data = .seq its n ∧ its.size ≤ sizeLine ∧ Vals xs its.toList
theorem BqT.sq {K : PySem.W.Frag} {P : Hp} {a : Addr} {xs : List V} (h : BqT K P a xs) : SqT K P a xs := by
  rcases h with ⟨o, h, _⟩ | ⟨o, its, n, h1, h2, _, h3, h4, h5⟩
  · exact .inl (.inr ⟨o, h⟩)
  · exact .inr ⟨o, its, n, h1, h2, h3, h4, h5⟩
theorem Le.bqT {K : PySem.W.Frag} {W W' : Wd} (l : Le W W') {a : Addr} {xs : List V} (h : BqT K W.P a xs) : BqT K W'.P a xs := by
  rcases h with ⟨o, h, e⟩ | h
  · exact .inl ⟨o, l.p _ _ h, e⟩
  · exact .inr h
/-- a tuple is new -/
def NewT (H : Hp) (vs : List V) (Q : VK) : Prop := ∀ p o, H p = none → o.dict = none → Q (.ref p) (upd H p (.frz o (.tup vs)))
theorem WOk.rd {W : Wd} {H : Hp} (w : WOk W H) {a : Addr} {u : HO} (h : Rd W.P a u) : Rd H a u := by
  rcases h with h | ⟨o, h⟩
  · exact .inl (w.sub _ _ h)
  · exact .inr ⟨o, w.sub _ _ h⟩
theorem WOk.bqT {K : PySem.W.Frag} {W : Wd} {H : Hp} (w : WOk W H) {a : Addr} {xs : List V} (h : BqT K W.P a xs) : BqT K H a xs := by
  rcases h with ⟨o, h, e⟩ | h
  · exact .inl ⟨o, w.sub _ _ h, e⟩
  · exact .inr h
theorem WOk.sqT {K : PySem.W.Frag} {W : Wd} {H : Hp} (w : WOk W H) {a : Addr} {xs : List V} (h : BqT K W.P a xs) : SqT K H a xs := (w.bqT h).sq
theorem WOk.sqL {K : PySem.W.Frag} {W : Wd} {H : Hp} (w : WOk W H) {a : Addr} {xs : List V} (h : SqL K W.P a xs) : SqL K H a xs := by
  rcases h with h | h
  · exact .inl (w.rd h)
  · exact .inr h


mutual
inductive Rep (K : PySem.W.Frag) (W : Wd) : V → D → Prop
  | non : Rep K W .non .non
  | bl (b : Bool) : Rep K W (.bl b) (.bl b)
  | int (i : Int) : Rep K W (.int i) (.int i)
  | str (x : Str) : Rep K W (.str x) (.str x)
  | tup {a : Addr} {vs : List V} {ds : List D} : BqT K W.P a vs → Reps K W vs ds → Rep K W (.ref a) (.tup ds)
  | lst {a : Addr} {vs : List V} {ds : List D} : W.P a = some (.lst vs) → Reps K W vs ds → Rep K W (.ref a) (.lst ds)
  | dct {a : Addr} {kvs : List (Key × V)} {ds : List (Sum Int Str × D)} : W.P a = some (.dK kvs) → RepKv K W kvs ds → Rep K W (.ref a) (.dct ds)
  | pen {a : Addr} {k : Bool} : W.N a = some (PenIs k) → Rep K W (.ref a) (.pen k)
  | scr {a : Addr} {ns : List Int} : SqL K W.P a (ns.map V.int) → Rep K W (.ref a) (.scr ns)
  | fn (i : Nat) : Rep K W (.ref (Tb.fa i)) (.opq (2 * i))
  | raw (a : Addr) : Rep K W (.ref a) (.opq (2 * a + 1))
inductive Reps (K : PySem.W.Frag) (W : Wd) : List V → List D → Prop
  | nil : Reps K W [] []
  | cons {v : V} {d : D} {vs : List V} {ds : List D} : Rep K W v d → Reps K W vs ds → Reps K W (v :: vs) (d :: ds)
inductive RepKv (K : PySem.W.Frag) (W : Wd) : List (Key × V) → List (Sum Int Str × D) → Prop
  | nil : RepKv K W [] []
  | cons {k : Key} {v : V} {d : D} {vs : List (Key × V)} {ds : List (Sum Int Str × D)} : Rep K W v d → RepKv K W vs ds → RepKv K W ((k, v) :: vs) ((k, d) :: ds)
end
section
variable {K : PySem.W.Frag} {W W' : Wd}
mutual
theorem Rep.mono (l : Le W W') : ∀ {v : V} {d : D}, Rep K W v d → Rep K W' v d
  | _, _, .non => .non
  | _, _, .bl b => .bl b
  | _, _, .int i => .int i
  | _, _, .str x => .str x
  | _, _, .tup h r => .tup (l.bqT h) (Reps.mono l r)
  | _, _, .lst h r => .lst (l.p _ _ h) (Reps.mono l r)
  | _, _, .dct h r => .dct (l.p _ _ h) (RepKv.mono l r)
  | _, _, .pen h => .pen (l.n _ _ h)
  | _, _, .scr h => .scr (l.sqL h)
  | _, _, .fn i => .fn i
  | _, _, .raw a => .raw a
theorem Reps.mono (l : Le W W') : ∀ {vs : List V} {ds : List D}, Reps K W vs ds → Reps K W' vs ds
  | _, _, .nil => .nil
  | _, _, .cons h r => .cons (Rep.mono l h) (Reps.mono l r)
theorem RepKv.mono (l : Le W W') : ∀ {vs : List (Key × V)} {ds : List (Sum Int Str × D)}, RepKv K W vs ds → RepKv K W' vs ds
  | _, _, .nil => .nil
  | _, _, .cons h r => .cons (Rep.mono l h) (RepKv.mono l r)
end
theorem Reps.length : ∀ {vs : List V} {ds : List D}, Reps K W vs ds → vs.length = ds.length
  | _, _, .nil => rfl
  | _, _, .cons _ r => by rw [List.length_cons, List.length_cons, Reps.length r]
theorem RepKv.length : ∀ {vs : List (Key × V)} {ds : List (Sum Int Str × D)}, RepKv K W vs ds → vs.length = ds.length
  | _, _, .nil => rfl
  | _, _, .cons _ r => by rw [List.length_cons, List.length_cons, RepKv.length r]
theorem Reps.append : ∀ {vs ws : List V} {ds es : List D}, Reps K W vs ds → Reps K W ws es → Reps K W (vs ++ ws) (ds ++ es)
  | _, _, _, _, .nil, s => s
  | _, _, _, _, .cons h r, s => .cons h (Reps.append r s)
theorem Reps.get : ∀ {vs : List V} {ds : List D} {i : Nat} {d : D}, Reps K W vs ds → ds[i]? = some d → ∃ v, vs[i]? = some v ∧ Rep K W v d
  | _, _, i, d, .nil, e => by simp at e
  | _, _, 0, d, .cons h r, e => by
    rw [List.getElem?_cons_zero] at e
    cases e
    exact ⟨_, rfl, h⟩
  | _, _, i + 1, d, .cons h r, e => by
    rw [List.getElem?_cons_succ] at e
    obtain ⟨v, h1, h2⟩ := Reps.get r e
    exact ⟨v, by rw [List.getElem?_cons_succ]; exact h1, h2⟩
theorem Reps.get' : ∀ {vs : List V} {ds : List D} {i : Nat} {v : V}, Reps K W vs ds → vs[i]? = some v → ∃ d, ds[i]? = some d ∧ Rep K W v d
  | _, _, i, d, .nil, e => by simp at e
  | _, _, 0, d, .cons h r, e => by
    rw [List.getElem?_cons_zero] at e
    cases e
    exact ⟨_, rfl, h⟩
  | _, _, i + 1, d, .cons h r, e => by
    rw [List.getElem?_cons_succ] at e
    obtain ⟨v, h1, h2⟩ := Reps.get' r e
    exact ⟨v, by rw [List.getElem?_cons_succ]; exact h1, h2⟩
theorem Reps.take : ∀ {vs : List V} {ds : List D} (n : Nat), Reps K W vs ds → Reps K W (vs.take n) (ds.take n)
  | _, _, 0, _ => by rw [List.take_zero, List.take_zero]; exact .nil
  | _, _, n + 1, .nil => by rw [List.take_nil, List.take_nil]; exact .nil
  | _, _, n + 1, .cons h r => by rw [List.take_succ_cons, List.take_succ_cons]; exact .cons h (Reps.take n r)
theorem Reps.drop : ∀ {vs : List V} {ds : List D} (n : Nat), Reps K W vs ds → Reps K W (vs.drop n) (ds.drop n)
  | _, _, 0, h => by rw [List.drop_zero, List.drop_zero]; exact h
  | _, _, n + 1, .nil => by rw [List.drop_nil, List.drop_nil]; exact .nil
  | _, _, n + 1, .cons h r => by rw [List.drop_succ_cons, List.drop_succ_cons]; exact Reps.drop n r
theorem Reps.set {v : V} {d : D} (h : Rep K W v d) : ∀ {vs : List V} {ds : List D} (n : Nat), Reps K W vs ds → Reps K W (vs.set n v) (ds.set n d)
  | _, _, _, .nil => by rw [List.set_nil, List.set_nil]; exact .nil
  | _, _, 0, .cons _ r => by rw [List.set_cons_zero, List.set_cons_zero]; exact .cons h r
  | _, _, n + 1, .cons q r => by rw [List.set_cons_succ, List.set_cons_succ]; exact .cons q (Reps.set h n r)
theorem Reps.reverse {vs : List V} {ds : List D} (h : Reps K W vs ds) : Reps K W vs.reverse ds.reverse := by
  induction ds generalizing vs with
  | nil => cases h; exact .nil
  | cons d ds ih =>
    cases h with
    | cons a b =>
      rw [List.reverse_cons, List.reverse_cons]
      exact (ih b).append (.cons a .nil)
theorem Reps.one {v : V} {ds : List D} (h : Reps K W [v] ds) : ∃ d, ds = [d] ∧ Rep K W v d := by
  cases h with
  | cons a b => cases b; exact ⟨_, rfl, a⟩
theorem Rep.inj_int {v : V} {i : Int} (h : Rep K W v (.int i)) : v = .int i := by cases h; rfl
theorem Rep.inj_bl {v : V} {i : Bool} (h : Rep K W v (.bl i)) : v = .bl i := by cases h; rfl
theorem Rep.inj_str {v : V} {i : Str} (h : Rep K W v (.str i)) : v = .str i := by cases h; rfl
end

/-! ### steps: what is tracked stays, new data are new objects -/
structure Step (W : Wd) (H : Hp) (W' : Wd) (H' : Hp) : Prop where
  le : Le W W'
  ok : WOk W' H'
  old : ∀ b o, H b = some o → W.N b = none → H' b = some o
  newP : ∀ b, H b ≠ none → W'.P b = W.P b
  newN : ∀ b, H b ≠ none → W'.N b = W.N b
section
variable {W W1 W2 : Wd} {H H1 H2 : Hp}
theorem Step.refl (w : WOk W H) : Step W H W H := ⟨Le.refl W, w, fun _ _ h _ => h, fun _ _ => rfl, fun _ _ => rfl⟩
theorem Step.keep (s : Step W H W1 H1) (w : WOk W H) {b : Addr} (h : H b ≠ none) : H1 b ≠ none := by
  cases hn : W.N b with
  | some φ =>
    obtain ⟨o, e, _⟩ := (s.ok.pen b φ (s.le.n b φ hn)).2
    rw [e]
    intro z
    cases z
  | none =>
    cases q : H b with
    | none => exact absurd q h
    | some o =>
      rw [s.old b o q hn]
      intro z
      cases z
theorem Step.trans (w : WOk W H) (a : Step W H W1 H1) (b : Step W1 H1 W2 H2) : Step W H W2 H2 where
  le := a.le.trans b.le
  ok := b.ok
  old := fun c o h hn => b.old c o (a.old c o h hn) ((a.newN c (by rw [h]; intro q; cases q)).trans hn)
  newP := fun c h => (b.newP c (a.keep w h)).trans (a.newP c h)
  newN := fun c h => (b.newN c (a.keep w h)).trans (a.newN c h)
/-! tables stay as they are where something else is written -/
def Soft (H : Hp) (a : Addr) : Prop := ∀ u, H a = some u → (∃ vs, u = .lst vs) ∨ ∃ kvs, u = .dK kvs
theorem soft_none {a : Addr} (h : H a = none) : Soft H a := fun u e => by rw [h] at e; cases e
theorem soft_lst {a : Addr} {vs : List V} (h : H a = some (.lst vs)) : Soft H a := fun u e => by rw [h] at e; cases e; exact .inl ⟨vs, rfl⟩
theorem soft_dct {a : Addr} {kvs : List (Key × V)} (h : H a = some (.dK kvs)) : Soft H a := fun u e => by rw [h] at e; cases e; exact .inr ⟨kvs, rfl⟩
theorem tabs_put {T : List (Addr × Str)} {a : Addr} {o : HO} (h : Soft H a) (t : LamX.Tabs T H) : LamX.Tabs T (upd H a o) := fun p hp => by
  obtain ⟨ps, h1, h2, h3⟩ := t p hp
  have n1 : p.1 ≠ a := fun e => by
    rcases h _ (e ▸ h1) with ⟨vs, z⟩ | ⟨vs, z⟩ <;> cases z
  refine ⟨ps, by rw [upd_ne n1]; exact h1, h2, fun pos cv hc => ?_⟩
  obtain ⟨c, e1, e2⟩ := h3 pos cv hc
  have n2 : c ≠ a := fun e => by
    rcases h _ (e ▸ e2) with ⟨vs, z⟩ | ⟨vs, z⟩
    · unfold LamX.CodeO at z
      cases z
    · unfold LamX.CodeO at z
      cases z
  exact ⟨c, e1, by rw [upd_ne n2]; exact e2⟩
theorem tb_put {N N' : Addr → Option (HO → Prop)} {a : Addr} {o : HO} (ho : ∀ ps, o ≠ .tbl ps) (hN : ∀ b φ, N b = some φ → N' b = some φ) (t : ∀ b ps, H b = some (.tbl ps) → N b = some TabAny ∧ ∃ q, (b, q) ∈ Tb.T) : ∀ b ps, (upd H a o) b = some (.tbl ps) → N' b = some TabAny ∧ ∃ q, (b, q) ∈ Tb.T := fun b ps e => by
  by_cases q : b = a
  · subst q
    rw [upd_same] at e
    exact absurd (Option.some.inj e) (ho ps)
  · rw [upd_ne q] at e
    exact ⟨hN b _ (t b ps e).1, (t b ps e).2⟩
/-- a list of one's own, written -/
theorem WOk.putO {a : Addr} {o : HO} (w : WOk W H) (hP : W.P a = none) (hN : W.N a = none) (h : Soft H a) (ho : ∀ ps, o ≠ .tbl ps) : WOk W (upd H a o) where
  kin := w.kin
  sub := fun b o e => by
    rw [upd_ne (fun z => by subst z; rw [hP] at e; cases e)]
    exact w.sub b o e
  pen := fun b φ hb => by
    obtain ⟨p1, x, p2, p3⟩ := w.pen b φ hb
    exact ⟨p1, x, by rw [upd_ne (fun z => by subst z; rw [hN] at hb; cases hb)]; exact p2, p3⟩
  tab := tabs_put h w.tab
  tb := tb_put ho (fun _ _ z => z) w.tb
theorem WOk.put {a : Addr} {vs us : List V} (w : WOk W H) (hP : W.P a = none) (hN : W.N a = none) (h : H a = some (.lst vs)) : WOk W (upd H a (.lst us)) := w.putO hP hN (soft_lst h) (fun _ z => nomatch z)
/-- a new object that is no data of ours -/
theorem Step.raw (w : WOk W H) {p : Addr} {o : HO} (h : H p = none) (ho : ∀ ps, o ≠ .tbl ps := by intro _ z; cases z) : Step W H W (upd H p o) := by
  have np : ∀ a u, H a = some u → (upd H p o) a = some u := fun a u e => by rw [upd_ne (ne_of_none e h)]; exact e
  refine ⟨Le.refl W, ⟨w.kin, fun a u e => np a u (w.sub a u e), fun a φ ha => ?_, tabs_put (soft_none h) w.tab, tb_put ho (fun _ _ z => z) w.tb⟩, fun b u e _ => np b u e, fun _ _ => rfl, fun _ _ => rfl⟩
  obtain ⟨h1, x, e, q⟩ := w.pen a φ ha
  exact ⟨h1, x, np a _ e, q⟩
/-- a new object that is data -/
theorem Step.dat (w : WOk W H) {p : Addr} {o : HO} (h : H p = none) (ho : ∀ ps, o ≠ .tbl ps := by intro _ z; cases z) : Step W H ⟨upd W.P p o, W.N⟩ (upd H p o) := by
  have hp : W.P p = none := by
    cases q : W.P p with
    | none => rfl
    | some u => rw [w.sub p u q] at h; cases h
  have np : ∀ a u, H a = some u → (upd H p o) a = some u := fun a u e => by rw [upd_ne (ne_of_none e h)]; exact e
  refine ⟨⟨fun a u e => ?_, fun _ _ z => z⟩, ⟨w.kin, fun a u e => ?_, fun a φ ha => ?_, tabs_put (soft_none h) w.tab, tb_put ho (fun _ _ z => z) w.tb⟩, fun b u e _ => np b u e, fun b hb => ?_, fun _ _ => rfl⟩
  · show (upd W.P p o) a = some u
    rw [upd_ne (ne_of_none e hp)]
    exact e
  · have e' : (upd W.P p o) a = some u := e
    by_cases q : a = p
    · subst q
      rw [upd_same] at e' ⊢
      exact e'
    · rw [upd_ne q] at e' ⊢
      exact w.sub a u e'
  · obtain ⟨h1, x, e, q⟩ := w.pen a φ ha
    have q1 : a ≠ p := fun z => by subst z; rw [e] at h; cases h
    refine ⟨?_, x, np a _ e, q⟩
    show (upd W.P p o) a = none
    rw [upd_ne q1]
    exact h1
  · show (upd W.P p o) b = W.P b
    have q : b ≠ p := fun z => hb (by rw [z]; exact h)
    rw [upd_ne q]
end

/-! ### slots: data, an object of one's own -/
/-- what a lambda that is kept is: its object's form, and its code's name -/
structure LamD where
  φ : Addr → Addr → HO → Prop
  q : Str
inductive OwnC where
  | lst (ds : List D) | dct (kvs : List (Sum Int Str × D)) | lam (ds : List LamD)
inductive Sl where
  | no | val (d : D) | ob (c : OwnC)
abbrev Sl.own (ds : List D) : Sl := .ob (.lst ds)
abbrev Sl.odc (ds : List (Sum Int Str × D)) : Sl := .ob (.dct ds)
def LamsR (W : Wd) (H : Hp) : List V → List LamD → Prop
  | [], [] => True
  | v :: vs, d :: ds => (∃ f N o, v = .ref f ∧ W.P f = some o ∧ d.φ f N o ∧ H N = some (LamX.CodeO N d.q) ∧ W.N N = none) ∧ LamsR W H vs ds
  | _, _ => False
theorem LamsR.to {W W' : Wd} {H H' : Hp} (hp : ∀ a o, W.P a = some o → W'.P a = some o) (hn : ∀ N q, H N = some (LamX.CodeO N q) → W.N N = none → H' N = some (LamX.CodeO N q) ∧ W'.N N = none) : ∀ {vs : List V} {ds : List LamD}, LamsR W H vs ds → LamsR W' H' vs ds
  | [], [], _ => trivial
  | v :: vs, d :: ds, h => by
    obtain ⟨⟨f, N, o, h1, h2, h3, h4, h5⟩, r⟩ := h
    obtain ⟨g1, g2⟩ := hn N _ h4 h5
    exact ⟨⟨f, N, o, h1, hp _ _ h2, h3, g1, g2⟩, LamsR.to hp hn r⟩
  | [], _ :: _, h => h.elim
  | _ :: _, [], h => h.elim
theorem LamsR.len {W : Wd} {H : Hp} : ∀ {vs : List V} {ds : List LamD}, LamsR W H vs ds → vs.length = ds.length
  | [], [], _ => rfl
  | v :: vs, d :: ds, h => by rw [List.length_cons, List.length_cons, LamsR.len h.2]
  | [], _ :: _, h => h.elim
  | _ :: _, [], h => h.elim
theorem LamsR.snoc {W : Wd} {H : Hp} {v : V} {d : LamD} (x : ∃ f N o, v = .ref f ∧ W.P f = some o ∧ d.φ f N o ∧ H N = some (LamX.CodeO N d.q) ∧ W.N N = none) : ∀ {vs : List V} {ds : List LamD}, LamsR W H vs ds → LamsR W H (vs ++ [v]) (ds ++ [d])
  | [], [], _ => ⟨x, trivial⟩
  | _ :: _, _ :: _, h => ⟨h.1, LamsR.snoc x h.2⟩
  | [], _ :: _, h => h.elim
  | _ :: _, [], h => h.elim
inductive HoR (K : PySem.W.Frag) (W : Wd) (H : Hp) : HO → OwnC → Prop
  | lst {vs : List V} {ds : List D} : Reps K W vs ds → HoR K W H (.lst vs) (.lst ds)
  | dct {kvs : List (Key × V)} {ds : List (Sum Int Str × D)} : RepKv K W kvs ds → HoR K W H (.dK kvs) (.dct ds)
  | lam {vs : List V} {ds : List LamD} : LamsR W H vs ds → HoR K W H (.lst vs) (.lam ds)
theorem HoR.to {K : PySem.W.Frag} {W W' : Wd} {H H' : Hp} (l : Le W W') (hn : ∀ N q, H N = some (LamX.CodeO N q) → W.N N = none → H' N = some (LamX.CodeO N q) ∧ W'.N N = none) {o : HO} {c : OwnC} (h : HoR K W H o c) : HoR K W' H' o c := by
  cases h with
  | lst r => exact .lst (r.mono l)
  | dct r => exact .dct (r.mono l)
  | lam r => exact .lam (r.to l.p hn)
theorem HoR.mono {K : PySem.W.Frag} {P : Hp} {W : Wd} {H : Hp} (l : Le W ⟨P, W.N⟩) {o : HO} {c : OwnC} (h : HoR K W H o c) : HoR K ⟨P, W.N⟩ H o c := h.to l fun _ _ a b => ⟨a, b⟩
theorem HoR.step {K : PySem.W.Frag} {W W' : Wd} {H H' : Hp} (s : Step W H W' H') {o : HO} {c : OwnC} (h : HoR K W H o c) : HoR K W' H' o c := h.to s.le fun N q a b => ⟨s.old N _ a b, (s.newN N (by rw [a]; intro z; cases z)).trans b⟩
theorem HoR.upd {K : PySem.W.Frag} {W : Wd} {H : Hp} {a : Addr} {o' : HO} (hs : Soft H a) {o : HO} {c : OwnC} (h : HoR K W H o c) : HoR K W (L2.upd H a o') o c := by
  refine h.to (Le.refl W) fun N q e n => ⟨?_, n⟩
  have ne : N ≠ a := fun z => by
    subst z
    rcases hs _ e with ⟨vs, z⟩ | ⟨vs, z⟩
    · unfold LamX.CodeO at z
      cases z
    · unfold LamX.CodeO at z
      cases z
  rw [upd_ne ne]
  exact e
structure EnvR (K : PySem.W.Frag) (W : Wd) (H H0 : Hp) (σ : St) (ρ : List Sl) : Prop where
  dat : ∀ (i : Nat) (d : D), ρ[i]? = some (.val d) → ∃ v, σ[i]? = some (some v) ∧ Rep K W v d
  ow : ∀ (i : Nat) (c : OwnC), ρ[i]? = some (.ob c) → ∃ a o, σ[i]? = some (some (.ref a)) ∧ H a = some o ∧ W.P a = none ∧ W.N a = none ∧ H0 a = none ∧ HoR K W H o c
  ap : ∀ (i j : Nat) (c d : OwnC) (a : Addr), i ≠ j → ρ[i]? = some (.ob c) → ρ[j]? = some (.ob d) → σ[i]? = some (some (.ref a)) → σ[j]? ≠ some (some (.ref a))
  ln : ρ.length = σ.length
section
variable {K : PySem.W.Frag} {W W' : Wd} {H H' H0 : Hp} {σ : St} {ρ : List Sl}
theorem EnvR.owL (e : EnvR K W H H0 σ ρ) (i : Nat) (ds : List D) (h : ρ[i]? = some (.own ds)) : ∃ a vs, σ[i]? = some (some (.ref a)) ∧ H a = some (.lst vs) ∧ W.P a = none ∧ W.N a = none ∧ H0 a = none ∧ Reps K W vs ds := by
  obtain ⟨a, o, h1, h2, h3, h4, h5, h6⟩ := e.ow i _ h
  cases h6 with
  | lst r => exact ⟨a, _, h1, h2, h3, h4, h5, r⟩
theorem EnvR.owD (e : EnvR K W H H0 σ ρ) (i : Nat) (ds : List (Sum Int Str × D)) (h : ρ[i]? = some (.odc ds)) : ∃ a kvs, σ[i]? = some (some (.ref a)) ∧ H a = some (.dK kvs) ∧ W.P a = none ∧ W.N a = none ∧ H0 a = none ∧ RepKv K W kvs ds := by
  obtain ⟨a, o, h1, h2, h3, h4, h5, h6⟩ := e.ow i _ h
  cases h6 with
  | dct r => exact ⟨a, _, h1, h2, h3, h4, h5, r⟩
theorem EnvR.step (e : EnvR K W H H0 σ ρ) (s : Step W H W' H') : EnvR K W' H' H0 σ ρ where
  dat := fun i d h => let ⟨v, h1, h2⟩ := e.dat i d h; ⟨v, h1, h2.mono s.le⟩
  ow := fun i ds h => by
    obtain ⟨a, vs, h1, h2, h3, h4, h5, h6⟩ := e.ow i ds h
    have nn : H a ≠ none := by rw [h2]; intro q; cases q
    exact ⟨a, vs, h1, s.old a _ h2 h4, (s.newP a nn).trans h3, (s.newN a nn).trans h4, h5, h6.step s⟩
  ap := e.ap
  ln := e.ln
theorem EnvR.setVal (e : EnvR K W H H0 σ ρ) {v : V} {d : D} (i : Nat) (r : Rep K W v d) : EnvR K W H H0 (σ.set i (some v)) (ρ.set i (.val d)) where
  dat := fun j d' h => by
    by_cases hj : i = j
    · subst hj
      have hl : i < (ρ.set i (.val d)).length := by
        rw [List.getElem?_eq_some_iff] at h
        exact h.1
      rw [List.length_set] at hl
      rw [List.getElem?_set_self hl] at h
      cases h
      exact ⟨v, by rw [List.getElem?_set_self (by rw [← e.ln]; exact hl)], r⟩
    · rw [List.getElem?_set_ne hj] at h ⊢
      exact e.dat j d' h
  ow := fun j ds h => by
    by_cases hj : i = j
    · subst hj
      have hl : i < (ρ.set i (.val d)).length := by
        rw [List.getElem?_eq_some_iff] at h
        exact h.1
      rw [List.length_set] at hl
      rw [List.getElem?_set_self hl] at h
      cases h
    · rw [List.getElem?_set_ne hj] at h ⊢
      exact e.ow j ds h
  ap := fun j k ds es a hjk h1 h2 h3 => by
    have nj : i ≠ j := fun z => by
      subst z
      have hl : i < (ρ.set i (.val d)).length := by
        rw [List.getElem?_eq_some_iff] at h1
        exact h1.1
      rw [List.length_set] at hl
      rw [List.getElem?_set_self hl] at h1
      cases h1
    have nk : i ≠ k := fun z => by
      subst z
      have hl : i < (ρ.set i (.val d)).length := by
        rw [List.getElem?_eq_some_iff] at h2
        exact h2.1
      rw [List.length_set] at hl
      rw [List.getElem?_set_self hl] at h2
      cases h2
    rw [List.getElem?_set_ne nj] at h1 h3
    rw [List.getElem?_set_ne nk] at h2 ⊢
    exact e.ap j k ds es a hjk h1 h2 h3
  ln := by rw [List.length_set, List.length_set, e.ln]
theorem getElem?_set_no {α : Type} {l : List α} {i j : Nat} {x y : α} (h : (l.set i x)[j]? = some y) (hx : x ≠ y) : i ≠ j ∧ l[j]? = some y := by
  by_cases hj : i = j
  · subst hj
    have hl : i < (l.set i x).length := by
      rw [List.getElem?_eq_some_iff] at h
      exact h.1
    rw [List.length_set] at hl
    rw [List.getElem?_set_self hl] at h
    cases h
    exact absurd rfl hx
  · rw [List.getElem?_set_ne hj] at h
    exact ⟨hj, h⟩
/-- a slot forgotten -/
theorem EnvR.drop (e : EnvR K W H H0 σ ρ) (i : Nat) : EnvR K W H H0 σ (ρ.set i .no) where
  dat := fun j d h => e.dat j d (getElem?_set_no h (by intro z; cases z)).2
  ow := fun j d h => e.ow j d (getElem?_set_no h (by intro z; cases z)).2
  ap := fun j k ds es a hjk h1 h2 h3 => e.ap j k ds es a hjk (getElem?_set_no h1 (by intro z; cases z)).2 (getElem?_set_no h2 (by intro z; cases z)).2 h3
  ln := by rw [List.length_set, e.ln]
/-- what an environment forgets -/
inductive Weak : List Sl → List Sl → Prop
  | nil : Weak [] []
  | no {s : Sl} {l r : List Sl} : Weak l r → Weak (s :: l) (.no :: r)
  | same {s : Sl} {l r : List Sl} : Weak l r → Weak (s :: l) (s :: r)
theorem Weak.len : ∀ {l r : List Sl}, Weak l r → l.length = r.length
  | _, _, .nil => rfl
  | _, _, .no w => by rw [List.length_cons, List.length_cons, w.len]
  | _, _, .same w => by rw [List.length_cons, List.length_cons, w.len]
theorem Weak.get : ∀ {l r : List Sl} {i : Nat} {s : Sl}, Weak l r → r[i]? = some s → s ≠ .no → l[i]? = some s
  | _, _, i, s, .nil, h, _ => by simp at h
  | _, _, 0, s, .no w, h, n => by
    rw [List.getElem?_cons_zero] at h
    cases h
    exact absurd rfl n
  | _, _, 0, s, .same w, h, n => by
    rw [List.getElem?_cons_zero] at h ⊢
    exact h
  | _, _, i + 1, s, .no w, h, n => by
    rw [List.getElem?_cons_succ] at h ⊢
    exact w.get h n
  | _, _, i + 1, s, .same w, h, n => by
    rw [List.getElem?_cons_succ] at h ⊢
    exact w.get h n
theorem EnvR.weak {ρ' : List Sl} (e : EnvR K W H H0 σ ρ) (w : Weak ρ ρ') : EnvR K W H H0 σ ρ' where
  dat := fun j d h => e.dat j d (w.get h (by intro z; cases z))
  ow := fun j d h => e.ow j d (w.get h (by intro z; cases z))
  ap := fun j k ds es a hjk h1 h2 h3 => e.ap j k ds es a hjk (w.get h1 (by intro z; cases z)) (w.get h2 (by intro z; cases z)) h3
  ln := by rw [← w.len, e.ln]
theorem EnvR.setOb (e : EnvR K W H H0 σ ρ) {a : Addr} {o : HO} {c : OwnC} (i : Nat) (h1 : H a = some o) (h2 : W.P a = none) (h3 : W.N a = none) (h4 : H0 a = none) (r : HoR K W H o c)
    (new : ∀ (j : Nat) (es : OwnC), j ≠ i → ρ[j]? = some (.ob es) → σ[j]? ≠ some (some (.ref a))) : EnvR K W H H0 (σ.set i (some (.ref a))) (ρ.set i (.ob c)) where
  dat := fun j d h => by
    obtain ⟨hj, h⟩ := getElem?_set_no h (by intro z; cases z)
    rw [List.getElem?_set_ne hj]
    exact e.dat j d h
  ow := fun j es h => by
    by_cases hj : i = j
    · subst hj
      have hl : i < (ρ.set i (.ob c)).length := by
        rw [List.getElem?_eq_some_iff] at h
        exact h.1
      rw [List.length_set] at hl
      rw [List.getElem?_set_self hl] at h
      cases h
      exact ⟨a, o, by rw [List.getElem?_set_self (by rw [← e.ln]; exact hl)], h1, h2, h3, h4, r⟩
    · rw [List.getElem?_set_ne hj] at h ⊢
      exact e.ow j es h
  ap := fun j k es fs b hjk g1 g2 g3 => by
    by_cases hj : i = j
    · subst hj
      have hl : i < σ.length := by
        rw [← List.length_set (as := σ) (i := i) (a := some (V.ref a))]
        rw [List.getElem?_eq_some_iff] at g3
        exact g3.1
      rw [List.getElem?_set_self hl] at g3
      cases g3
      rw [List.getElem?_set_ne hjk] at g2 ⊢
      exact new k fs (fun z => hjk z.symm) g2
    · rw [List.getElem?_set_ne hj] at g1 g3
      by_cases hk : i = k
      · subst hk
        intro g4
        have hl : i < σ.length := by
          rw [← List.length_set (as := σ) (i := i) (a := some (V.ref a))]
          rw [List.getElem?_eq_some_iff] at g4
          exact g4.1
        rw [List.getElem?_set_self hl] at g4
        cases g4
        exact new j es (fun z => hj z.symm) g1 g3
      · rw [List.getElem?_set_ne hk] at g2 ⊢
        exact e.ap j k es fs b hjk g1 g2 g3
  ln := by rw [List.length_set, List.length_set, e.ln]
theorem EnvR.setOwn (e : EnvR K W H H0 σ ρ) {a : Addr} {vs : List V} {ds : List D} (i : Nat) (h1 : H a = some (.lst vs)) (h2 : W.P a = none) (h3 : W.N a = none) (h4 : H0 a = none) (r : Reps K W vs ds)
    (new : ∀ (j : Nat) (es : OwnC), j ≠ i → ρ[j]? = some (.ob es) → σ[j]? ≠ some (some (.ref a))) : EnvR K W H H0 (σ.set i (some (.ref a))) (ρ.set i (.own ds)) := e.setOb i h1 h2 h3 h4 (.lst r) new
end
end Ev

namespace Ev
open PySem PySem.Spec L2
variable [Tb]

/-! ### new tuples -/
section
variable {X : Cx} {pins : List (Addr × Obj)} {σ : L2.St} {H : Hp} {s : Shared} {Q : VK}
theorem ep_tup {xs : List V} {its : List Value} {ob : Obj} {h' : Heap} {p n t' : Nat} (I : L2.Inv X pins σ H s) (k : ∀ b u, s.heap.get? b = some u → h'.get? b = some u) (hp : s.heap.objs.size ≤ p) (ho : h'.get? p = some ob) (hc : ob.cls = .type "tuple") (hn : ob.dict = none) (hd : ob.data = .seq its.toArray n)
    (r : Vals xs its) (hz : xs.length ≤ sizeLine) (q : NewT H xs Q) : EP X pins σ Q (.ref p) { s with heap := h', toks := t' } :=
  ⟨.ref p, upd H p (.frz ob (.tup xs)), I.laid (t' := t') k hp ⟨ho, hz, its, r, ob, ho, hc, n, hd⟩, rfl, q p ob (I.hok.fresh hp) hn⟩
/-- .. pushed -/
theorem ep_tupP {xs : List V} {its : List Value} {n t' : Nat} (I : L2.Inv X pins σ H s) (r : Vals xs its) (hz : xs.length ≤ sizeLine) (q : NewT H xs Q) : EP X pins σ Q (.ref s.heap.objs.size) { s with heap := s.heap.push { cls := .type "tuple", data := .seq its.toArray n }, toks := t' } :=
  ep_tup I (fun _ _ e => Heap.get?_push_of_some _ e) (Nat.le_refl _) (Heap.get?_push_size _ rfl) rfl rfl rfl r hz q
end
section
variable {X : Cx} {es : List Expr} {t : TA} {pos : Pos}
/-- a written tuple -/
def tTupB (t : TA) : TE := fun σ H Q => t σ H fun xs H1 => xs.length ≤ sizeLine ∧ NewT H1 xs Q
theorem pe_tupB {x1} (h : PA X es t) : PE X (.Tuple es x1 pos) (tTupB t) := by
  constructor
  intro pins s σ H Q I hq
  refine wpAny_Tuple_spliced (thn (h.run pos pins s σ H _ I hq) ?_)
  rintro us s1 ⟨xs, H1, J, rv, hz, new⟩
  exact ⟨by rw [← rv.length]; exact hz, ep_tupP (t' := s1.toks) J rv hz new⟩
end
/-! ### wishes -/
def XRep (mg : Str → Option Value) (x : Exn) (cv : Value) (dx : Option Addr) (W : Wd) : Prop :=
  ∃ C : Addr, mg x.cls = some (.ref C) ∧ cv = .ref C ∧ match x.args with
    | none => dx = none
    | some (m, n) => ∃ (d : Addr) (fs : List (Str × V)), dx = some d ∧ W.P d = some (.xd fs) ∧ fs.lookup ("many" : Str) = some (V.int m) ∧ fs.lookup ("most" : Str) = some (V.int n)
def Post (K : PySem.W.Frag) (Q : VK) (W : Wd) (H : Hp) (d : D) : Prop := ∀ v W' H', Step W H W' H' → Rep K W' v d → Q v H'
def PostL (K : PySem.W.Frag) (Q : List V → Hp → Prop) (W : Wd) (H : Hp) (ds : List D) : Prop := ∀ vs W' H', Step W H W' H' → Reps K W' vs ds → Q vs H'
def PostB (Q : Bool → Hp → Prop) (W : Wd) (H : Hp) (b : Bool) : Prop := ∀ W' H', Step W H W' H' → Q b H'
/-- a new list, one's own -/
def PostO (K : PySem.W.Frag) (Q : VK) (W : Wd) (H : Hp) (ds : List D) : Prop := ∀ a vs W' H', Step W H W' H' → H a = none → H' a = some (.lst vs) → W'.P a = none → W'.N a = none → Reps K W' vs ds → Q (.ref a) H'
/-- where code runs, as far as readings ask -/
structure Sx where
  K : PySem.W.Frag
  mg : Str → Option Value
  E : XK
def XPost (S : Sx) (W : Wd) (H : Hp) (x : Exn) : Prop := ∀ cv dx W' H', Step W H W' H' → XRep S.mg x cv dx W' → S.E cv dx H'
section
variable {K : PySem.W.Frag} {W W1 : Wd} {H H1 : Hp} {S : Sx}
theorem Post.after {Q : VK} {d : D} (w : WOk W H) (s : Step W H W1 H1) (p : Post K Q W H d) : Post K Q W1 H1 d := fun v W' H' s' r => p v W' H' (s.trans w s') r
theorem PostL.after {Q : List V → Hp → Prop} {d : List D} (w : WOk W H) (s : Step W H W1 H1) (p : PostL K Q W H d) : PostL K Q W1 H1 d := fun v W' H' s' r => p v W' H' (s.trans w s') r
theorem PostB.after {Q : Bool → Hp → Prop} {d : Bool} (w : WOk W H) (s : Step W H W1 H1) (p : PostB Q W H d) : PostB Q W1 H1 d := fun W' H' s' => p W' H' (s.trans w s')
theorem Step.free0 (w : WOk W H) (s : Step W H W1 H1) {a : Addr} (h : H1 a = none) : H a = none := by
  cases q : H a with
  | none => rfl
  | some o => exact absurd h (s.keep w (by rw [q]; intro z; cases z))
theorem PostO.after {Q : VK} {d : List D} (w : WOk W H) (s : Step W H W1 H1) (p : PostO K Q W H d) : PostO K Q W1 H1 d := fun a v W' H' s' h0 h1 h2 h3 r => p a v W' H' (s.trans w s') (s.free0 w h0) h1 h2 h3 r
theorem XPost.after {x : Exn} (w : WOk W H) (s : Step W H W1 H1) (p : XPost S W H x) : XPost S W1 H1 x := fun cv dx W' H' s' r => p cv dx W' H' (s.trans w s') r
/-- what was one's own becomes data -/
theorem Step.freeze (s : Step W H W1 H1) {a : Addr} {o : HO} (h0 : H a = none) (h1 : H1 a = some o) (h2 : W1.P a = none) (h3 : W1.N a = none) : Step W H ⟨upd W1.P a o, W1.N⟩ H1 where
  le := ⟨fun b u e => by
    show (upd W1.P a o) b = some u
    have e' := s.le.p b u e
    rw [upd_ne (fun z => by subst z; rw [h2] at e'; cases e')]
    exact e', s.le.n⟩
  ok := ⟨s.ok.kin, fun b u e => by
    have e' : (upd W1.P a o) b = some u := e
    by_cases q : b = a
    · subst q
      rw [upd_same] at e'
      cases e'
      exact h1
    · rw [upd_ne q] at e'
      exact s.ok.sub b u e', fun b φ hb => by
    obtain ⟨e1, e2⟩ := s.ok.pen b φ hb
    refine ⟨?_, e2⟩
    show (upd W1.P a o) b = none
    rw [upd_ne (fun z => by subst z; rw [h3] at hb; cases hb)]
    exact e1, s.ok.tab, s.ok.tb⟩
  old := s.old
  newP := fun b hb => by
    show (upd W1.P a o) b = W.P b
    rw [upd_ne (fun z => by subst z; exact hb h0)]
    exact s.newP b hb
  newN := s.newN
theorem le_freeze {a : Addr} {o : HO} (h2 : W1.P a = none) : Le W1 ⟨upd W1.P a o, W1.N⟩ := ⟨fun b u e => by
    show (upd W1.P a o) b = some u
    rw [upd_ne (fun z => by subst z; rw [h2] at e; cases e)]
    exact e, fun _ _ z => z⟩
theorem PostO.post {Q : VK} {d : List D} (p : Post K Q W H (.lst d)) : PostO K Q W H d := fun a vs W' H' s h0 h1 h2 h3 r =>
  p (.ref a) ⟨upd W'.P a (.lst vs), W'.N⟩ H' (s.freeze h0 h1 h2 h3) (.lst upd_same (r.mono (le_freeze h2)))
end

/-- what a reading says of an expression (its slots ρ, what it does r) -/
def SE (S : Sx) (t : TE) (ρ : List Sl) (r : M D) : Prop :=
  ∀ σ H W H0 Q, EnvR S.K W H H0 σ ρ → WOk W H → r.run (Post S.K Q W H) (XPost S W H) → t σ H Q
/-- .. whose value is a new list, one's own -/
def SO (S : Sx) (t : TE) (ρ : List Sl) (r : M (List D)) : Prop :=
  ∀ σ H W H0 Q, EnvR S.K W H H0 σ ρ → WOk W H → r.run (PostO S.K Q W H) (XPost S W H) → t σ H Q
def SA (S : Sx) (t : TA) (ρ : List Sl) (r : List (M D)) : Prop :=
  ∀ σ H W H0 Q, EnvR S.K W H H0 σ ρ → WOk W H → (seqL r).run (PostL S.K Q W H) (XPost S W H) → t σ H Q
def SB (S : Sx) (t : TT) (ρ : List Sl) (r : M Bool) : Prop :=
  ∀ σ H W H0 Q, EnvR S.K W H H0 σ ρ → WOk W H → r.run (PostB Q W H) (XPost S W H) → t σ H Q

section
variable {S : Sx} {ρ : List Sl} {t : TE} {r : M D}
theorem SE.go (s : SE S t ρ r) {σ : L2.St} {H : Hp} {W : Wd} {H0 : Hp} {Q : VK} {R : D → Prop} {E' : Exn → Prop} (e : EnvR S.K W H H0 σ ρ) (w : WOk W H) (h : r.run R E')
    (hx : ∀ x, E' x → XPost S W H x) (hr : ∀ d v W' H', R d → Step W H W' H' → Rep S.K W' v d → EnvR S.K W' H' H0 σ ρ → Q v H') : t σ H Q :=
  s σ H W H0 Q e w (r.mono (fun d hd v W' H' st rp => hr d v W' H' hd st rp (e.step st)) hx h)
theorem SO.go {r : M (List D)} (s : SO S t ρ r) {σ : L2.St} {H : Hp} {W : Wd} {H0 : Hp} {Q : VK} {R : List D → Prop} {E' : Exn → Prop} (e : EnvR S.K W H H0 σ ρ) (w : WOk W H) (h : r.run R E')
    (hx : ∀ x, E' x → XPost S W H x) (hr : ∀ d a vs W' H', R d → Step W H W' H' → H a = none → H' a = some (.lst vs) → W'.P a = none → W'.N a = none → Reps S.K W' vs d → EnvR S.K W' H' H0 σ ρ → Q (.ref a) H') : t σ H Q :=
  s σ H W H0 Q e w (r.mono (fun d hd a vs W' H' st h0 h1 h2 h3 rp => hr d a vs W' H' hd st h0 h1 h2 h3 rp (e.step st)) hx h)
theorem SA.go {t : TA} {r : List (M D)} (s : SA S t ρ r) {σ : L2.St} {H : Hp} {W : Wd} {H0 : Hp} {Q : List V → Hp → Prop} {R : List D → Prop} {E' : Exn → Prop} (e : EnvR S.K W H H0 σ ρ) (w : WOk W H) (h : (seqL r).run R E')
    (hx : ∀ x, E' x → XPost S W H x) (hr : ∀ d v W' H', R d → Step W H W' H' → Reps S.K W' v d → EnvR S.K W' H' H0 σ ρ → Q v H') : t σ H Q :=
  s σ H W H0 Q e w ((seqL r).mono (fun d hd v W' H' st rp => hr d v W' H' hd st rp (e.step st)) hx h)
theorem SB.go {t : TT} {r : M Bool} (s : SB S t ρ r) {σ : L2.St} {H : Hp} {W : Wd} {H0 : Hp} {Q : Bool → Hp → Prop} {R : Bool → Prop} {E' : Exn → Prop} (e : EnvR S.K W H H0 σ ρ) (w : WOk W H) (h : r.run R E')
    (hx : ∀ x, E' x → XPost S W H x) (hr : ∀ d W' H', R d → Step W H W' H' → EnvR S.K W' H' H0 σ ρ → Q d H') : t σ H Q :=
  s σ H W H0 Q e w (r.mono (fun d hd W' H' st => hr d W' H' hd st (e.step st)) hx h)
/-- a new list as data -/
theorem SO.se {r : M (List D)} (s : SO S t ρ r) : SE S t ρ (r >>= fun ds => pure (.lst ds)) := fun σ H W H0 Q e w q =>
  s σ H W H0 Q e w (r.mono (fun _ h => PostO.post h) (fun _ z => z) q)
theorem seqL_len : ∀ {rs : List (M D)} {Q : List D → Prop} {E : Exn → Prop}, (seqL rs).run Q E → (seqL rs).run (fun ds => ds.length = rs.length ∧ Q ds) E
  | [], Q, E, h => ⟨rfl, h⟩
  | m :: r, Q, E, h => m.mono (fun x (hx : (seqL r).run (fun xs => Q (x :: xs)) E) => (seqL r).mono (fun xs hxs => ⟨by rw [List.length_cons, List.length_cons, hxs.1], hxs.2⟩) (fun _ z => z) (seqL_len hx)) (fun _ z => z) h
end

/-! ### constants and names -/
section
variable {S : Sx} {ρ : List Sl}
theorem se_c {v : V} {d : D} (h : ∀ W : Wd, Rep S.K W v d) : SE S (tC v) ρ (pure d) := fun σ H W H0 Q e w q => q v W H (Step.refl w) (h W)
theorem se_int {i : Int} : SE S (tC (.int i)) ρ (pure (.int i)) := se_c fun _ => .int i
theorem se_bl {i : Bool} : SE S (tC (.bl i)) ρ (pure (.bl i)) := se_c fun _ => .bl i
theorem se_str {i : Str} : SE S (tC (.str i)) ρ (pure (.str i)) := se_c fun _ => .str i
theorem se_non : SE S (tC .non) ρ (pure .non) := se_c fun _ => .non
theorem se_var {k : Nat} {d : D} (hr : ρ[k]? = some (.val d)) : SE S (tVar k) ρ (pure d) := fun σ H W H0 Q e w q => by
  obtain ⟨v, h1, h2⟩ := e.dat k d hr
  exact ⟨v, h1, q v W H (Step.refl w) h2⟩
end

/-! ### two operands -/
section
variable {S : Sx} {ρ : List Sl} {ra rb : M D} {ta tb : TE}
def OpS (K : PySem.W.Frag) (r : R2) (f : D → D → M D) : Prop :=
  ∀ W H x y dx dy Q (E : Exn → Prop), WOk W H → Rep K W x dx → Rep K W y dy → (f dx dy).run (Post K Q W H) E → r x y H Q
theorem se_op {r : R2} {f : D → D → M D} (hf : OpS S.K r f) (ha : SE S ta ρ ra) (hb : SE S tb ρ rb) : SE S (tOp r ta tb) ρ (bin f ra rb) := by
  intro σ H W H0 Q e w q
  refine ha.go e w q (fun _ z => z) fun dx vx W1 H1 q1 s1 r1 e1 => ?_
  refine hb.go e1 s1.ok q1 (fun _ z => z.after w s1) fun dy vy W2 H2 q2 s2 r2 e2 => ?_
  refine hf W2 H2 vx vy dx dy Q _ s2.ok (r1.mono s2.le) r2 ((f dx dy).mono (fun d hd => hd.after w (s1.trans w s2)) (fun _ z => z) q2)
/-- an expression as a test -/
theorem sb_test {t : TE} {r : M D} (h : SE S t ρ r) : SB S (tTest t) ρ (asB r) := fun σ H W H0 Q en w q => by
  refine h.go en w q (fun _ z => z) fun d v W1 H1 q1 s1 r1 e1 => ?_
  cases d with
  | bl k => cases r1; exact ⟨k, rfl, q1 W1 H1 s1⟩
  | _ => exact (show False from q1).elim
theorem sb_val {t : TE} {r : M D} (h : SE S t ρ r) : SB S (tB t) ρ (asB r) := fun σ H W H0 Q en w q => by
  refine h.go en w q (fun _ z => z) fun d v W1 H1 q1 s1 r1 e1 => ?_
  cases d with
  | bl k => cases r1; exact ⟨k, rfl, q1 W1 H1 s1⟩
  | _ => exact (show False from q1).elim
variable {t1 t2 : TT} {r1 r2 : M Bool}
theorem sb_not (h : SB S t1 ρ r1) : SB S (tNot t1) ρ (notM r1) := fun σ H W H0 Q en w q => h.go en w q (fun _ z => z) fun d W1 H1 q1 s1 e1 => q1 W1 H1 s1
theorem sb_and (h : SB S t1 ρ r1) (h2 : SB S t2 ρ r2) : SB S (tAnd t1 t2) ρ (andM r1 r2) := fun σ H W H0 Q en w q => by
  refine h.go en w q (fun _ z => z) fun d W1 H1 q1 s1 e1 => ?_
  cases d with
  | true => exact iteT (h2.go e1 s1.ok q1 (fun _ z => z.after w s1) fun d W2 H2 q2 s2 _ => q2 W2 H2 (s1.trans w s2))
  | false => exact iteF (q1 W1 H1 s1)
theorem sb_or (h : SB S t1 ρ r1) (h2 : SB S t2 ρ r2) : SB S (tOr t1 t2) ρ (orM r1 r2) := fun σ H W H0 Q en w q => by
  refine h.go en w q (fun _ z => z) fun d W1 H1 q1 s1 e1 => ?_
  cases d with
  | false => exact iteF (h2.go e1 s1.ok q1 (fun _ z => z.after w s1) fun d W2 H2 q2 s2 _ => q2 W2 H2 (s1.trans w s2))
  | true => exact iteT (q1 W1 H1 s1)
/-- and, or, not as values -/
theorem se_and (h : SE S ta ρ ra) (h2 : SE S tb ρ rb) : SE S (tAndV ta tb) ρ (andV ra rb) := fun σ H W H0 Q en w q => by
  refine h.go en w q (fun _ z => z) fun d v W1 H1 q1 s1 r1 e1 => ?_
  cases d with
  | bl k =>
    cases r1
    refine ⟨k, rfl, ?_⟩
    cases k with
    | true => exact iteT (h2.go e1 s1.ok q1 (fun _ z => z.after w s1) fun d v W2 H2 q2 s2 r2 _ => q2 v W2 H2 (s1.trans w s2) r2)
    | false => exact iteF (q1 _ W1 H1 s1 (.bl false))
  | _ => exact (show False from q1).elim
theorem se_or (h : SE S ta ρ ra) (h2 : SE S tb ρ rb) : SE S (tOrV ta tb) ρ (orV ra rb) := fun σ H W H0 Q en w q => by
  refine h.go en w q (fun _ z => z) fun d v W1 H1 q1 s1 r1 e1 => ?_
  cases d with
  | bl k =>
    cases r1
    refine ⟨k, rfl, ?_⟩
    cases k with
    | false => exact iteF (h2.go e1 s1.ok q1 (fun _ z => z.after w s1) fun d v W2 H2 q2 s2 r2 _ => q2 v W2 H2 (s1.trans w s2) r2)
    | true => exact iteT (q1 _ W1 H1 s1 (.bl true))
  | _ => exact (show False from q1).elim
theorem se_not (h : SE S ta ρ ra) : SE S (tNotV ta) ρ (notV ra) := fun σ H W H0 Q en w q => by
  refine h.go en w q (fun _ z => z) fun d v W1 H1 q1 s1 r1 e1 => ?_
  cases d with
  | bl k =>
    cases r1
    exact ⟨k, rfl, q1 _ W1 H1 s1 (.bl _)⟩
  | _ => exact (show False from q1).elim
theorem se_if {tc : TT} {rc : M Bool} (hc : SB S tc ρ rc) (ha : SE S ta ρ ra) (hb : SE S tb ρ rb) : SE S (tIf tc ta tb) ρ (rc >>= fun k => if k then ra else rb) := fun σ H W H0 Q en w q => by
  refine hc.go en w q (fun _ z => z) fun d W1 H1 q1 s1 e1 => ?_
  cases d with
  | true => exact iteT (ha.go e1 s1.ok q1 (fun _ z => z.after w s1) fun d v W2 H2 q2 s2 r2 _ => q2 v W2 H2 (s1.trans w s2) r2)
  | false => exact iteF (hb.go e1 s1.ok q1 (fun _ z => z.after w s1) fun d v W2 H2 q2 s2 r2 _ => q2 v W2 H2 (s1.trans w s2) r2)
/-- one operand -/
def UnS (K : PySem.W.Frag) (r : V → Hp → VK → Prop) (f : D → M D) : Prop :=
  ∀ W H x dx Q (E : Exn → Prop), WOk W H → Rep K W x dx → (f dx).run (Post K Q W H) E → r x H Q
theorem se_un {r : V → Hp → VK → Prop} {f : D → M D} (hf : UnS S.K r f) (ha : SE S ta ρ ra) : SE S (tUn r ta) ρ (ra >>= f) := fun σ H W H0 Q en w q => by
  refine ha.go en w q (fun _ z => z) fun d v W1 H1 q1 s1 r1 e1 => ?_
  exact hf W1 H1 v d Q _ s1.ok r1 ((f d).mono (fun d hd => hd.after w s1) (fun _ z => z) q1)
/-- a < b < c -/
theorem se_chain {tc : TE} {rc : M D} {r r' : R2} {f f' : D → D → M D} (hf : OpS S.K r f) (hf' : OpS S.K r' f') (ha : SE S ta ρ ra) (hb : SE S tb ρ rb) (hc : SE S tc ρ rc) :
    SE S (tChain r r' ta tb tc) ρ (chainM ra rb rc f f') := fun σ H W H0 Q en w q => by
  refine ha.go en w q (fun _ z => z) fun dx vx W1 H1 q1 s1 r1 e1 => ?_
  refine hb.go e1 s1.ok q1 (fun _ z => z.after w s1) fun dy vy W2 H2 q2 s2 r2 e2 => ?_
  have w2 := s1.trans w s2
  refine hf W2 H2 vx vy dx dy _ _ s2.ok (r1.mono s2.le) r2 ((f dx dy).mono (fun d hd v W3 H3 s3 r3 => ?_) (fun _ z => z) q2)
  have w3 := w2.trans w s3
  cases d with
  | bl k =>
    cases r3
    refine ⟨k, rfl, ?_⟩
    cases k with
    | true =>
      refine iteT (hc.go (e2.step s3) s3.ok hd (fun _ z => z.after w w3) fun dz vz W4 H4 q4 s4 r4 e4 => ?_)
      exact hf' W4 H4 vy vz dy dz Q _ s4.ok (r2.mono (s3.le.trans s4.le)) r4 ((f' dy dz).mono (fun d hd => hd.after w (w3.trans w s4)) (fun _ z => z) q4)
    | false => exact iteF (hd _ W3 H3 w3 (.bl false))
  | _ => exact (show False from hd).elim
/-! ### arguments, displays, calls -/
theorem sa_nil : SA S tNil ρ [] := fun σ H W H0 Q en w q => q [] W H (Step.refl w) .nil
theorem sa_cons {ts : TA} {rs : List (M D)} (h : SE S ta ρ ra) (h2 : SA S ts ρ rs) : SA S (tCons ta ts) ρ (ra :: rs) := fun σ H W H0 Q en w q => by
  refine h.go en w q (fun _ z => z) fun d v W1 H1 q1 s1 r1 e1 => ?_
  refine h2.go e1 s1.ok q1 (fun _ z => z.after w s1) fun ds vs W2 H2 q2 s2 r2 e2 => ?_
  exact q2 (v :: vs) W2 H2 (s1.trans w s2) (.cons (r1.mono s2.le) r2)
theorem newT_at {K : PySem.W.Frag} {W : Wd} {H : Hp} {Q : VK} {vs : List V} {ds : List D} (w : WOk W H) (q : Post K Q W H (.tup ds)) (r : Reps K W vs ds) : NewT H vs Q := fun p o hp ho =>
  q (.ref p) _ _ (Step.dat w hp) (.tup (.inl ⟨o, upd_same, ho⟩) (r.mono (Step.dat w hp).le))
theorem se_tup {ts : TA} {rs : List (M D)} (h : SA S ts ρ rs) (hl : rs.length ≤ 1000) : SE S (tTupB ts) ρ (tupM rs) := fun σ H W H0 Q en w q => by
  refine h.go en w (seqL_len q) (fun _ z => z) fun ds vs W1 H1 q1 s1 r1 e1 => ?_
  have q2 : Post S.K Q W H (.tup ds) := q1.2
  exact ⟨Nat.le_of_lt (small1000 (by rw [r1.length, q1.1]; exact hl)), newT_at s1.ok (q2.after w s1) r1⟩
theorem so_lst {ts : TA} {rs : List (M D)} (h : SA S ts ρ rs) (hl : rs.length ≤ 1000) : SO S (tLst ts) ρ (seqL rs) := fun σ H W H0 Q en w q => by
  refine h.go en w (seqL_len q) (fun _ z => z) fun ds vs W1 H1 q1 s1 r1 e1 => ?_
  refine ⟨Nat.le_of_lt (small1000 (by rw [r1.length, q1.1]; exact hl)), fun p hp => ?_⟩
  have hP : W1.P p = none := by
    cases z : W1.P p with
    | none => rfl
    | some u => rw [s1.ok.sub p u z] at hp; cases hp
  have hN : W1.N p = none := by
    cases z : W1.N p with
    | none => rfl
    | some φ =>
      obtain ⟨x, e, _⟩ := (s1.ok.pen p φ z).2
      rw [e] at hp; cases hp
  exact q1.2 p vs W1 _ (s1.trans w (Step.raw s1.ok hp)) (s1.free0 w hp) upd_same hP hN r1
theorem se_lst {ts : TA} {rs : List (M D)} (h : SA S ts ρ rs) (hl : rs.length ≤ 1000) : SE S (tLst ts) ρ (lstM rs) := (so_lst h hl).se
/-- a built-in's call -/
def CaS (K : PySem.W.Frag) (r : List V → Hp → VK → Prop) (f : List D → M D) : Prop :=
  ∀ W H vs ds Q (E : Exn → Prop), WOk W H → Reps K W vs ds → (f ds).run (Post K Q W H) E → r vs H Q
theorem se_cb {ts : TA} {rs : List (M D)} {r : List V → Hp → VK → Prop} {f : List D → M D} (hf : CaS S.K r f) (h : SA S ts ρ rs) : SE S (tCB r ts) ρ (callM f rs) := fun σ H W H0 Q en w q => by
  refine h.go en w q (fun _ z => z) fun ds vs W1 H1 q1 s1 r1 e1 => ?_
  exact hf W1 H1 vs ds Q _ s1.ok r1 ((f ds).mono (fun d hd => hd.after w s1) (fun _ z => z) q1)
/-- .. that makes a new list -/
def CaO (K : PySem.W.Frag) (r : List V → Hp → VK → Prop) (f : List D → M (List D)) : Prop :=
  ∀ W H vs ds Q (E : Exn → Prop), WOk W H → Reps K W vs ds → (f ds).run (PostO K Q W H) E → r vs H Q
theorem so_cb {ts : TA} {rs : List (M D)} {r : List V → Hp → VK → Prop} {f : List D → M (List D)} (hf : CaO S.K r f) (h : SA S ts ρ rs) : SO S (tCB r ts) ρ (seqL rs >>= f) := fun σ H W H0 Q en w q => by
  refine h.go en w q (fun _ z => z) fun ds vs W1 H1 q1 s1 r1 e1 => ?_
  exact hf W1 H1 vs ds Q _ s1.ok r1 ((f ds).mono (fun d hd => hd.after w s1) (fun _ z => z) q1)
end
end Ev

namespace Ev
open PySem PySem.Spec L2
variable [Tb]

/-! ### operators that make tuples -/
section
variable {X : Cx}
def rCatB (K : PySem.W.Frag) : R2 := fun x y H Q => ∃ (ax ay : Addr) (us ws : List V), x = .ref ax ∧ y = .ref ay ∧ SqT K H ax us ∧ SqT K H ay ws ∧ us.length + ws.length ≤ sizeLine ∧
  (us = [] → Q (.ref ay) H) ∧ (us ≠ [] → ws = [] → Q (.ref ax) H) ∧ NewT H (us ++ ws) Q
theorem op_catB : OpR X (binaryOp .Add) (rCatB X.K) := by
  rintro pins s σ H _ _ v u Q I rx ry ⟨ax, ay, us, ws, rfl, rfl, g1, g2, sz, k0, k1, k2⟩
  cases rx
  cases ry
  obtain ⟨i1, v1, p1, _⟩ := I.tuple g1
  obtain ⟨i2, v2, p2, _⟩ := I.tuple g2
  by_cases e : us = []
  · subst e
    cases v1
    exact cat_tup0 p1 p2 ⟨.ref ay, H, I, rfl, k0 rfl⟩
  · exact HT.cat_tup p1 p2 (fun z => e (v1.nil_iff.mp z)) (fun z => ⟨.ref ax, H, I, rfl, k1 e (v2.nil_iff.mp z)⟩) (fun _ => ep_tupP (t' := s.toks) I (v1.append v2) (by rw [List.length_append]; exact sz) k2) (by rw [← v1.length, ← v2.length]; exact sz)
def rRepB (K : PySem.W.Frag) : R2 := fun x y H Q => ∃ (l : Addr) (k : Int) (us : List V), x = .ref l ∧ y = .int k ∧ SqT K H l us ∧ us ≠ [] ∧ 2 ≤ k ∧ k ≤ 1000 ∧ us.length ≤ 1000 ∧ NewT H (List.replicate k.toNat us).flatten Q
theorem op_repB : OpR X (binaryOp .Mult) (rRepB X.K) := by
  rintro pins s σ H _ _ v u Q I rx ry ⟨l, k, us, rfl, rfl, g, ne, k2, k1000, lz, new⟩
  cases rx
  obtain ⟨t, rfl⟩ := ry
  obtain ⟨iv, rv, ⟨⟨oc, od, odt, os⟩, ho, hc, n, hd⟩, _⟩ := I.tuple g
  simp only at hc hd
  subst hc hd
  have el : iv.length = us.length := rv.length.symm
  have emp : iv.toArray.isEmpty = false := by
    cases iv with
    | nil => exact absurd (List.eq_nil_of_length_eq_zero el.symm) ne
    | cons _ _ => rfl
  have big : k.toNat * us.length ≤ 1000 * 1000 := Nat.mul_le_mul (by omega) lz
  have bigI : ((iv.toArray.size : Nat) : Int) * k ≤ 1000000 := by
    rw [List.size_toArray, el]
    have := Int.mul_le_mul_of_nonneg_right (show ((us.length : Nat) : Int) ≤ 1000 by omega) (show 0 ≤ k by omega)
    omega
  have rl : (List.replicate k.toNat us).flatten.length ≤ sizeLine := by
    rw [PyProof.Rows.lm_len_rep_flat, sizeLine_eq]
    omega
  have rl2 : (List.replicate k.toNat iv).flatten.length ≤ sizeLine := by
    rw [PyProof.Rows.lm_len_rep_flat, el, sizeLine_eq]
    omega
  have d0 : (decide (k < -(2 ^ 63)) || decide (k ≥ 2 ^ 63)) = false := by
    rw [decide_eq_false (show ¬ k < -(2 ^ 63) by omega), decide_eq_false (show ¬ k ≥ 2 ^ 63 by omega)]
    rfl
  have d1 : (iv.toArray.isEmpty || k == 1) = false := by
    rw [emp, Bool.false_or]
    exact beq_eq_false_iff_ne.mpr (show k ≠ 1 by omega)
  have d2 : (decide (k ≤ 0) || iv.toArray.isEmpty) = false := by
    rw [emp, Bool.or_false]
    exact decide_eq_false (show ¬ k ≤ 0 by omega)
  have d4 : Builtin.Tuple.tupleTooMany (((iv.toArray.size : Nat) : Int) * k) = false := by
    unfold Builtin.Tuple.tupleTooMany
    rw [sizeLine_eq]
    exact decide_eq_false (by omega)
  have fin : EP X pins σ Q (.ref s.heap.objs.size) { s with heap := s.heap.push { cls := .type "tuple", data := .seq (List.replicate k.toNat iv).flatten.toArray }, toks := s.toks } := ep_tupP (t' := s.toks) I (rv.rep k.toNat) rl new
  refine wpAny_binaryOp_repeat_ref (T := "tuple") (U := "int") (by decide) ⟨_, ho, rfl⟩ (fun z => typeIs_int z k t) noFill_tuple_mul F.fills_int_mul F.slot_int_rmul repeat_tuple F.slot_int_index.lookup
    (call_meets F.slot_int_rmul (typeIs_int s k t) F.entry_int_rmul (F.args_int_rmul_2 _ _) (int_rmul_tuple k t l iv.toArray n od os)
      ⟨ho, rfl, ⟨_, ho, rfl⟩, call_meets F.slot_tuple_mul ⟨_, ho, rfl⟩ F.entry_tuple_mul (F.args_tuple_mul_2 _ _) (tuple_mulW l iv.toArray n od os k t d0 d1 d2 (by omega) d4 (by rw [size_rep, List.size_toArray]; exact rl2)) ⟨ho, by rw [size_rep]; exact fin⟩⟩)
def rSlB (K : PySem.W.Frag) : V → Option Int → Option Int → Hp → VK → Prop := fun x lo hi H Q => ∃ (a : Addr) (us : List V), x = .ref a ∧ SqT K H a us ∧
  (HT.sIx us.length 0 lo = 0 ∧ HT.sIx us.length us.length hi = us.length → Q (.ref a) H) ∧ NewT H (cutV us lo hi) Q
theorem sl_tupB : SlR X (rSlB X.K) := by
  rintro pins s σ H _ v vl vu lo hi sl Q I rx hs pl pu ⟨a, us, rfl, g, k1, k2⟩
  cases rx
  obtain ⟨iv, rv, ht, hz⟩ := I.tuple g
  have el : iv.toArray.size = us.length := by rw [List.size_toArray, rv.length]
  refine ⟨"tuple", _, PyProof.Rows.slot_tuple_getitem.lookup, ht.typeIs, ?_⟩
  by_cases hw : HT.sIx us.length 0 lo = 0 ∧ HT.sIx us.length us.length hi = us.length
  · exact getItem_tuple_whole ht hs pl pu (by rw [el]; exact hw) ⟨.ref a, H, I, rfl, k1 hw⟩
  · refine HT.getItem_tuple_cut ht hs pl pu (by rw [el]; exact hw) ?_ (by rw [el]; exact hz)
    rw [el]
    exact ep_tupP (t' := s.toks) I ((rv.drop _).take _) (Nat.le_trans (cutV_length us lo hi) hz) k2
end
/-! ### operators -/
section
variable {K : PySem.W.Frag}
theorem nopen {W : Wd} {H : Hp} (w : WOk W H) {p : Addr} (h : H p = none) : W.P p = none ∧ W.N p = none := by
  constructor
  · cases z : W.P p with
    | none => rfl
    | some u => rw [w.sub p u z] at h; cases h
  · cases z : W.N p with
    | none => rfl
    | some φ =>
      obtain ⟨x, e, _⟩ := (w.pen p φ z).2
      rw [e] at h; cases h
theorem post_tup {W : Wd} {H : Hp} {Q : VK} {vs : List V} {ds : List D} (w : WOk W H) (q : Post K Q W H (.tup ds)) (r : Reps K W vs ds) : NewT H vs Q := newT_at w q r
theorem post_lst {W : Wd} {H : Hp} {Q : VK} {vs : List V} {ds : List D} (w : WOk W H) (q : Post K Q W H (.lst ds)) (r : Reps K W vs ds) : ∀ p, H p = none → Q (.ref p) (upd H p (.lst vs)) := fun p hp =>
  q (.ref p) _ _ (Step.dat w hp) (.lst upd_same (r.mono (Step.dat w hp).le))
theorem post_own {W : Wd} {H : Hp} {Q : VK} {vs : List V} {ds : List D} (w : WOk W H) (q : PostO K Q W H ds) (r : Reps K W vs ds) : ∀ p, H p = none → Q (.ref p) (upd H p (.lst vs)) := fun p hp =>
  q p vs W _ (Step.raw w hp) hp upd_same (nopen w hp).1 (nopen w hp).2 r
theorem post_here {W : Wd} {H : Hp} {Q : VK} {v : V} {d : D} (w : WOk W H) (q : Post K Q W H d) (r : Rep K W v d) : Q v H := q v W H (Step.refl w) r

def rAddA (K : PySem.W.Frag) : R2 := fun x y H Q => rI0 (fun i j => .int (i + j)) x y H Q ∨ rCatB K x y H Q ∨ rCat x y H Q ∨ (∃ i j, x = .str i ∧ y = .str j ∧ i.length + j.length ≤ sizeLine ∧ Q (.str (i ++ j)) H)
theorem op_addA {X : Cx} : OpR X (binaryOp .Add) (rAddA X.K) := op_add.or (op_catB.or (op_cat.or op_add_str))
theorem os_add : OpS K (rAddA K) D.add := by
  intro W H x y dx dy Q E w rx ry h
  cases rx with
  | int i => cases ry with
    | int j => exact .inl ⟨i, j, rfl, rfl, post_here w h (.int _)⟩
    | _ => exact (show False from h).elim
  | str i => cases ry with
    | str j => exact .inr (.inr (.inr ⟨i, j, rfl, rfl, h.1, post_here w h.2 (.str _)⟩))
    | _ => exact (show False from h).elim
  | @tup a vs ds hx r => cases ry with
    | @tup b ws es hy r' =>
      have hz : ds.length + es.length ≤ sizeLine := h.1
      have hq : Post K Q W H (.tup (ds ++ es)) := h.2
      refine .inr (.inl ⟨a, b, vs, ws, rfl, rfl, w.sqT hx, w.sqT hy, by rw [r.length, r'.length]; exact hz, fun e => ?_, fun _ e => ?_, post_tup w hq (r.append r')⟩)
      · subst e
        cases r
        exact post_here w hq (.tup hy r')
      · subst e
        cases r'
        rw [List.append_nil] at hq
        exact post_here w hq (.tup hx r)
    | _ => exact (show False from h).elim
  | @lst a vs ds hx r => cases ry with
    | @lst b ws es hy r' =>
      have hz : ds.length + es.length ≤ sizeLine := h.1
      exact .inr (.inr (.inl ⟨a, b, vs, ws, rfl, rfl, w.sub _ _ hx, w.sub _ _ hy, by rw [r.length, r'.length]; exact hz, post_lst w h.2 (r.append r')⟩))
    | _ => exact (show False from h).elim
  | _ => exact (show False from h).elim
theorem os_sub : OpS K (rI0 fun i j => .int (i - j)) D.sub := by
  intro W H x y dx dy Q E w rx ry h
  cases rx with
  | int i => cases ry with
    | int j => exact ⟨i, j, rfl, rfl, post_here w h (.int _)⟩
    | _ => exact (show False from h).elim
  | _ => exact (show False from h).elim
theorem os_fdiv : OpS K (rI CDiv fun i j => .int (i / j)) D.fdiv := by
  intro W H x y dx dy Q E w rx ry h
  cases rx with
  | int i => cases ry with
    | int j => exact ⟨i, j, rfl, rfl, h.1, post_here w h.2 (.int _)⟩
    | _ => exact (show False from h).elim
  | _ => exact (show False from h).elim
theorem os_mod : OpS K (rI (fun _ j => 0 < j) fun i j => .int (i % j)) D.mod := by
  intro W H x y dx dy Q E w rx ry h
  cases rx with
  | int i => cases ry with
    | int j => exact ⟨i, j, rfl, rfl, h.1, post_here w h.2 (.int _)⟩
    | _ => exact (show False from h).elim
  | _ => exact (show False from h).elim
theorem os_pow : OpS K (rI CPow fun i j => .int (i ^ j.toNat)) D.pow := by
  intro W H x y dx dy Q E w rx ry h
  cases rx with
  | int i => cases ry with
    | int j => exact ⟨i, j, rfl, rfl, h.1, post_here w h.2 (.int _)⟩
    | _ => exact (show False from h).elim
  | _ => exact (show False from h).elim
theorem rep_len {α : Type} (xs : List α) : ∀ k : Nat, ((List.replicate k xs).flatten).length = k * xs.length
  | 0 => by simp
  | k + 1 => by rw [List.replicate_succ, List.flatten_cons, List.length_append, rep_len xs k, Nat.succ_mul, Nat.add_comm]
theorem Reps.rep {W : Wd} {vs : List V} {ds : List D} (r : Reps K W vs ds) : ∀ k : Nat, Reps K W (List.replicate k vs).flatten (List.replicate k ds).flatten
  | 0 => .nil
  | k + 1 => by
    rw [List.replicate_succ, List.replicate_succ, List.flatten_cons, List.flatten_cons]
    exact r.append (Reps.rep r k)
def rMulA (K : PySem.W.Frag) : R2 := fun x y H Q => rI CMul (fun i j => .int (i * j)) x y H Q ∨ rRepB K x y H Q ∨ rRep x y H Q
theorem op_mulA {X : Cx} : OpR X (binaryOp .Mult) (rMulA X.K) := op_mul.or (op_repB.or op_rep)
theorem os_mul : OpS K (rMulA K) D.mul := by
  intro W H x y dx dy Q E w rx ry h
  cases rx with
  | int i => cases ry with
    | int j => exact .inl ⟨i, j, rfl, rfl, h.1, post_here w h.2 (.int _)⟩
    | _ => exact (show False from h).elim
  | @tup a vs ds hx r => cases ry with
    | int k =>
      obtain ⟨⟨h0, h1, h2, h3⟩, hq⟩ := h
      refine .inr (.inl ⟨a, k, vs, rfl, rfl, w.sqT hx, fun e => ?_, h1, h2, by rw [r.length]; exact h3, post_tup w hq (r.rep _)⟩)
      subst e
      cases r
      exact h0 rfl
    | _ => exact (show False from h).elim
  | @lst a vs ds hx r => cases ry with
    | int k =>
      obtain ⟨⟨h1, h2, h3⟩, hq⟩ := h
      have hs : sizeLine = 16777216 := sizeLine_eq
      have hm : vs.length * k.toNat ≤ 1000 * 1000 := Nat.mul_le_mul (by rw [r.length]; exact h2) (by omega)
      exact .inr (.inr ⟨a, k, vs, rfl, rfl, w.sub _ _ hx, h3, by omega, by omega, post_lst w hq (r.rep _)⟩)
    | _ => exact (show False from h).elim
  | _ => exact (show False from h).elim
theorem us_neg : UnS K (rU fun i => .int (-i)) D.neg := by
  intro W H x dx Q E w rx h
  cases rx with
  | int i => exact ⟨i, rfl, post_here w h (.int _)⟩
  | _ => exact (show False from h).elim

/-! comparisons -/
theorem os_lt : OpS K (rI0 fun i j => .bl (decide (i < j))) D.lt := by
  intro W H x y dx dy Q E w rx ry h
  cases rx with
  | int i => cases ry with
    | int j => exact ⟨i, j, rfl, rfl, post_here w h (.bl _)⟩
    | _ => exact (show False from h).elim
  | _ => exact (show False from h).elim
theorem os_le : OpS K (rI0 fun i j => .bl (decide (i ≤ j))) D.le := by
  intro W H x y dx dy Q E w rx ry h
  cases rx with
  | int i => cases ry with
    | int j => exact ⟨i, j, rfl, rfl, post_here w h (.bl _)⟩
    | _ => exact (show False from h).elim
  | _ => exact (show False from h).elim
theorem os_gt : OpS K (rI0 fun i j => .bl (decide (j < i))) D.gt := by
  intro W H x y dx dy Q E w rx ry h
  cases rx with
  | int i => cases ry with
    | int j => exact ⟨i, j, rfl, rfl, post_here w h (.bl _)⟩
    | _ => exact (show False from h).elim
  | _ => exact (show False from h).elim
theorem os_ge : OpS K (rI0 fun i j => .bl (decide (j ≤ i))) D.ge := by
  intro W H x y dx dy Q E w rx ry h
  cases rx with
  | int i => cases ry with
    | int j => exact ⟨i, j, rfl, rfl, post_here w h (.bl _)⟩
    | _ => exact (show False from h).elim
  | _ => exact (show False from h).elim
theorem os_eqS : OpS K rEq D.eqS := by
  intro W H x y dx dy Q E w rx ry h
  cases rx with
  | str i => cases ry with
    | str j =>
      refine ⟨rfl, ?_⟩
      have e : decide (V.str i = V.str j) = decide (i = j) := by rw [Bool.eq_iff_iff]; simp
      rw [e]
      exact post_here w h (.bl _)
    | _ => exact (show False from h).elim
  | _ => exact (show False from h).elim
theorem os_neS : OpS K rNe D.neS := by
  intro W H x y dx dy Q E w rx ry h
  cases rx with
  | str i => cases ry with
    | str j =>
      refine ⟨rfl, ?_⟩
      have e : decide (V.str i = V.str j) = decide (i = j) := by rw [Bool.eq_iff_iff]; simp
      rw [e]
      exact post_here w h (.bl _)
    | _ => exact (show False from h).elim
  | _ => exact (show False from h).elim
/-! is None -/
theorem rep_isN {W : Wd} {v : V} {d : D} (r : Rep K W v d) : decide (v = .non) = d.isN := by
  cases r <;> simp [D.isN]
theorem os_isN : OpS K (fun x y H Q => y = .non ∧ Q (.bl (decide (x = .non))) H) isNF := by
  intro W H x y dx dy Q E w rx ry h
  cases ry with
  | non => exact ⟨rfl, post_here w h (by rw [← rep_isN rx]; exact .bl _)⟩
  | _ => exact (show False from h).elim
theorem os_notN : OpS K (fun x y H Q => y = .non ∧ Q (.bl (!decide (x = .non))) H) notNF := by
  intro W H x y dx dy Q E w rx ry h
  cases ry with
  | non => exact ⟨rfl, post_here w h (by rw [← rep_isN rx]; exact .bl _)⟩
  | _ => exact (show False from h).elim

/-! data as the library reads them -/
mutual
theorem Rep.dp {W : Wd} {H : Hp} (w : WOk W H) : ∀ {v : V} {d : D}, Rep K W v d → d.plain false = true → Dp K H v d.py
  | _, _, .non, _ => by rw [D.py]; exact .non
  | _, _, .bl b, _ => by rw [D.py]; exact .bl b
  | _, _, .int i, _ => by rw [D.py]; exact .int i
  | _, _, .str x, _ => by rw [D.py]; exact .str x
  | _, _, .tup h r, p => by
    rw [D.py]
    exact .tup (w.sqT h) (Reps.dp w r (by simpa [D.plain] using p))
  | _, _, .lst h r, p => by
    rw [D.py]
    exact .lst (.inl (.inl (w.sub _ _ h))) (Reps.dp w r (by simpa [D.plain] using p))
  | _, _, .dct h r, p => by simp [D.plain] at p
  | _, _, .pen h, p => by simp [D.plain] at p
  | _, _, .scr h, p => by simp [D.plain] at p
  | _, _, .fn i, p => by simp [D.plain] at p
  | _, _, .raw i, p => by simp [D.plain] at p
theorem Reps.dp {W : Wd} {H : Hp} (w : WOk W H) : ∀ {vs : List V} {ds : List D}, Reps K W vs ds → D.plains false ds = true → DpAll K H vs (D.pys ds)
  | _, _, .nil, _ => by rw [D.pys]; exact .nil
  | _, _, .cons h r, p => by
    rw [D.plains, Bool.and_eq_true] at p
    rw [D.pys]
    exact .cons (Rep.dp w h p.1) (Reps.dp w r p.2)
end
theorem cmp_split {d : D} (h : d.cmp = true) : d.plain false = true ∧ SeqAt.shaped d.py = true := by
  rw [D.cmp, Bool.and_eq_true, Bool.and_eq_true] at h
  refine ⟨h.1.1, ?_⟩
  rw [SeqAt.shaped, Bool.and_eq_true]
  exact ⟨h.1.2, h.2⟩
theorem os_eq : OpS K (rEqD K) D.eq := by
  intro W H x y dx dy Q E w rx ry h
  obtain ⟨⟨h1, h2⟩, q⟩ := h
  obtain ⟨p1, s1⟩ := cmp_split h1
  obtain ⟨p2, s2⟩ := cmp_split h2
  exact ⟨dx.py, dy.py, rx.dp w p1, ry.dp w p2, s1, s2, post_here w q (.bl _)⟩
theorem os_ne : OpS K (rNeD K) D.ne := by
  intro W H x y dx dy Q E w rx ry h
  obtain ⟨⟨h1, h2⟩, q⟩ := h
  obtain ⟨p1, s1⟩ := cmp_split h1
  obtain ⟨p2, s2⟩ := cmp_split h2
  exact ⟨dx.py, dy.py, rx.dp w p1, ry.dp w p2, s1, s2, post_here w q (.bl _)⟩

/-! ### subscripts -/
def rIxA (K : PySem.W.Frag) : R2 := fun x y H Q => rIxL K x y H Q ∨ rIxT K x y H Q
theorem ix_any {X : Cx} : IxR X (rIxA X.K) := ix_list.or ix_tup
theorem atI_map {α β : Type} (xs : List α) (f : α → β) (i : Int) : atI (xs.map f) i = (atI' xs i).map f := by
  unfold atI atI' ixN
  rw [List.length_map]
  by_cases h0 : 0 ≤ i
  · rw [if_pos h0, if_pos h0]
    by_cases h1 : i < (xs.length : Int)
    · rw [if_pos h1, if_pos h1, Option.bind_some, List.getElem?_map]
    · rw [if_neg h1, if_neg h1, Option.bind_none, Option.map_none]
  · rw [if_neg h0, if_neg h0]
    by_cases h1 : -(xs.length : Int) ≤ i
    · rw [if_pos h1, if_pos h1, Option.bind_some, List.getElem?_map]
    · rw [if_neg h1, if_neg h1, Option.bind_none, Option.map_none]
theorem Reps.atI {W : Wd} {vs : List V} {ds : List D} {i : Int} {d : D} (r : Reps K W vs ds) (h : atI' ds i = some d) : ∃ v, L2.atI vs i = some v ∧ Rep K W v d := by
  unfold atI' at h
  unfold L2.atI ixN
  rw [r.length]
  by_cases h0 : 0 ≤ i
  · rw [if_pos h0] at h ⊢
    by_cases h1 : i < (ds.length : Int)
    · rw [if_pos h1] at h ⊢
      rw [Option.bind_some]
      exact r.get h
    · rw [if_neg h1] at h; cases h
  · rw [if_neg h0] at h ⊢
    by_cases h1 : -(ds.length : Int) ≤ i
    · rw [if_pos h1] at h ⊢
      rw [Option.bind_some]
      exact r.get h
    · rw [if_neg h1] at h; cases h
theorem ofO_run {α : Type} {o : Option α} {Q : α → Prop} {E : Exn → Prop} (h : (ofO o).run Q E) : ∃ a, o = some a ∧ Q a := by
  cases o with
  | none => exact (show False from h).elim
  | some a => exact ⟨a, rfl, h⟩
theorem os_ix : OpS K (rIxA K) D.ix := by
  intro W H x y dx dy Q E w rx ry h
  cases rx with
  | @tup a vs ds hx r => cases ry with
    | int i =>
      obtain ⟨d, e, q⟩ := ofO_run h
      obtain ⟨v, e2, r2⟩ := r.atI e
      exact .inr ⟨a, vs, i, v, rfl, rfl, w.sqT hx, e2, post_here w q r2⟩
    | _ => exact (show False from h).elim
  | @lst a vs ds hx r => cases ry with
    | int i =>
      obtain ⟨d, e, q⟩ := ofO_run h
      obtain ⟨v, e2, r2⟩ := r.atI e
      exact .inl ⟨a, vs, i, v, rfl, rfl, .inl (.inl (w.sub _ _ hx)), e2, post_here w q r2⟩
    | _ => exact (show False from h).elim
  | @scr a ns hx => cases ry with
    | int i =>
      obtain ⟨d, e, q⟩ := ofO_run h
      refine .inl ⟨a, _, i, .int d, rfl, rfl, w.sqL hx, ?_, post_here w q (.int _)⟩
      rw [atI_map, e]
      rfl
    | _ => exact (show False from h).elim
  | _ => exact (show False from h).elim

/-! slices -/
def SSl (K : PySem.W.Frag) (r : V → Option Int → Option Int → Hp → VK → Prop) (f : D → Option Int → Option Int → M D) : Prop :=
  ∀ W H x d lo hi Q (E : Exn → Prop), WOk W H → Rep K W x d → (f d lo hi).run (Post K Q W H) E → r x lo hi H Q
def rSlAll (K : PySem.W.Frag) : V → Option Int → Option Int → Hp → VK → Prop := fun x lo hi H Q => rSlL K x lo hi H Q ∨ rSlB K x lo hi H Q
theorem sl_any {X : Cx} : SlR X (rSlAll X.K) := sl_list.or sl_tupB
theorem sIx_eq (n d : Nat) (o : Option Int) (hd : d ≤ n) : HT.sIx n d o = sIx' n d o := by
  cases o with
  | none => rfl
  | some v =>
    have e := HT.clip_eq v n d
    unfold sIx'
    by_cases h : v < 0
    · rw [if_pos h] at e
      show _ = (if v < 0 then (v + (n : Int)).toNat else min v.toNat n)
      rw [if_pos h]
      have := HT.sIx_le n d hd (some v)
      omega
    · rw [if_neg h] at e
      show _ = (if v < 0 then (v + (n : Int)).toNat else min v.toNat n)
      rw [if_neg h]
      omega
theorem cutV_eq (xs : List V) (lo hi : Option Int) : cutV xs lo hi = cutL xs lo hi := by
  unfold cutV cutL
  rw [sIx_eq _ _ _ (Nat.zero_le _), sIx_eq _ _ _ (Nat.le_refl _)]
theorem Reps.cut {W : Wd} {vs : List V} {ds : List D} (lo hi : Option Int) (r : Reps K W vs ds) : Reps K W (cutV vs lo hi) (cutL ds lo hi) := by
  rw [cutV_eq]
  unfold cutL
  rw [r.length]
  exact (r.drop _).take _
theorem ss_cut : SSl K (rSlAll K) D.cutI := by
  intro W H x d lo hi Q E w rx h
  cases rx with
  | @tup a vs ds hx r =>
    have hq : Post K Q W H (.tup (cutL ds lo hi)) := h
    refine .inr ⟨a, vs, rfl, w.sqT hx, fun e => ?_, post_tup w hq (r.cut lo hi)⟩
    have e2 : cutV vs lo hi = vs := by
      unfold cutV
      rw [e.1, e.2, List.drop_zero, Nat.sub_zero, List.take_length]
    have r2 := r.cut lo hi
    rw [e2] at r2
    exact post_here w hq (.tup hx r2)
  | @lst a vs ds hx r => exact .inl ⟨a, vs, rfl, .inl (.inl (w.sub _ _ hx)), post_lst w h (r.cut lo hi)⟩
  | _ => exact (show False from h).elim
end
section
variable {S : Sx} {ρ : List Sl} {ra : M D} {ta : TE}
/-- the parts of a slice -/
def SP (S : Sx) (t : TO) (ρ : List Sl) (r : M (Option Int)) : Prop :=
  ∀ σ H W H0 Q, EnvR S.K W H H0 σ ρ → WOk W H → r.run (fun o => ∀ W' H', Step W H W' H' → Q o H') (XPost S W H) → t σ H Q
theorem sp_none : SP S tNoPart ρ (pure none) := fun σ H W H0 Q e w q => q W H (Step.refl w)
theorem sp_some (h : SE S ta ρ ra) : SP S (tPart ta) ρ (partM ra) := fun σ H W H0 Q e w q => by
  refine h.go e w q (fun _ z => z) fun d v W1 H1 q1 s1 r1 e1 => ?_
  cases d with
  | int i => cases r1; exact ⟨i, rfl, q1 W1 H1 s1⟩
  | _ => exact (show False from q1).elim
theorem se_slice {r : V → Option Int → Option Int → Hp → VK → Prop} {f : D → Option Int → Option Int → M D} {tl th : TO} {rl rh : M (Option Int)} (hf : SSl S.K r f) (h : SE S ta ρ ra) (hl : SP S tl ρ rl) (hh : SP S th ρ rh) :
    SE S (tSl r ta tl th) ρ (cutM ra rl rh f) := fun σ H W H0 Q e w q => by
  refine h.go e w q (fun _ z => z) fun d v W1 H1 q1 s1 r1 e1 => ?_
  refine hl σ H1 W1 H0 _ e1 s1.ok (rl.mono (fun l hl W2 H2 s2 => ?_) (fun _ z => z.after w s1) q1)
  have w2 := s1.trans w s2
  refine hh σ H2 W2 H0 _ (e1.step s2) s2.ok (rh.mono (fun u hu W3 H3 s3 => ?_) (fun _ z => z.after w w2) hl)
  have w3 := w2.trans w s3
  exact hf W3 H3 v d l u Q _ s3.ok (r1.mono (s2.le.trans s3.le)) ((f d l u).mono (fun _ z => z.after w w3) (fun _ z => z) hu)
end
end Ev

namespace Ev
open PySem PySem.Spec L2
variable [Tb]

/-! ### repr -/
theorem keyReads {h : Heap} {k : Key} {u : Value} (e : keyIs k u = true) : Reads h u (keyPy k) [] := by
  rcases keyIs_shape e with ⟨i, t, rfl, rfl⟩ | ⟨x, t, rfl, rfl⟩
  · exact Reads.int i t
  · exact Reads.str x t
section
variable {X : Cx} {pins : List (Addr × Obj)} {σ : L2.St} {H : Hp} {s : Shared} {W : Wd}
mutual
theorem Rep.reads (I : Inv X pins σ H s) (w : WOk W H) : ∀ {v : V} {d : D} {u : Value}, Rep X.K W v d → RelV v u → d.plain true = true → ∃ as, Reads s.heap u d.py as ∧ (nolst d.py = true → sysModules ∉ as)
  | _, _, _, .non, r, _ => by
    rw [D.py]
    cases r
    exact ⟨_, Reads.none, fun _ => by simp⟩
  | _, _, _, .bl b, r, _ => by
    rw [D.py]
    cases r
    exact ⟨_, Reads.bool b, fun _ => by simp⟩
  | _, _, _, .int i, r, _ => by
    rw [D.py]
    obtain ⟨t, rfl⟩ := r
    exact ⟨_, Reads.int i t, fun _ => by simp⟩
  | _, _, _, .str x, r, _ => by
    rw [D.py]
    obtain ⟨t, rfl⟩ := r
    exact ⟨_, Reads.str x t, fun _ => by simp⟩
  | _, _, _, .tup h rs, r, p => by
    rw [D.py]
    cases r
    obtain ⟨its, rv, ⟨o, ho, hc, n, hd⟩, _⟩ := I.tuple (w.sqT h)
    obtain ⟨as, hr, hn⟩ := Reps.reads I w rs rv (by simpa [D.plain] using p)
    exact ⟨as, Reads.tuple ho hc hd hr, fun z => hn (by simpa [nolst] using z)⟩
  | _, _, _, .lst h rs, r, p => by
    rw [D.py]
    cases r
    obtain ⟨its, rv, ⟨o, n, ho, hc, _, hd⟩, _⟩ := I.list (.inl (.inl (w.sub _ _ h)))
    obtain ⟨as, hr, hn⟩ := Reps.reads I w rs rv (by simpa [D.plain] using p)
    exact ⟨_, Reads.list ho hc hd hr, fun z => by simp [nolst] at z⟩
  | _, _, _, @Rep.dct _ _ _ a kvs ds h rs, r, p => by
    rw [D.py]
    cases r
    obtain ⟨_, hsm, vs, rk, o, es, ep, ho, hx, hd, _, hp, _⟩ := (show ObjOk X.prog X.w H s.heap a (.dK kvs) from I.hok a _ (w.sub _ _ h))
    obtain ⟨as, bs, h1, h2, hn⟩ := RepKv.reads I w rs rk hp (by simpa [D.plain] using p)
    refine ⟨_, Reads.dict ho hx.1 hd h1 h2, fun z => ?_⟩
    obtain ⟨ea, eb⟩ := hn (by simpa [nolst] using z)
    intro m
    rcases List.mem_append.mp m with m | m
    · rcases List.mem_cons.mp m with m | m
      · rw [← m] at hsm
        simp at hsm
      · exact ea m
    · exact eb m
  | _, _, _, .pen h, _, p => by simp [D.plain] at p
  | _, _, _, .scr h, _, p => by simp [D.plain] at p
  | _, _, _, .fn i, _, p => by simp [D.plain] at p
  | _, _, _, .raw i, _, p => by simp [D.plain] at p
theorem Reps.reads (I : Inv X pins σ H s) (w : WOk W H) : ∀ {vs : List V} {ds : List D} {us : List Value}, Reps X.K W vs ds → Vals vs us → D.plains true ds = true → ∃ as, ReadsAll s.heap us (D.pys ds) as ∧ (nolsts (D.pys ds) = true → sysModules ∉ as)
  | _, _, _, .nil, r, _ => by
    rw [D.pys]
    cases r
    exact ⟨_, ReadsAll.nil, fun _ => by simp⟩
  | _, _, _, .cons h rs, r, p => by
    rw [D.plains, Bool.and_eq_true] at p
    rw [D.pys]
    cases r with
    | cons r1 r2 =>
      obtain ⟨as, q1, n1⟩ := Rep.reads I w h r1 p.1
      obtain ⟨bs, q2, n2⟩ := Reps.reads I w rs r2 p.2
      refine ⟨_, ReadsAll.cons q1 q2, fun z => ?_⟩
      rw [nolsts, Bool.and_eq_true] at z
      intro m
      rcases List.mem_append.mp m with m | m
      · exact n1 z.1 m
      · exact n2 z.2 m
theorem RepKv.reads (I : Inv X pins σ H s) (w : WOk W H) : ∀ {kvs : List (Key × V)} {ds : List (Sum Int Str × D)} {vs : List (Key × Value)} {es : List DictEntry}, RepKv X.K W kvs ds → KV kvs vs → Pairs (mixKind X.prog X.w) es vs → D.plainKv true ds = true →
    ∃ as bs, ReadsAll s.heap (es.map (·.key)) ((D.pyKv ds).map (·.1)) as ∧ ReadsAll s.heap (es.map (·.val)) ((D.pyKv ds).map (·.2)) bs ∧ (nolstKv (D.pyKv ds) = true → sysModules ∉ as ∧ sysModules ∉ bs)
  | _, _, _, _, .nil, r, hp, _ => by
    rw [D.pyKv]
    cases r
    cases hp
    exact ⟨_, _, ReadsAll.nil, ReadsAll.nil, fun _ => ⟨by simp, by simp⟩⟩
  | _, _, _, _, @RepKv.cons _ _ _ k v d kvs ds h rs, r, hp, p => by
    rw [D.plainKv, Bool.and_eq_true] at p
    rw [D.pyKv]
    cases r with
    | @cons _ kv _ kvs' r1 r2 =>
      obtain ⟨ek, r1⟩ := r1
      cases hp with
      | @cons e _ es _ hk hv hr =>
        have ek' : k = kv.1 := ek
        have hk' : keyIs kv.1 e.key = true := hk
        rw [← ek'] at hk'
        obtain ⟨as, q1, n1⟩ := Rep.reads (u := e.val) I w h (by rw [hv]; exact r1) p.1
        obtain ⟨as2, bs2, q2, q3, n2⟩ := RepKv.reads I w rs r2 hr p.2
        refine ⟨_, _, ReadsAll.cons (keyReads hk') q2, ReadsAll.cons q1 q3, fun z => ?_⟩
        rw [nolstKv, Bool.and_eq_true, Bool.and_eq_true] at z
        obtain ⟨e1, e2⟩ := n2 z.2
        refine ⟨fun m => ?_, fun m => ?_⟩
        · rcases List.mem_append.mp m with m | m
          · exact absurd m (by simp)
          · exact e1 m
        · rcases List.mem_append.mp m with m | m
          · exact n1 z.1.2 m
          · exact e2 m
end
end
/-- .. of a thing of ours -/
def rReprD (K : PySem.W.Frag) : List V → Hp → VK → Prop := fun vs H Q => ∃ v W d, vs = [v] ∧ WOk W H ∧ Rep K W v d ∧ d.canShow ∧ Q (.str d.shown) H
theorem call_repr {X : Cx} (hg : X.A.guards = some []) (hu : X.A.units + 64 < cLine) : CallR X (.builtin "repr") (rReprD X.K) := by
  intro pins s σ H vs us Q I r h
  obtain ⟨v, W, d, rfl, w, rp, ⟨c1, c2, c3, c4, c5⟩, q⟩ := h
  obtain ⟨u, rfl, rv⟩ := vals1 r
  have key : ∀ a, u = .ref a → wpAny (model X.prog X.w) X.A (call (.builtin "repr") [u]) (EP X pins σ Q) X.xe s := fun a ea => by
    obtain ⟨as, hr, hn⟩ := rp.reads I w rv c1
    subst ea
    refine repr_of_reads' hr c2 (fun z => hn (c5 z)) hg (by omega) (fun _ _ e => e) (fun h' t tk kp => ?_) c4
    exact ⟨.str d.shown, H, I.kept kp, ⟨t, rfl⟩, q⟩
  cases rp with
  | non =>
    cases rv
    refine PySem.P.repr_of_none ⟨.str "None", H, I.tok _, ⟨_, rfl⟩, ?_⟩
    have e : D.shown .non = "None" := by simp only [D.shown, D.py, PyData.shown]
    rw [← e]
    exact q
  | bl b =>
    cases rv
    cases b with
    | true =>
      refine PySem.P.repr_of_bool ⟨.str "True", H, I.tok _, ⟨_, rfl⟩, ?_⟩
      have e : D.shown (.bl true) = "True" := by
        rw [D.shown, D.py, PyData.shown]
        rfl
      rw [← e]
      exact q
    | false =>
      refine PySem.P.repr_of_bool ⟨.str "False", H, I.tok _, ⟨_, rfl⟩, ?_⟩
      have e : D.shown (.bl false) = "False" := by
        rw [D.shown, D.py, PyData.shown]
        rfl
      rw [← e]
      exact q
  | int i =>
    obtain ⟨t, rfl⟩ := rv
    have c2' : i.natAbs.log2 < 1920 := by simpa [D.py, PyData.showable] using c2
    refine PySem.P.repr_of_int c2' ⟨.str (toString i), H, I.tok _, ⟨_, rfl⟩, ?_⟩
    have e : D.shown (.int i) = (toString i) := by simp only [D.shown, D.py, PyData.shown]
    rw [← e]
    exact q
  | str x =>
    obtain ⟨t, rfl⟩ := rv
    have e : D.shown (.str x) = reprText x := by simp only [D.shown, D.py, PyData.shown]
    have c4' : (reprText x).length ≤ sizeLine := by rw [← e]; exact c4
    refine PySem.P.repr_of_str ⟨.str (reprText x), H, I.tok _, ⟨_, rfl⟩, ?_⟩ c4'
    rw [← e]
    exact q
  | tup _ _ => cases rv; exact key _ rfl
  | lst _ _ => cases rv; exact key _ rfl
  | dct _ _ => cases rv; exact key _ rfl
  | pen _ => simp [D.plain] at c1
  | scr _ => simp [D.plain] at c1
  | fn _ => simp [D.plain] at c1
  | raw _ => simp [D.plain] at c1
end Ev

namespace Ev
open PySem PySem.Spec L2
variable [Tb]
section
variable {K : PySem.W.Frag}
theorem f1_run {g : D → M D} {ds : List D} {Q : D → Prop} {E : Exn → Prop} (h : (f1 g ds).run Q E) : ∃ d, ds = [d] ∧ (g d).run Q E := by
  match ds, h with
  | [d], h => exact ⟨d, rfl, h⟩
  | [], h => exact (show False from h).elim
  | _ :: _ :: _, h => exact (show False from h).elim
theorem f2_run {g : D → D → M D} {ds : List D} {Q : D → Prop} {E : Exn → Prop} (h : (f2 g ds).run Q E) : ∃ d e, ds = [d, e] ∧ (g d e).run Q E := by
  match ds, h with
  | [d, e], h => exact ⟨d, e, rfl, h⟩
  | [], h => exact (show False from h).elim
  | [_], h => exact (show False from h).elim
  | _ :: _ :: _ :: _, h => exact (show False from h).elim
theorem Reps.of1 {W : Wd} {vs : List V} {d : D} (r : Reps K W vs [d]) : ∃ v, vs = [v] ∧ Rep K W v d := by
  cases r with
  | cons a b => cases b; exact ⟨_, rfl, a⟩
theorem Reps.of2 {W : Wd} {vs : List V} {d e : D} (r : Reps K W vs [d, e]) : ∃ v u, vs = [v, u] ∧ Rep K W v d ∧ Rep K W u e := by
  cases r with
  | cons a b =>
    cases b with
    | cons c b => cases b; exact ⟨_, _, rfl, a, c⟩

theorem Reps.of3 {W : Wd} {vs : List V} {d e f : D} (r : Reps K W vs [d, e, f]) : ∃ v u z, vs = [v, u, z] ∧ Rep K W v d ∧ Rep K W u e ∧ Rep K W z f := by
  cases r with
  | cons a b =>
    obtain ⟨u, z, rfl, h1, h2⟩ := b.of2
    exact ⟨_, _, _, rfl, a, h1, h2⟩

/-! len -/
def rLenA (K : PySem.W.Frag) : List V → Hp → VK → Prop := fun xs H Q => (∃ x n, xs = [x] ∧ LenV K x H n ∧ Q (.int n) H) ∨ (∃ a kvs, xs = [V.ref a] ∧ H a = some (.dK kvs) ∧ Q (.int kvs.length) H)
theorem call_lenA {X : Cx} : CallR X (.builtin "len") (rLenA X.K) := call_len.or call_lenD
theorem cs_len : CaS K (rLenA K) (f1 D.len) := by
  intro W H vs ds Q E w rs h
  obtain ⟨d, rfl, h⟩ := f1_run h
  obtain ⟨v, rfl, r⟩ := rs.of1
  cases r with
  | @tup a vs ds hx r => exact .inl ⟨_, _, rfl, .inr ⟨vs, w.sqT hx, rfl⟩, post_here w h (by rw [r.length]; exact .int _)⟩
  | @lst a vs ds hx r => exact .inl ⟨_, _, rfl, .inl ⟨vs, .inl (.inl (w.sub _ _ hx)), rfl⟩, post_here w h (by rw [r.length]; exact .int _)⟩
  | @scr a ns hx => exact .inl ⟨_, _, rfl, .inl ⟨_, w.sqL hx, rfl⟩, post_here w h (by rw [List.length_map]; exact .int _)⟩
  | str x => exact .inl ⟨_, _, rfl, ⟨h.1, rfl⟩, post_here w h.2 (.int _)⟩
  | @dct a kvs ds hx r => exact .inr ⟨a, kvs, rfl, w.sub _ _ hx, post_here w h (by rw [r.length]; exact .int _)⟩
  | _ => exact (show False from h).elim
/-! tuple(..), list(..) -/
/-- tuple(xs) -/
def rTupB (K : PySem.W.Frag) : List V → Hp → VK → Prop := fun xs H Q => ∃ (p : Addr) (us : List V), xs = [.ref p] ∧ ((SqL K H p us ∧ NewT H us Q) ∨ (SqT K H p us ∧ Q (.ref p) H))
theorem call_tupB {X : Cx} : CallR X (.type "tuple") (rTupB X.K) := by
  rintro pins s σ H xs vs Q I r ⟨p, us, rfl, h⟩
  obtain ⟨u, rfl, rx⟩ := vals1 r
  cases rx
  rcases h with ⟨g, new⟩ | ⟨g, q⟩
  · obtain ⟨iv, rv, pl, hz⟩ := I.list g
    have el := rv.length
    refine call_tuple_list pl.isList (fun h1 kp => ?_) (by simp only [List.size_toArray] <;> omega)
    exact ep_tupP (t' := s.toks) (I.kept (t' := s.toks) kp) rv hz new
  · obtain ⟨iv, rv, pl, _⟩ := I.tuple g
    exact call_tuple_same pl ⟨.ref p, H, I, rfl, q⟩
theorem cs_tup : CaS K (rTupB K) (f1 D.toTup) := by
  intro W H vs ds Q E w rs h
  obtain ⟨d, rfl, h⟩ := f1_run h
  obtain ⟨v, rfl, r⟩ := rs.of1
  cases r with
  | @tup a vs ds hx r => exact ⟨a, vs, rfl, .inr ⟨w.sqT hx, post_here w h (.tup hx r)⟩⟩
  | @lst a vs ds hx r => exact ⟨a, vs, rfl, .inl ⟨.inl (.inl (w.sub _ _ hx)), post_tup w h r⟩⟩
  | _ => exact (show False from h).elim
theorem fo1_run {g : D → M (List D)} {ds : List D} {Q : List D → Prop} {E : Exn → Prop} (h : (fo1 g ds).run Q E) : ∃ d, ds = [d] ∧ (g d).run Q E := by
  match ds, h with
  | [d], h => exact ⟨d, rfl, h⟩
  | [], h => exact (show False from h).elim
  | _ :: _ :: _, h => exact (show False from h).elim
theorem co_lst : CaO K (fun xs H Q => ∃ p ys, xs = [.ref p] ∧ (SqL K H p ys ∨ SqT K H p ys) ∧ ∀ l, H l = none → Q (.ref l) (upd H l (.lst ys))) (fo1 D.toLst') := by
  intro W H vs ds Q E w rs h
  obtain ⟨d, rfl, h⟩ := fo1_run h
  obtain ⟨v, rfl, r⟩ := rs.of1
  cases r with
  | @tup a vs ds hx r => exact ⟨a, vs, rfl, .inr (w.sqT hx), post_own w h r⟩
  | @lst a vs ds hx r => exact ⟨a, vs, rfl, .inl (.inl (.inl (w.sub _ _ hx))), post_own w h r⟩
  | _ => exact (show False from h).elim
theorem cs_lst : CaS K (fun xs H Q => ∃ p ys, xs = [.ref p] ∧ (SqL K H p ys ∨ SqT K H p ys) ∧ ∀ l, H l = none → Q (.ref l) (upd H l (.lst ys))) (f1 D.toLst) := by
  intro W H vs ds Q E w rs h
  obtain ⟨d, rfl, h⟩ := f1_run h
  obtain ⟨v, rfl, r⟩ := rs.of1
  cases r with
  | @tup a vs ds hx r => exact ⟨a, vs, rfl, .inr (w.sqT hx), post_lst w h r⟩
  | @lst a vs ds hx r => exact ⟨a, vs, rfl, .inl (.inl (.inl (w.sub _ _ hx))), post_lst w h r⟩
  | _ => exact (show False from h).elim
/-! max, min of two, int -/
theorem cs_max2 : CaS K (fun xs H Q => ∃ i j, xs = [.int i, .int j] ∧ Q (.int (if j > i then j else i)) H) (f2 D.max2) := by
  intro W H vs ds Q E w rs h
  obtain ⟨d, e, rfl, h⟩ := f2_run h
  obtain ⟨v, u, rfl, r, r'⟩ := rs.of2
  cases r with
  | int i => cases r' with
    | int j => exact ⟨i, j, rfl, post_here w h (.int _)⟩
    | _ => exact (show False from h).elim
  | _ => exact (show False from h).elim
theorem cs_min2 : CaS K (fun xs H Q => ∃ i j, xs = [.int i, .int j] ∧ Q (.int (if j < i then j else i)) H) (f2 D.min2) := by
  intro W H vs ds Q E w rs h
  obtain ⟨d, e, rfl, h⟩ := f2_run h
  obtain ⟨v, u, rfl, r, r'⟩ := rs.of2
  cases r with
  | int i => cases r' with
    | int j => exact ⟨i, j, rfl, post_here w h (.int _)⟩
    | _ => exact (show False from h).elim
  | _ => exact (show False from h).elim
theorem cs_int : CaS K (fun xs H Q => (∃ i, xs = [.int i] ∧ Q (.int i) H) ∨ ∃ k, xs = [.bl k] ∧ Q (.int (if k then 1 else 0)) H) (f1 D.toInt) := by
  intro W H vs ds Q E w rs h
  obtain ⟨d, rfl, h⟩ := f1_run h
  obtain ⟨v, rfl, r⟩ := rs.of1
  cases r with
  | int i => exact .inl ⟨i, rfl, post_here w h (.int _)⟩
  | bl k => exact .inr ⟨k, rfl, post_here w h (.int _)⟩
  | _ => exact (show False from h).elim
/-! all, any -/
theorem bools_rep {W : Wd} : ∀ {vs : List V} {ds : List D} {bs : List Bool}, Reps K W vs ds → boolsL ds = some bs → vs = bs.map V.bl
  | _, _, bs, .nil, e => by
    rw [boolsL] at e
    cases e
    rfl
  | _, _, bs, .cons (d := d) (ds := ds) h r, e => by
    cases h with
    | bl b =>
      rw [boolsL, Option.map_eq_some_iff] at e
      obtain ⟨cs, e1, e2⟩ := e
      rw [← e2, List.map_cons, bools_rep r e1]
    | _ => exact absurd e (by simp [boolsL])
theorem ints_rep {W : Wd} : ∀ {vs : List V} {ds : List D} {bs : List Int}, Reps K W vs ds → intsL ds = some bs → vs = bs.map V.int
  | _, _, bs, .nil, e => by
    rw [intsL] at e
    cases e
    rfl
  | _, _, bs, .cons (d := d) (ds := ds) h r, e => by
    cases h with
    | int b =>
      rw [intsL, Option.map_eq_some_iff] at e
      obtain ⟨cs, e1, e2⟩ := e
      rw [← e2, List.map_cons, ints_rep r e1]
    | _ => exact absurd e (by simp [intsL])
theorem cs_all : CaS K (rAll K) (f1 D.all) := by
  intro W H vs ds Q E w rs h
  obtain ⟨d, rfl, h⟩ := f1_run h
  obtain ⟨v, rfl, r⟩ := rs.of1
  cases r with
  | @lst a vs ds hx r =>
    obtain ⟨bs, e, q⟩ := ofO_run h
    refine ⟨a, bs, rfl, ?_, post_here w q (.bl _)⟩
    rw [← bools_rep r e]
    exact .inl (.inl (w.sub _ _ hx))
  | _ => exact (show False from h).elim
theorem cs_any : CaS K (rAny K) (f1 D.any) := by
  intro W H vs ds Q E w rs h
  obtain ⟨d, rfl, h⟩ := f1_run h
  obtain ⟨v, rfl, r⟩ := rs.of1
  cases r with
  | @lst a vs ds hx r =>
    obtain ⟨bs, e, q⟩ := ofO_run h
    refine ⟨a, bs, rfl, ?_, post_here w q (.bl _)⟩
    rw [← bools_rep r e]
    exact .inl (.inl (w.sub _ _ hx))
  | _ => exact (show False from h).elim
theorem cs_repr : CaS K (rReprD K) (f1 D.repr) := by
  intro W H vs ds Q E w rs h
  obtain ⟨d, rfl, h⟩ := f1_run h
  obtain ⟨v, rfl, r⟩ := rs.of1
  exact ⟨v, W, d, rfl, w, r, h.1, post_here w h.2 (.str _)⟩

/-! isinstance with a built-in type -/
def Ty.name : Ty → String
  | .int => "int" | .bool => "bool" | .str => "str" | .tuple => "tuple" | .list => "list" | .dict => "dict"
theorem isa_kit {H : Hp} {W : Wd} (w : WOk W H) {v : V} {d : D} {ty : Ty} {b : Bool} (r : Rep K W v d) (e : d.isa ty = some b) : ∃ t : String, TyX K H v (.type t) ∧ kitB t ty.name = some b := by
  cases r with
  | non => cases e; exact ⟨"NoneType", .base .non, by cases ty <;> decide +kernel⟩
  | bl x => cases e; exact ⟨"bool", .base (.bl x), by cases ty <;> decide +kernel⟩
  | int x => cases e; exact ⟨"int", .base (.int x), by cases ty <;> decide +kernel⟩
  | str x => cases e; exact ⟨"str", .base (.str x), by cases ty <;> decide +kernel⟩
  | @tup a vs ds hx _ =>
    cases e
    refine ⟨"tuple", ?_, by cases ty <;> decide +kernel⟩
    rcases hx with ⟨o, h, _⟩ | ⟨o, its, n, h1, h2, _⟩
    · exact .fTuple (w.sub _ _ h)
    · exact .kTuple h1 h2
  | lst hx _ => cases e; exact ⟨"list", .base (.lst (w.sub _ _ hx)), by cases ty <;> decide +kernel⟩
  | dct hx _ => cases e; exact ⟨"dict", .base (.dK (w.sub _ _ hx)), by cases ty <;> decide +kernel⟩
  | pen _ => cases ty <;> cases e
  | scr _ => cases ty <;> cases e
  | fn _ => cases ty <;> cases e
  | raw _ => cases ty <;> cases e
end
section
variable {S : Sx} {ρ : List Sl} {ra : M D} {ta : TE}
theorem se_isa (ty : Ty) (h : SE S ta ρ ra) : SE S (tCB (rIsi S.K) (tCons ta (tCons (tC (.ty ty.name)) tNil))) ρ (ra >>= isaM ty) := fun σ H W H0 Q e w q => by
  refine h.go e w q (fun _ z => z) fun d v W1 H1 q1 s1 r1 e1 => ?_
  unfold isaM at q1
  cases eb : d.isa ty with
  | none => rw [eb] at q1; exact (show False from q1).elim
  | some b =>
    rw [eb] at q1
    obtain ⟨t, h1, h2⟩ := isa_kit s1.ok r1 eb
    exact ⟨v, .ty ty.name, .type t, .type ty.name, b, rfl, .ty _, h1, kit_ty h2, q1 _ W1 H1 s1 (.bl _)⟩
end
end Ev

namespace Ev
open PySem PySem.Spec L2
variable [Tb]

/-! ### what is walked -/
structure Walks (K : PySem.W.Frag) (W : Wd) (J : It) (xs : List D) : Prop where
  stop : ∀ W' H', Le W W' → WOk W' H' → J.stop xs.length H'
  go : ∀ i W' H', Le W W' → WOk W' H' → i < xs.length → J.go i H'
  yld : ∀ i x W' H' v H'', Le W W' → WOk W' H' → xs[i]? = some x → J.yld i H' v H'' → ∃ W'', Step W' H' W'' H'' ∧ Rep K W'' v x
def SI (S : Sx) (t : TI) (ρ : List Sl) (r : M (List D)) : Prop :=
  ∀ σ H W H0 R, EnvR S.K W H H0 σ ρ → WOk W H → r.run (fun xs => ∀ J W' H', Step W H W' H' → Walks S.K W' J xs → R J H') (XPost S W H) → t σ H R
section
variable {K : PySem.W.Frag} {W : Wd}
theorem walks_list {a : Addr} {vs : List V} {ds : List D} (h : SqL K W.P a vs) (r : Reps K W vs ds) : Walks K W (Itl K a) ds where
  stop := fun W' H' l w => ⟨vs, w.sqL (l.sqL h), Nat.le_of_eq r.length⟩
  go := fun i W' H' l w hi => by
    have hv : i < vs.length := by rw [r.length]; exact hi
    exact ⟨vs, vs[i], w.sqL (l.sqL h), List.getElem?_eq_getElem hv⟩
  yld := fun i x W' H' v H'' l w hx y => by
    obtain ⟨rfl, hy⟩ := y
    obtain ⟨u, e, ru⟩ := r.get hx
    have e2 := hy vs (w.sqL (l.sqL h))
    rw [e] at e2
    cases e2
    exact ⟨W', Step.refl w, ru.mono l⟩
theorem walks_tup {a : Addr} {vs : List V} {ds : List D} (h : BqT K W.P a vs) (r : Reps K W vs ds) : Walks K W (Itt K a) ds where
  stop := fun W' H' l w => ⟨vs, w.sqT (l.bqT h), Nat.le_of_eq r.length⟩
  go := fun i W' H' l w hi => by
    have hv : i < vs.length := by rw [r.length]; exact hi
    exact ⟨vs, vs[i], w.sqT (l.bqT h), List.getElem?_eq_getElem hv⟩
  yld := fun i x W' H' v H'' l w hx y => by
    obtain ⟨rfl, hy⟩ := y
    obtain ⟨u, e, ru⟩ := r.get hx
    have e2 := hy vs (w.sqT (l.bqT h))
    rw [e] at e2
    cases e2
    exact ⟨W', Step.refl w, ru.mono l⟩
theorem walks_range {lo : Int} {hi : Int} : Walks K W (Itr lo (hi - lo).toNat) (rangeL lo hi) where
  stop := fun W' H' l w => by
    show (hi - lo).toNat ≤ (rangeL lo hi).length
    unfold rangeL
    rw [List.length_map, List.length_range]
    exact Nat.le_refl _
  go := fun i W' H' l w h => by
    show i < (hi - lo).toNat
    unfold rangeL at h
    rw [List.length_map, List.length_range] at h
    exact h
  yld := fun i x W' H' v H'' l w hx y => by
    obtain ⟨rfl, rfl⟩ := y
    refine ⟨W', Step.refl w, ?_⟩
    unfold rangeL at hx
    rw [List.getElem?_map, Option.map_eq_some_iff] at hx
    obtain ⟨j, e1, e2⟩ := hx
    rw [List.getElem?_range (by
      have := (List.getElem?_eq_some_iff.mp e1).1
      rw [List.length_range] at this
      exact this)] at e1
    cases e1
    rw [← e2]
    exact .int _
end
/-- a list or a tuple -/
def iSeq (K : PySem.W.Frag) (tl : TE) : TI := fun σ H R => tl σ H fun x H1 => ∃ a, x = .ref a ∧ ((∃ xs, SqL K H1 a xs) ∧ R (Itl K a) H1 ∨ (∃ xs, SqT K H1 a xs) ∧ R (Itt K a) H1)
theorem pi_seq {X : Cx} {tg l : Expr} {tl : TE} (hl : PE X l tl) : PI X tg l (iSeq X.K tl) := by
  constructor
  intro pins s σ H R I h
  refine thn (hl.run pins s σ H _ I h) ?_
  rintro v s1 ⟨x, H1, I1, r1, a, rfl, q⟩
  have ev : v = Value.ref a := r1
  subst ev
  have new : ∀ o : Obj, L2.Inv X pins σ H1 { s1 with heap := s1.heap.push o } := fun o => I1.kept (t' := s1.toks) fun b u e => Heap.get?_push_of_some _ e
  have fp : ∀ b ∈ [s1.heap.objs.size], FpOk X pins H1 b := by
    intro b hb
    obtain rfl := List.mem_singleton.mp hb
    exact I1.fpOk (Nat.le_refl _) (I1.hok.fresh (Nat.le_refl _))
  rcases q with ⟨⟨xs, hx⟩, q⟩ | ⟨⟨xs, hx⟩, q⟩
  · obtain ⟨its, rv, pl, _⟩ := I1.list hx
    exact wpAny_pyIter_list pl.isList
      ⟨_, _, _, _, H1, rfl, new _, turn_list a _, ⟨_, Heap.get?_push_size _ rfl, rfl, rfl⟩, fp, q⟩
  · obtain ⟨its, rv, pl, _⟩ := I1.tuple hx
    exact wpAny_pyIter_tuple (show s1.heap.IsTuple a its.toArray from pl)
      ⟨_, _, _, _, H1, rfl, new _, turn_tuple a _, ⟨_, Heap.get?_push_size _ rfl, rfl, rfl⟩, fp, q⟩
section
variable {S : Sx} {ρ : List Sl} {ra : M D} {ta : TE}
theorem si_seq (h : SE S ta ρ ra) : SI S (iSeq S.K ta) ρ (ra >>= itemsL) := fun σ H W H0 R e w q => by
  refine h.go e w q (fun _ z => z) fun d v W1 H1 q1 s1 r1 e1 => ?_
  cases r1 with
  | @tup a vs ds hx r => exact ⟨a, rfl, .inr ⟨⟨vs, s1.ok.sqT hx⟩, q1 _ W1 H1 s1 (walks_tup hx r)⟩⟩
  | @lst a vs ds hx r => exact ⟨a, rfl, .inl ⟨⟨vs, .inl (.inl (s1.ok.sub _ _ hx))⟩, q1 _ W1 H1 s1 (walks_list (.inl (.inl hx)) r)⟩⟩
  | @scr a ns hx =>
    refine ⟨a, rfl, .inl ⟨⟨_, s1.ok.sqL hx⟩, q1 _ W1 H1 s1 (walks_list hx ?_)⟩⟩
    have key : ∀ ns : List Int, Reps S.K W1 (ns.map V.int) (ns.map D.int) := fun ns => by
      induction ns with
      | nil => exact .nil
      | cons n r ih => exact .cons (.int n) ih
    exact key ns
  | _ => exact (show False from q1).elim
theorem si_rng1 {ts : TA} {rs : List (M D)} (h : SA S ts ρ rs) : SI S (iRng1 ts) ρ (rng1 rs) := fun σ H W H0 R e w q => by
  refine h.go e w q (fun _ z => z) fun ds vs W1 H1 q1 s1 r1 e1 => ?_
  match ds, r1, q1 with
  | [x], r1, q1 =>
    obtain ⟨v, rfl, r⟩ := r1.of1
    cases r with
    | int j =>
      have q2 := q1.2 (Itr 0 (j - 0).toNat) W1 H1 s1 walks_range
      rw [Int.sub_zero] at q2
      exact ⟨j, rfl, q1.1.1, q1.1.2, q2⟩
    | _ => exact (show False from q1).elim
  | [], _, q1 => exact (show False from q1).elim
  | _ :: _ :: _, _, q1 => exact (show False from q1).elim
theorem si_rng2 {ts : TA} {rs : List (M D)} (h : SA S ts ρ rs) : SI S (iRng2 ts) ρ (rng2 rs) := fun σ H W H0 R e w q => by
  refine h.go e w q (fun _ z => z) fun ds vs W1 H1 q1 s1 r1 e1 => ?_
  match ds, r1, q1 with
  | [x, y], r1, q1 =>
    obtain ⟨v, u, rfl, r, r'⟩ := r1.of2
    cases r with
    | int i => cases r' with
      | int j => exact ⟨i, j, rfl, ⟨q1.1.1.1, q1.1.1.2, q1.1.2.1, q1.1.2.2⟩, q1.2 _ W1 H1 s1 walks_range⟩
      | _ => exact (show False from q1).elim
    | _ => exact (show False from q1).elim
  | [], _, q1 => exact (show False from q1).elim
  | [_], _, q1 => exact (show False from q1).elim
  | _ :: _ :: _ :: _, _, q1 => exact (show False from q1).elim
end

/-! ### targets -/
/-- js: the slots that are stored -/
def SG (S : Sx) (g : TG) (ρ : List Sl) {T : Type} (r : D → M T) (ρ' : T → List Sl) (js : List Nat) : Prop :=
  ∀ x v σ H W H0 Q (E : Exn → Prop), EnvR S.K W H H0 σ ρ → WOk W H → Rep S.K W v x →
    (r x).run (fun t => ∀ σ', EnvR S.K W H H0 σ' (ρ' t) → σ'.length = σ.length → (∀ i, i ∉ js → σ'[i]? = σ[i]?) → Q σ' H) E → g v σ H Q
section
variable {S : Sx} {ρ : List Sl}
theorem sg_name {i : Nat} : SG S (gName i) ρ tg1 (fun x => ρ.set i (.val x)) [i] := fun x v σ H W H0 Q E e w r q =>
  q (σ.set i (some v)) (e.setVal i r) (List.length_set ..) fun j hj => List.getElem?_set_ne (fun z => hj (by rw [z]; exact List.mem_singleton.mpr rfl))
theorem sg_two {i j : Nat} : SG S (gTup S.K 2 (gCons (gName i) (gCons (gName j) gNil))) ρ un2 (fun p => (ρ.set i (.val p.1)).set j (.val p.2)) [i, j] := fun x v σ H W H0 Q E e w r q => by
  unfold un2 at q
  split at q
  · cases r with
    | @tup a vs ds hx rs =>
      obtain ⟨u, u', rfl, r1, r2⟩ := rs.of2
      refine ⟨a, _, rfl, w.sqT hx, rfl, u, _, rfl, u', _, rfl, rfl, q _ ((e.setVal i r1).setVal j r2) (by rw [List.length_set, List.length_set]) fun k hk => ?_⟩
      rw [List.getElem?_set_ne (fun z => hk (by rw [z]; simp)), List.getElem?_set_ne (fun z => hk (by rw [z]; simp))]
  · exact (show False from q).elim
theorem sg_three {i j l : Nat} : SG S (gTup S.K 3 (gCons (gName i) (gCons (gName j) (gCons (gName l) gNil)))) ρ un3 (fun p => ((ρ.set i (.val p.1)).set j (.val p.2.1)).set l (.val p.2.2)) [i, j, l] := fun x v σ H W H0 Q E e w r q => by
  unfold un3 at q
  split at q
  · cases r with
    | @tup a vs ds hx rs =>
      obtain ⟨u, u', u'', rfl, r1, r2, r3⟩ := rs.of3
      refine ⟨a, _, rfl, w.sqT hx, rfl, u, _, rfl, u', _, rfl, u'', _, rfl, rfl, q _ (((e.setVal i r1).setVal j r2).setVal l r3) (by rw [List.length_set, List.length_set, List.length_set]) fun k hk => ?_⟩
      rw [List.getElem?_set_ne (fun z => hk (by rw [z]; simp)), List.getElem?_set_ne (fun z => hk (by rw [z]; simp)), List.getElem?_set_ne (fun z => hk (by rw [z]; simp))]
  · exact (show False from q).elim
end

/-! ### comprehensions -/
def wipeS (ρ : List Sl) : List Nat → List Sl
  | [] => ρ
  | v :: vs => (wipeS ρ vs).set v .no
section
variable {K : PySem.W.Frag} {W : Wd} {H H0 : Hp} {σ σ' : L2.St} {ρ : List Sl}
theorem EnvR.dropN (e : EnvR K W H H0 σ ρ) (i : Nat) : EnvR K W H H0 (σ.set i none) (ρ.set i .no) where
  dat := fun j d h => by
    obtain ⟨n, h⟩ := getElem?_set_no h (by intro z; cases z)
    rw [List.getElem?_set_ne n]
    exact e.dat j d h
  ow := fun j d h => by
    obtain ⟨n, h⟩ := getElem?_set_no h (by intro z; cases z)
    rw [List.getElem?_set_ne n]
    exact e.ow j d h
  ap := fun j k ds es a hjk h1 h2 h3 => by
    obtain ⟨n1, h1⟩ := getElem?_set_no h1 (by intro z; cases z)
    obtain ⟨n2, h2⟩ := getElem?_set_no h2 (by intro z; cases z)
    rw [List.getElem?_set_ne n1] at h3
    rw [List.getElem?_set_ne n2]
    exact e.ap j k ds es a hjk h1 h2 h3
  ln := by rw [List.length_set, List.length_set, e.ln]
theorem EnvR.wipe (e : EnvR K W H H0 σ ρ) : ∀ vs : List Nat, EnvR K W H H0 (L2.wipe σ vs) (wipeS ρ vs)
  | [] => e
  | v :: vs => (EnvR.wipe e vs).dropN v
theorem wipe_at (σ : L2.St) (i : Nat) : ∀ vs : List Nat, i ∈ vs → i < σ.length → (L2.wipe σ vs)[i]? = some none
  | v :: vs, h, hl => by
    unfold L2.wipe
    by_cases e : v = i
    · subst e
      rw [List.getElem?_set_self (by rw [wipe_length]; exact hl)]
    · rw [List.getElem?_set_ne e]
      exact wipe_at σ i vs ((List.mem_cons.mp h).resolve_left fun z => e z.symm) hl
theorem wipe_same {vs js : List Nat} (hl : σ'.length = σ.length) (h : ∀ i, i ∉ js → σ'[i]? = σ[i]?) (hj : ∀ i ∈ js, i ∈ vs) : L2.wipe σ' vs = L2.wipe σ vs := by
  apply List.ext_getElem?
  intro i
  by_cases hi : i ∈ vs
  · by_cases hlt : i < σ.length
    · rw [wipe_at σ i vs hi hlt, wipe_at σ' i vs hi (by rw [hl]; exact hlt)]
    · rw [List.getElem?_eq_none (by rw [wipe_length, hl]; omega), List.getElem?_eq_none (by rw [wipe_length]; omega)]
  · rw [wipe_out hi, wipe_out hi]
    exact h i fun z => hi (hj i z)
theorem wipe_wipe (σ : L2.St) (vs : List Nat) : L2.wipe (L2.wipe σ vs) vs = L2.wipe σ vs :=
  wipe_same (js := vs) (wipe_length σ vs) (fun i hi => wipe_out hi) fun _ z => z
end
section
variable {S : Sx} {ρ : List Sl}
theorem sb_yes : SB S tYes ρ (pure true) := fun σ H W H0 Q e w q => q W H (Step.refl w)
def Sx.calm (S : Sx) : Sx := ⟨S.K, S.mg, E0⟩
theorem so_lc {T : Type} {wi : TI} {g : TG} {tt : TT} {te : TE} {vs js : List Nat} {rit : M (List D)} {tg : D → M T} {ρ' : T → List Sl} {rt : T → M Bool} {re : T → M D} (hi : SI S wi ρ rit)
    (hg : SG S g (wipeS ρ vs) tg ρ' js) (hj : ∀ i ∈ js, i ∈ vs) (ht : ∀ t, SB S.calm tt (ρ' t) (rt t)) (he : ∀ t, SE S.calm te (ρ' t) (re t)) :
    SO S (tLc wi g tt te vs) ρ (lcF rit tg rt re) := fun σ H W H0 Q e w q => by
  refine hi σ H W H0 _ e w (rit.mono (fun xs hx J W1 H1 s1 wk => ?_) (fun _ z => z) q)
  intro D hD
  have nx : ∀ {W' H'} (x : Exn), False → XPost S.calm W' H' x := fun _ z => z.elim
  refine ⟨fun i m H' => m = xs.length - i ∧ i ≤ xs.length ∧ ∃ W' ws acc, Step W1 H1 W' H' ∧ H' D = some (.lst ws) ∧ W'.P D = none ∧ W'.N D = none ∧ Reps S.K W' ws acc ∧
      (lcM (fun x => tg x >>= fun t => lcIf (rt t) (re t)) (xs.drop i) acc).run (PostO S.K Q W H) (fun _ => False), ⟨xs.length, by simp, Nat.zero_le _, W1, [], [], Step.raw s1.ok hD, upd_same, (nopen s1.ok hD).1, (nopen s1.ok hD).2, .nil, hx⟩, ?_⟩
  rintro i m H' ⟨rfl, hle, W', ws, acc, s2, hD', hP, hN, rs, hr⟩
  by_cases hlt : i < xs.length
  · refine .inr ⟨wk.go i W' H' s2.le s2.ok hlt, fun H'' => i + 1 ≤ xs.length ∧ ∃ W' ws acc, Step W1 H1 W' H'' ∧ H'' D = some (.lst ws) ∧ W'.P D = none ∧ W'.N D = none ∧ Reps S.K W' ws acc ∧
      (lcM (fun x => tg x >>= fun t => lcIf (rt t) (re t)) (xs.drop (i + 1)) acc).run (PostO S.K Q W H) (fun _ => False), fun H'' hn => ⟨xs.length - (i + 1), by omega, rfl, hn.1, hn.2⟩, fun v H2 hy => ?_⟩
    obtain ⟨W2, s3, r3⟩ := wk.yld i xs[i] W' H' v H2 s2.le s2.ok (List.getElem?_eq_getElem hlt) hy
    rw [List.drop_eq_getElem_cons hlt] at hr
    have keep : ∀ {Wa Wb Ha Hb ws}, Step Wa Ha Wb Hb → Ha D = some (.lst ws) → Wa.P D = none → Wa.N D = none → Hb D = some (.lst ws) ∧ Wb.P D = none ∧ Wb.N D = none := fun {Wa Wb Ha Hb ws} s h1 h2 h3 => by
      have nn : Ha D ≠ none := by rw [h1]; intro z; cases z
      exact ⟨s.old D _ h1 h3, (s.newP D nn).trans h2, (s.newN D nn).trans h3⟩
    obtain ⟨k1, k2, k3⟩ := keep s3 hD' hP hN
    have e2 : EnvR S.K W2 H2 H0 (L2.wipe σ vs) (wipeS ρ vs) := (e.step (s1.trans w (s2.trans s1.ok s3))).wipe vs
    have s4 := s2.trans s1.ok s3
    refine hg xs[i] v _ H2 W2 H0 _ (fun _ => False) e2 s3.ok r3 ((tg xs[i]).mono (fun t h1 σ' e3 hl3 hn3 => ?_) (fun _ z => z) hr)
    refine ⟨(wipe_same hl3 hn3 hj).trans (wipe_wipe σ vs), ?_⟩
    refine (ht t).go e3 s3.ok h1 nx fun b W3 H3 h2 s5 e4 => ?_
    obtain ⟨k4, k5, k6⟩ := keep s5 k1 k2 k3
    cases b with
    | false => exact iteF ⟨hlt, W3, ws, acc, s4.trans s1.ok s5, k4, k5, k6, rs.mono (s3.le.trans s5.le), h2⟩
    | true =>
      refine iteT ((he t).go e4 s5.ok h2 nx fun d u W4 H4 h3 s6 r6 e5 => ?_)
      obtain ⟨k7, k8, k9⟩ := keep s6 k4 k5 k6
      have rs4 : Reps S.K W4 ws acc := rs.mono (s3.le.trans (s5.le.trans s6.le))
      have hlen : ws.length < sizeLine := by rw [rs4.length]; exact h3.1
      refine ⟨ws, k7, hlen, hlt, W4, ws ++ [u], acc ++ [d], ?_, upd_same, k8, k9, rs4.append (.cons r6 .nil), h3.2⟩
      have s7 := (s4.trans s1.ok s5).trans s1.ok s6
      refine ⟨s7.le, s7.ok.put k8 k9 k7, fun b o ho hnn => ?_, s7.newP, s7.newN⟩
      · rw [upd_ne (ne_of_none ho hD)]
        exact s7.old b o ho hnn
  · have ei : i = xs.length := by omega
    subst ei
    rw [List.drop_length] at hr
    refine .inl ⟨wk.stop W' H' s2.le s2.ok, ?_⟩
    exact hr D ws W' H' (s1.trans w s2) (s1.free0 w hD) hD' hP hN rs
end
end Ev

namespace Ev
open PySem PySem.Spec L2
variable [Tb]

/-! ### statements -/
structure Now (S : Sx) (Wf W0 : Wd) (H0 : Hp) (W : Wd) (H : Hp) (σ : L2.St) (ρ : List Sl) : Prop where
  env : EnvR S.K W H H0 σ ρ
  ok : WOk W H
  st : Step W0 H0 W H
  fl : Le Wf W
def RetV (own : Bool) (K : PySem.W.Frag) (W : Wd) (H H0 : Hp) (v : V) (d : D) : Prop := match own with
  | false => Rep K W v d
  | true => ∃ a vs ds, v = .ref a ∧ d = .lst ds ∧ H a = some (.lst vs) ∧ W.P a = none ∧ W.N a = none ∧ H0 a = none ∧ Reps K W vs ds
def FlPost (S : Sx) (own : Bool) (Wf W0 : Wd) (H0 : Hp) {T L : Type} (enc : T → List Sl) (encL : L → List Sl) (D : Ends) : Fl T L → Prop
  | .nx s => ∀ W H σ, Now S Wf W0 H0 W H σ (enc s) → D.nx σ H
  | .rt d => ∀ W H v, Step W0 H0 W H → RetV own S.K W H H0 v d → D.rt v H
  | .bk l => ∀ W H σ, Now S Wf W0 H0 W H σ (encL l) → D.bk σ H
  | .ct l => ∀ W H σ, Now S Wf W0 H0 W H σ (encL l) → D.ct σ H
def SS (S : Sx) (own : Bool) (t : TS) (ρ : List Sl) {T L : Type} (enc : T → List Sl) (encL : L → List Sl) (m : M (Fl T L)) : Prop :=
  ∀ Wf W0 H0 W H σ D, WOk W0 H0 → Now S Wf W0 H0 W H σ ρ → m.run (FlPost S own Wf W0 H0 enc encL D) (XPost S W0 H0) → t D σ H
section
variable {S : Sx} {own : Bool} {ρ : List Sl} {T U L : Type} {enc : T → List Sl} {encU : U → List Sl} {encL : L → List Sl} {ta tb : TS}
theorem Now.step {Wf W0 W W' : Wd} {H0 H H' : Hp} {σ : L2.St} (n : Now S Wf W0 H0 W H σ ρ) (w : WOk W0 H0) (s : Step W H W' H') : Now S Wf W0 H0 W' H' σ ρ := ⟨n.env.step s, s.ok, n.st.trans w s, n.fl.trans s.le⟩
theorem ss_seq {m : M (Fl T L)} {k : T → M (Fl U L)} (ha : SS S own ta ρ enc encL m) (hb : ∀ s, SS S own tb (enc s) encU encL (k s)) : SS S own (tSeq ta tb) ρ encU encL (seqM m k) := fun Wf W0 H0 W H σ D w n q => by
  refine ha Wf W0 H0 W H σ _ w n (m.mono (fun f hf => ?_) (fun _ z => z) q)
  cases f with
  | nx s => exact fun W' H' σ' n' => hb s Wf W0 H0 W' H' σ' D w n' hf
  | rt d => exact hf
  | bk l => exact hf
  | ct l => exact hf
theorem ss_next {s : T} (h : Weak ρ (enc s)) : SS S own tNext ρ enc encL (pure (.nx s)) := fun Wf W0 H0 W H σ D w n q => q W H σ ⟨n.env.weak h, n.ok, n.st, n.fl⟩
theorem ss_brk {l : L} (h : Weak ρ (encL l)) : SS S own tBreak ρ enc encL (pure (.bk l)) := fun Wf W0 H0 W H σ D w n q => q W H σ ⟨n.env.weak h, n.ok, n.st, n.fl⟩
theorem ss_cont {l : L} (h : Weak ρ (encL l)) : SS S own tCont ρ enc encL (pure (.ct l)) := fun Wf W0 H0 W H σ D w n q => q W H σ ⟨n.env.weak h, n.ok, n.st, n.fl⟩
/-- a block's end reached -/
theorem ss_end {m : T} (h : SS S own ta ρ enc encL (pure (.nx m))) : SS S own ta ρ enc encL (pure (.nx m)) := h
theorem ss_never : SS S own tNever ρ enc encL fail := fun Wf W0 H0 W H σ D w n q => (show False from q).elim
/-- slots forgotten ahead -/
theorem ss_weak {ρ' : List Sl} {m : M (Fl T L)} (hw : Weak ρ ρ') (h : SS S own ta ρ' enc encL m) : SS S own ta ρ enc encL m := fun Wf W0 H0 W H σ D w n q => h Wf W0 H0 W H σ D w ⟨n.env.weak hw, n.ok, n.st, n.fl⟩ q
theorem xpost {W0 W : Wd} {H0 H : Hp} (w : WOk W0 H0) (s : Step W0 H0 W H) (x : Exn) (h : XPost S W0 H0 x) : XPost S W H x := h.after w s
/-- x = e, and what comes behind -/
theorem ss_set {te : TE} {i : Nat} {r : M D} {k : D → M (Fl T L)} (h : SE S te ρ r) (hb : ∀ d, SS S own tb (ρ.set i (.val d)) enc encL (k d)) : SS S own (tSeq (tAsg te (gName i)) tb) ρ enc encL (r >>= k) := fun Wf W0 H0 W H σ D w n q => by
  refine h.go n.env n.ok q (xpost w n.st) fun d v W1 H1 q1 s1 r1 e1 => ?_
  exact hb d Wf W0 H0 W1 H1 _ D w ⟨e1.setVal i r1, s1.ok, n.st.trans w s1, n.fl.trans s1.le⟩ q1
/-- x = a new list, one's own -/
theorem ss_seto {te : TE} {i : Nat} {r : M (List D)} {k : List Ev.D → M (Fl T L)} (h : SO S te ρ r) (hb : ∀ d, SS S own tb (ρ.set i (.own d)) enc encL (k d)) : SS S own (tSeq (tAsg te (gName i)) tb) ρ enc encL (r >>= k) := fun Wf W0 H0 W H σ D w n q => by
  refine h.go n.env n.ok q (xpost w n.st) fun d a vs W1 H1 q1 s1 h0 h1 h2 h3 r1 e1 => ?_
  refine hb d Wf W0 H0 W1 H1 _ D w ⟨e1.setOwn i h1 h2 h3 (n.st.free0 w h0) r1 fun j es _ hj hs => ?_, s1.ok, n.st.trans w s1, n.fl.trans s1.le⟩ q1
  obtain ⟨b, us, g1, g2, _⟩ := n.env.ow j es hj
  rw [g1] at hs
  cases hs
  rw [h0] at g2
  cases g2
/-- a, b = e -/
theorem ss_asg {te : TE} {g : TG} {V' : Type} {r : M D} {tg : D → M V'} {ρ' : V' → List Sl} {js : List Nat} {k : V' → M (Fl T L)} (h : SE S te ρ r) (hg : SG S g ρ tg ρ' js) (hb : ∀ d, SS S own tb (ρ' d) enc encL (k d)) :
    SS S own (tSeq (tAsg te g) tb) ρ enc encL (r >>= fun d => tg d >>= k) := fun Wf W0 H0 W H σ D w n q => by
  refine h.go n.env n.ok q (xpost w n.st) fun d v W1 H1 q1 s1 r1 e1 => ?_
  refine hg d v σ H1 W1 H0 _ _ e1 s1.ok r1 ((tg d).mono (fun t ht σ' e2 _ _ => ?_) (fun _ z => z) q1)
  exact hb t Wf W0 H0 W1 H1 σ' D w ⟨e2, s1.ok, n.st.trans w s1, n.fl.trans s1.le⟩ ht
/-- a, b = x, y with local names -/
theorem ss_par {ts : TA} {i j : Nat} {rs : List (M D)} {k : D → D → M (Fl T L)} (h : SA S ts ρ rs) (hb : ∀ d e, SS S own tb ((ρ.set i (.val d)).set j (.val e)) enc encL (k d e)) :
    SS S own (tSeq (tPar i j ts) tb) ρ enc encL (parM rs k) := fun Wf W0 H0 W H σ D w n q => by
  refine h.go n.env n.ok q (xpost w n.st) fun ds vs W1 H1 q1 s1 r1 e1 => ?_
  match ds, r1, q1 with
  | [d, e], r1, q1 =>
    obtain ⟨v, u, rfl, r, r'⟩ := r1.of2
    exact ⟨v, u, rfl, hb d e Wf W0 H0 W1 H1 _ D w ⟨(e1.setVal i r).setVal j r', s1.ok, n.st.trans w s1, n.fl.trans s1.le⟩ q1⟩
  | [], _, q1 => exact (show False from q1).elim
  | [_], _, q1 => exact (show False from q1).elim
  | _ :: _ :: _ :: _, _, q1 => exact (show False from q1).elim
theorem ss_par3 {ts : TA} {i j l : Nat} {rs : List (M D)} {k : D → D → D → M (Fl T L)} (h : SA S ts ρ rs) (hb : ∀ d e f, SS S own tb (((ρ.set i (.val d)).set j (.val e)).set l (.val f)) enc encL (k d e f)) :
    SS S own (tSeq (tPar3 i j l ts) tb) ρ enc encL (par3M rs k) := fun Wf W0 H0 W H σ D w n q => by
  refine h.go n.env n.ok q (xpost w n.st) fun ds vs W1 H1 q1 s1 r1 e1 => ?_
  match ds, r1, q1 with
  | [d, e, f], r1, q1 =>
    obtain ⟨v, u, z, rfl, r, r', r''⟩ := r1.of3
    exact ⟨v, u, z, rfl, hb d e f Wf W0 H0 W1 H1 _ D w ⟨((e1.setVal i r).setVal j r').setVal l r'', s1.ok, n.st.trans w s1, n.fl.trans s1.le⟩ q1⟩
  | [], _, q1 => exact (show False from q1).elim
  | [_], _, q1 => exact (show False from q1).elim
  | [_, _], _, q1 => exact (show False from q1).elim
  | _ :: _ :: _ :: _ :: _, _, q1 => exact (show False from q1).elim
/-- e; what comes behind -/
theorem ss_expr {te : TE} {r : M D} {k : M (Fl T L)} (h : SE S te ρ r) (hb : SS S own tb ρ enc encL k) : SS S own (tSeq (tDrop te) tb) ρ enc encL (r >>= fun _ => k) := fun Wf W0 H0 W H σ D w n q => by
  refine h.go n.env n.ok q (xpost w n.st) fun d v W1 H1 q1 s1 r1 e1 => ?_
  exact hb Wf W0 H0 W1 H1 σ D w ⟨e1, s1.ok, n.st.trans w s1, n.fl.trans s1.le⟩ q1
theorem ss_expr1 {te : TE} {r : M D} {s : T} (h : SE S te ρ r) (hw : Weak ρ (enc s)) : SS S own (tDrop te) ρ enc encL (r >>= fun _ => pure (.nx s)) := fun Wf W0 H0 W H σ D w n q => by
  refine h.go n.env n.ok q (xpost w n.st) fun d v W1 H1 q1 s1 r1 e1 => ?_
  exact q1 W1 H1 σ ⟨e1.weak hw, s1.ok, n.st.trans w s1, n.fl.trans s1.le⟩
theorem ss_ret {te : TE} {r : M D} (h : SE S te ρ r) : SS S false (tRet te) ρ enc encL (r >>= fun d => pure (.rt d)) := fun Wf W0 H0 W H σ D w n q => by
  refine h.go n.env n.ok q (xpost w n.st) fun d v W1 H1 q1 s1 r1 e1 => ?_
  exact q1 W1 H1 v (n.st.trans w s1) r1
theorem ss_reto {te : TE} {r : M (List D)} (h : SO S te ρ r) : SS S true (tRet te) ρ enc encL (r >>= fun d => pure (.rt (.lst d))) := fun Wf W0 H0 W H σ D w n q => by
  refine h.go n.env n.ok q (xpost w n.st) fun d a vs W1 H1 q1 s1 h0 h1 h2 h3 r1 e1 => ?_
  exact q1 W1 H1 _ (n.st.trans w s1) ⟨a, vs, d, rfl, rfl, h1, h2, h3, n.st.free0 w h0, r1⟩
theorem ss_retv {i : Nat} {ds : List D} (h : ρ[i]? = some (.own ds)) : SS S true (tRet (tVar i)) ρ enc encL (pure (.rt (.lst ds))) := fun Wf W0 H0 W H σ D w n q => by
  obtain ⟨a, vs, h1, h2, h3, h4, h5, h6⟩ := n.env.owL i ds h
  exact ⟨_, h1, q W H _ n.st ⟨a, vs, ds, rfl, rfl, h2, h3, h4, h5, h6⟩⟩
theorem ss_retN : SS S false tRetN ρ enc encL (pure (.rt .non)) := fun Wf W0 H0 W H σ D w n q => q W H _ n.st .non
/-- what was one's own becomes data -/
theorem ss_freeze {i : Nat} {ds : List D} {m : M (Fl T L)} (h : ρ[i]? = some (.own ds)) (hb : SS S own ta (ρ.set i (.val (.lst ds))) enc encL m) : SS S own ta ρ enc encL m := fun Wf W0 H0 W H σ D w n q => by
  obtain ⟨a, vs, h1, h2, h3, h4, h5, h6⟩ := n.env.owL i ds h
  have st := n.st.freeze h5 h2 h3 h4
  have le : Le W ⟨upd W.P a (.lst vs), W.N⟩ := le_freeze h3
  refine hb Wf W0 H0 ⟨upd W.P a (.lst vs), W.N⟩ H σ D w ⟨⟨fun j d hj => ?_, fun j es hj => ?_, fun j k es fs b hjk g1 g2 g3 => ?_, by rw [List.length_set, n.env.ln]⟩, st.ok, st, n.fl.trans le⟩ q
  · by_cases e : i = j
    · subst e
      rw [List.getElem?_set_self (List.getElem?_eq_some_iff.mp h).1] at hj
      cases hj
      exact ⟨_, h1, .lst upd_same (h6.mono le)⟩
    · rw [List.getElem?_set_ne e] at hj
      obtain ⟨v, g1, g2⟩ := n.env.dat j d hj
      exact ⟨v, g1, g2.mono le⟩
  · obtain ⟨e, hj⟩ := getElem?_set_no hj (by intro z; cases z)
    obtain ⟨b, us, g1, g2, g3, g4, g5, g6⟩ := n.env.ow j es hj
    have nb : b ≠ a := fun z => by
      subst z
      exact n.env.ap i j _ _ b e h hj h1 g1
    exact ⟨b, us, g1, g2, by show (upd W.P a (.lst vs)) b = none; rw [upd_ne nb]; exact g3, g4, g5, g6.mono le⟩
  · obtain ⟨_, g1⟩ := getElem?_set_no g1 (by intro z; cases z)
    obtain ⟨_, g2⟩ := getElem?_set_no g2 (by intro z; cases z)
    exact n.env.ap j k es fs b hjk g1 g2 g3
theorem ss_if {tc : TT} {rc : M Bool} {ma mb : M (Fl T L)} (hc : SB S tc ρ rc) (ha : SS S own ta ρ enc encL ma) (hb : SS S own tb ρ enc encL mb) : SS S own (tIfS tc ta tb) ρ enc encL (rc >>= fun k => if k then ma else mb) := fun Wf W0 H0 W H σ D w n q => by
  refine hc.go n.env n.ok q (xpost w n.st) fun b W1 H1 q1 s1 e1 => ?_
  have n1 : Now S Wf W0 H0 W1 H1 σ ρ := ⟨e1, s1.ok, n.st.trans w s1, n.fl.trans s1.le⟩
  cases b with
  | true => exact iteT (ha Wf W0 H0 W1 H1 σ D w n1 q1)
  | false => exact iteF (hb Wf W0 H0 W1 H1 σ D w n1 q1)
/-- a way that leaves -/
def noE : Empty → List Sl := fun e => e.elim
theorem leave_post {Wf W0 : Wd} {H0 : Hp} {D : Ends} {N : L2.St → Hp → Prop} {m : M (Fl Empty L)} (q : (leave (T := T) m).run (FlPost S own Wf W0 H0 enc encL D) (XPost S W0 H0)) :
    m.run (FlPost S own Wf W0 H0 noE encL { D with nx := N }) (XPost S W0 H0) := m.mono (fun f hf => by
  cases f with
  | nx e => exact e.elim
  | rt d => exact hf
  | bk l => exact hf
  | ct l => exact hf) (fun _ z => z) q
theorem ss_ifl {tc : TT} {rc : M Bool} {ma : M (Fl Empty L)} {mb : M (Fl T L)} (hc : SB S tc ρ rc) (ha : SS S own ta ρ noE encL ma) (hb : SS S own tb ρ enc encL mb) :
    SS S own (tSeq (tIfS tc ta tNext) tb) ρ enc encL (rc >>= fun k => if k then leave ma else mb) := fun Wf W0 H0 W H σ D w n q => by
  refine hc.go n.env n.ok q (xpost w n.st) fun b W1 H1 q1 s1 e1 => ?_
  have n1 : Now S Wf W0 H0 W1 H1 σ ρ := ⟨e1, s1.ok, n.st.trans w s1, n.fl.trans s1.le⟩
  cases b with
  | true => exact iteT (ha Wf W0 H0 W1 H1 σ _ w n1 (leave_post q1))
  | false => exact iteF (hb Wf W0 H0 W1 H1 σ D w n1 q1)
/-- raise X(..) of a class without fields -/
theorem ss_raise {x : Str} {C : Addr} (h : S.mg x = some (.ref C)) : SS S own (fun _ σ H => S.E (.ref C) none H) ρ enc encL (raise ⟨x, none⟩) := fun Wf W0 H0 W H σ D w n q =>
  q (.ref C) none W H n.st ⟨C, h, rfl, rfl⟩
/-- xs.append(e) -/
theorem ss_app {i : Nat} {te : TE} {ds : List D} {r : M D} {k : D → M (Fl T L)} (hi : ρ[i]? = some (.own ds)) (h : SE S te ρ r) (hb : ∀ d, SS S own tb (ρ.set i (.own (ds ++ [d]))) enc encL (k d)) :
    SS S own (tSeq (tDrop (tBM S.K "list" rAppend (tVar i) (tCons te tNil))) tb) ρ enc encL (appM ds r k) := fun Wf W0 H0 W H σ D w n q => by
  obtain ⟨a, vs, h1, h2, h3, h4, h5, h6⟩ := n.env.owL i ds hi
  refine ⟨_, h1, .inl ⟨rfl, _, .inl (.inl h2)⟩, ?_⟩
  refine h.go n.env n.ok q (xpost w n.st) fun d v W1 H1 q1 s1 r1 e1 => ?_
  obtain ⟨b, us, g1, g2, g3, g4, g5, g6⟩ := e1.owL i ds hi
  rw [h1] at g1
  cases g1
  refine ⟨a, us, v, rfl, rfl, g2, by rw [g6.length]; exact q1.1, ?_⟩
  have n1 : Step W0 H0 W1 H1 := n.st.trans w s1
  have nP : ∀ b o, W1.P b = some o → b ≠ a := fun b o e z => by subst z; rw [g3] at e; cases e
  have w1 : WOk W1 (upd H1 a (.lst (us ++ [v]))) := s1.ok.put g3 g4 g2
  refine hb d Wf W0 H0 W1 _ σ D w ⟨⟨fun j d' hj => ?_, fun j es hj => ?_, fun j k es fs b hjk f1 f2 f3 => ?_, by rw [List.length_set, e1.ln]⟩, w1, ⟨n1.le, w1, fun b o e hnn => ?_, n1.newP, n1.newN⟩, n.fl.trans s1.le⟩ q1.2
  · exact e1.dat j d' (getElem?_set_no hj (by intro z; cases z)).2
  · by_cases e : i = j
    · subst e
      rw [List.getElem?_set_self (List.getElem?_eq_some_iff.mp hi).1] at hj
      cases hj
      exact ⟨a, _, h1, upd_same, g3, g4, g5, .lst (g6.append (.cons r1 .nil))⟩
    · rw [List.getElem?_set_ne e] at hj
      obtain ⟨b, zs, f1, f2, f3⟩ := e1.ow j es hj
      have nb : b ≠ a := fun z => by
        subst z
        exact e1.ap i j _ _ b e hi hj h1 f1
      exact ⟨b, zs, f1, by rw [upd_ne nb]; exact f2, f3.1, f3.2.1, f3.2.2.1, f3.2.2.2.upd (soft_lst g2)⟩
  · have get : ∀ {j : Nat} {es : OwnC}, (ρ.set i (.own (ds ++ [d])))[j]? = some (.ob es) → ∃ fs, ρ[j]? = some (.ob fs) := fun {j es} hj => by
      by_cases e : i = j
      · subst e; exact ⟨_, hi⟩
      · rw [List.getElem?_set_ne e] at hj; exact ⟨_, hj⟩
    obtain ⟨_, f1⟩ := get f1
    obtain ⟨_, f2⟩ := get f2
    exact e1.ap j k _ _ b hjk f1 f2 f3
  · rw [upd_ne (ne_of_none e g5)]
    exact n1.old b o e hnn
/-- xs.extend(e) -/
theorem ss_ext {i : Nat} {te : TE} {ds : List D} {r : M D} {k : List Ev.D → M (Fl T L)} (hi : ρ[i]? = some (.own ds)) (h : SE S te ρ r) (hb : ∀ d, SS S own tb (ρ.set i (.own (ds ++ d))) enc encL (k d)) :
    SS S own (tSeq (tDrop (tBM S.K "list" rExtend (tVar i) (tCons te tNil))) tb) ρ enc encL (extM ds r k) := fun Wf W0 H0 W H σ D w n q => by
  obtain ⟨a, vs, h1, h2, h3, h4, h5, h6⟩ := n.env.owL i ds hi
  refine ⟨_, h1, .inl ⟨rfl, _, .inl (.inl h2)⟩, ?_⟩
  refine h.go n.env n.ok q (xpost w n.st) fun d v W1 H1 q1 s1 r1 e1 => ?_
  obtain ⟨b, us, g1, g2, g3, g4, g5, g6⟩ := e1.owL i ds hi
  rw [h1] at g1
  cases g1
  cases r1 with
  | @lst c zs es hc rz =>
    refine ⟨a, c, us, zs, rfl, rfl, g2, s1.ok.sub _ _ hc, by rw [g6.length, rz.length]; exact q1.1, ?_⟩
    have n1 : Step W0 H0 W1 H1 := n.st.trans w s1
    have nP : ∀ b o, W1.P b = some o → b ≠ a := fun b o e z => by subst z; rw [g3] at e; cases e
    have w1 : WOk W1 (upd H1 a (.lst (us ++ zs))) := s1.ok.put g3 g4 g2
    refine hb es Wf W0 H0 W1 _ σ D w ⟨⟨fun j d' hj => ?_, fun j es' hj => ?_, fun j k es' fs b hjk f1 f2 f3 => ?_, by rw [List.length_set, e1.ln]⟩, w1, ⟨n1.le, w1, fun b o e hnn => ?_, n1.newP, n1.newN⟩, n.fl.trans s1.le⟩ q1.2
    · exact e1.dat j d' (getElem?_set_no hj (by intro z; cases z)).2
    · by_cases e : i = j
      · subst e
        rw [List.getElem?_set_self (List.getElem?_eq_some_iff.mp hi).1] at hj
        cases hj
        exact ⟨a, _, h1, upd_same, g3, g4, g5, .lst (g6.append rz)⟩
      · rw [List.getElem?_set_ne e] at hj
        obtain ⟨b, zs, f1, f2, f3⟩ := e1.ow j es' hj
        have nb : b ≠ a := fun z => by
          subst z
          exact e1.ap i j _ _ b e hi hj h1 f1
        exact ⟨b, zs, f1, by rw [upd_ne nb]; exact f2, f3.1, f3.2.1, f3.2.2.1, f3.2.2.2.upd (soft_lst g2)⟩
    · have get : ∀ {j : Nat} {es' : OwnC}, (ρ.set i (.own (ds ++ es)))[j]? = some (.ob es') → ∃ fs, ρ[j]? = some (.ob fs) := fun {j es'} hj => by
        by_cases e : i = j
        · subst e; exact ⟨_, hi⟩
        · rw [List.getElem?_set_ne e] at hj; exact ⟨_, hj⟩
      obtain ⟨_, f1⟩ := get f1
      obtain ⟨_, f2⟩ := get f2
      exact e1.ap j k _ _ b hjk f1 f2 f3
    · rw [upd_ne (ne_of_none e g5)]
      exact n1.old b o e hnn
  | _ => exact (show False from q1).elim
/-- for -/
theorem ss_for {V' : Type} {wi : TI} {g : TG} {rit : M (List D)} {tg : D → M V'} {ρ' : T → V' → List Sl} {js : List Nat} {s0 : T} {body : V' → T → M (Fl T T)} (hi : SI S wi ρ rit) (hw : Weak ρ (enc s0)) (hg : ∀ s, SG S g (enc s) tg (ρ' s) js)
    (hb : ∀ s v, SS S own tb (ρ' s v) enc enc (body v s)) : SS S own (tFor wi g tb) ρ enc encL (forF rit tg s0 body) := fun Wf W0 H0 W H σ D w n q => by
  refine hi σ H W H0 _ n.env n.ok (rit.mono (fun xs hx J W1 H1 s1 wk => ?_) (xpost w n.st) q)
  have n1 : Step W0 H0 W1 H1 := n.st.trans w s1
  have fl1 : Le Wf W1 := n.fl.trans s1.le
  have low : ∀ {W' H' σ' s}, Now S W1 W0 H0 W' H' σ' (enc s) → Now S Wf W0 H0 W' H' σ' (enc s) := fun now => ⟨now.env, now.ok, now.st, fl1.trans now.fl⟩
  refine ⟨fun i m σ' H' => m = xs.length - i ∧ i ≤ xs.length ∧ ∃ W' s, Now S W1 W0 H0 W' H' σ' (enc s) ∧ (forM (fun x s => tg x >>= fun v => body v s) (xs.drop i) s).run (FlPost S own Wf W0 H0 enc encL D) (XPost S W0 H0),
    ⟨xs.length, by simp, Nat.zero_le _, W1, s0, ⟨(n.env.step s1).weak hw, s1.ok, n1, Le.refl W1⟩, hx⟩, ?_⟩
  rintro i m σ' H' ⟨rfl, hle, W', s, now, hr⟩
  by_cases hlt : i < xs.length
  · refine .inr ⟨wk.go i W' H' now.fl now.ok hlt, fun σ2 H2 => i + 1 ≤ xs.length ∧ ∃ W' s, Now S W1 W0 H0 W' H2 σ2 (enc s) ∧ (forM (fun x s => tg x >>= fun v => body v s) (xs.drop (i + 1)) s).run (FlPost S own Wf W0 H0 enc encL D) (XPost S W0 H0),
      fun σ2 H2 hn => ⟨xs.length - (i + 1), by omega, rfl, hn⟩, fun v H2 hy => ?_⟩
    obtain ⟨W2, s3, r3⟩ := wk.yld i xs[i] W' H' v H2 now.fl now.ok (List.getElem?_eq_getElem hlt) hy
    rw [List.drop_eq_getElem_cons hlt] at hr
    refine hg s xs[i] v σ' H2 W2 H0 _ _ (now.env.step s3) s3.ok r3 ((tg xs[i]).mono (fun t ht σ2 e2 _ _ => ?_) (fun _ z => z) hr)
    have n2 : Now S W1 W0 H0 W2 H2 σ2 (ρ' s t) := ⟨e2, s3.ok, now.st.trans w s3, now.fl.trans s3.le⟩
    refine hb s t W1 W0 H0 W2 H2 σ2 _ w n2 ((body t s).mono (fun f hf => ?_) (fun _ z => z) ht)
    cases f with
    | nx s' => exact fun W3 H3 σ3 n3 => ⟨hlt, W3, s', n3, hf⟩
    | ct s' => exact fun W3 H3 σ3 n3 => ⟨hlt, W3, s', n3, hf⟩
    | bk s' => exact fun W3 H3 σ3 n3 => hf W3 H3 σ3 (low n3)
    | rt d => exact hf
  · have ei : i = xs.length := by omega
    subst ei
    rw [List.drop_length] at hr
    exact .inl ⟨wk.stop W' H' now.fl now.ok, hr W' H' σ' (low now)⟩
/-- while -/
theorem ss_while {tc : TT} {s0 : T} {c : T → M Bool} {body : T → M (Fl T T)} (hw : Weak ρ (enc s0)) (hc : ∀ s, SB S tc (enc s) (c s)) (hb : ∀ s, SS S own tb (enc s) enc enc (body s)) :
    SS S own (tWhile tc tb) ρ enc encL (whileM c body s0) := fun Wf W0 H0 W H σ D w n q => by
  obtain ⟨k, q⟩ := q
  refine ⟨fun m σ' H' => ∃ W' s, Now S Wf W0 H0 W' H' σ' (enc s) ∧ (whileN c body m s).run (FlPost S own Wf W0 H0 enc encL D) (XPost S W0 H0), ⟨k, W, s0, ⟨n.env.weak hw, n.ok, n.st, n.fl⟩, q⟩, ?_⟩
  rintro m σ' H' ⟨W', s, now, hr⟩
  cases m with
  | zero => exact (show False from hr).elim
  | succ m =>
    refine (hc s).go now.env now.ok hr (xpost w now.st) fun b W1 H1 q1 s1 e1 => ?_
    have n1 : Now S Wf W0 H0 W1 H1 σ' (enc s) := ⟨e1, s1.ok, now.st.trans w s1, now.fl.trans s1.le⟩
    cases b with
    | false => exact iteF (q1 W1 H1 σ' n1)
    | true =>
      refine iteT ⟨fun σ2 H2 => ∃ W' s, Now S Wf W0 H0 W' H2 σ2 (enc s) ∧ (whileN c body m s).run (FlPost S own Wf W0 H0 enc encL D) (XPost S W0 H0), fun σ2 H2 hn => ⟨m, Nat.lt_succ_self m, hn⟩, ?_⟩
      refine hb s Wf W0 H0 W1 H1 σ' _ w n1 ((body s).mono (fun f hf => ?_) (fun _ z => z) q1)
      cases f with
      | nx s' => exact fun W3 H3 σ3 n3 => ⟨W3, s', n3, hf⟩
      | ct s' => exact fun W3 H3 σ3 n3 => ⟨W3, s', n3, hf⟩
      | bk s' => exact hf
      | rt d => exact hf
end
end Ev

namespace Ev
open PySem PySem.Spec PyProof.Rows L2
variable [Tb]

/-! ### defs -/
section
variable (P : Program) (w : World) (K : PySem.W.Frag) (mg : Str → Option Value) (base : Heap)
/-- a def keeps a promise wherever nothing is being written out -/
structure GOk (qg : Bool) (k : Nat) (f : Addr) (fd : FuncData) (ps : List Str) (sp : Sp) : Prop where
  len : ∀ vs H Q E, sp vs H Q E → vs.length = ps.length
  run : ∀ (A : Around) (outer : List Env) (s : Shared) (H : Hp) (args : Args) (us : List Value) (vs : List V) (Q : VK) (E : XK),
    Room k A → (qg = true → A.guards = some []) → Env0 P w K mg base A outer s H → BindsTo s fd args (ps.zip us) → Vals vs us → sp vs H Q E →
      codeAny (model P w) A (.call (.ref f) args) (CR (L2.CX P w) outer P w H s Q E) s
/-- what a def does with data -/
def spD (own : Bool) (n : Nat) (F : List D → M D) : Sp := fun vs H Q E => ∃ W ds, WOk W H ∧ Reps K W vs ds ∧ ds.length = n ∧
  (F ds).run (fun d => ∀ W' H' v, Step W H W' H' → RetV own K W' H' H v d → Q v H') (XPost ⟨K, mg, E⟩ W H)
end
def startS (n : Nat) (ds : List D) : List Sl := ds.map .val ++ List.replicate (n - ds.length) .no
def enc0 (n : Nat) : Unit → List Sl := fun _ => List.replicate n .no
theorem weak_no : ∀ {ρ : List Sl} {n : Nat}, ρ.length = n → Weak ρ (List.replicate n .no)
  | [], _, rfl => .nil
  | _ :: r, _, rfl => .no (weak_no (ρ := r) rfl)
section
variable {K : PySem.W.Frag} {W : Wd} {H : Hp}
theorem env_start {N : List Str} {vs : List V} {ds : List D} (r : Reps K W vs ds) : EnvR K W H H (L2.start N vs) (startS N.length ds) where
  dat := fun i d h => by
    unfold startS at h
    by_cases hi : i < ds.length
    · rw [List.getElem?_append_left (by rw [List.length_map]; exact hi), List.getElem?_map, Option.map_eq_some_iff] at h
      obtain ⟨d', e1, e2⟩ := h
      cases e2
      obtain ⟨v, e3, r3⟩ := r.get e1
      refine ⟨v, ?_, r3⟩
      unfold L2.start
      rw [List.getElem?_append_left (by rw [List.length_map, r.length]; exact hi), List.getElem?_map, e3]
      rfl
    · rw [List.getElem?_append_right (by rw [List.length_map]; omega), List.getElem?_replicate] at h
      split at h <;> cases h
  ow := fun i d h => by
    unfold startS at h
    by_cases hi : i < ds.length
    · rw [List.getElem?_append_left (by rw [List.length_map]; exact hi), List.getElem?_map, Option.map_eq_some_iff] at h
      obtain ⟨d', e1, e2⟩ := h
      cases e2
    · rw [List.getElem?_append_right (by rw [List.length_map]; omega), List.getElem?_replicate] at h
      split at h <;> cases h
  ap := fun i j d es a _ h _ _ => by
    unfold startS at h
    by_cases hi : i < ds.length
    · rw [List.getElem?_append_left (by rw [List.length_map]; exact hi), List.getElem?_map, Option.map_eq_some_iff] at h
      obtain ⟨d', e1, e2⟩ := h
      cases e2
    · rw [List.getElem?_append_right (by rw [List.length_map]; omega), List.getElem?_replicate] at h
      split at h <;> cases h
  ln := by
    unfold L2.start startS
    rw [List.length_append, List.length_append, List.length_map, List.length_map, List.length_replicate, List.length_replicate, r.length]
end
section
variable {P : Program} {w : World} {K : PySem.W.Frag} {mg : Str → Option Value} {base : Heap}
/-- from a body that is run to a def that is called -/
theorem g_fn {qg : Bool} {x qual : Str} {st : Stmt} {f : Addr} {fd : FuncData} {N ps : List Str} {k : Nat} {sp : Sp} (F : L2.Fun K x qual st f fd) (sc : FnScope N ps (defScope st)) (len : ∀ vs H Q E, sp vs H Q E → vs.length = ps.length)
    (hbody : ∀ (cdv : Value) (A : Around) (outer : List Env) (s : Shared) (H : Hp) (vs : List V) (Q : VK) (E : XK), fd.code = cdv →
      Room k (A.deeper (envOfC qual (defScope st) s.heap.objs.size f cdv)) → (qg = true → A.guards = some []) → sp vs H Q E →
        ∃ t, PSs (cxOf (L2.CX P w) P w K mg base N qual (defScope st) f cdv A outer s H E) (defBody st) t ∧ t { nx := fun _ H' => Q .non H', rt := Q } (L2.start N vs) H) :
    GOk P w K mg base qg (k + 1) f fd ps sp := by
  obtain ⟨oc, od, kV, doc, pm, an, cdv, ct, osl, rfl, lk, hcd⟩ := F.ex
  constructor
  · exact len
  intro A outer s H args us vs Q E hr hg e0 hb r hsp
  have KX : K.In s.heap := e0.mod.kin.keeps (fun b o e => (e0.bs b o e).1)
  have hkind : ∀ y ∈ ps.zip us, (defScope st).names.lookup y.1 = some .local ∨ ((defScope st).names.lookup y.1 = some .cell ∧ ((cellsFrom (s.heap.objs.size + 1) (defScope st).names []).lookup y.1).isSome = true) := by
    rintro ⟨n, v⟩ hy
    cases sc.par n (List.of_mem_zip hy).1 with
    | inl q => exact .inl q
    | inr q => exact .inr ⟨q, PySem.W.cellsFrom_some _ _ _ (.inl q)⟩
  apply codeAny_call_function hr.depth (KX _ _ lk) rfl sc.co sc.gen rfl (PySem.W.codeRec_of KX hcd)
  apply hb
  apply wpAny_newFunctionEnv_cells sc.kind hkind
  rintro env rfl s1 x1
  obtain ⟨t, ht, hq⟩ := hbody cdv A outer s H vs Q E rfl (hr.deeper _) hg hsp
  have I : L2.Inv (cxOf (L2.CX P w) P w K mg base N qual (defScope st) f cdv A outer s H E) [] (L2.start N vs) H s1 :=
    inv_start sc hr.hd e0 (len _ _ _ _ hsp) r x1
  have lim : s.heap.NoLimit := e0.mod.nolimit.keeps (fun b o e => (e0.bs b o e).1)
  refine ⟨lim.keeps x1.toInCall.keep, codeAny_func (wpAny_mono (ht.run [] s1 (L2.start N vs) H _ I hq) ?_ (fun _ _ z => z))⟩
  intro fl s' hs
  match fl, hs with
  | .ret u, ⟨v, σ', H', J, rv, q⟩ => exact ⟨v, H', J.os, J.bare, J.base, J.hok, rv, q⟩
  | .next, ⟨σ', H', J, q⟩ => exact ⟨V.non, H', J.os, J.bare, J.base, J.hok, rfl, q⟩
  | .brk, ⟨_, _, _, q⟩ => exact q.elim
  | .cont, ⟨_, _, _, q⟩ => exact q.elim
/-- .. told by data -/
theorem g_of {qg : Bool} {x qual : Str} {st : Stmt} {f : Addr} {fd : FuncData} {N ps : List Str} {k : Nat} (own : Bool) {F : List D → M (Fl Unit Empty)} (Fn : L2.Fun K x qual st f fd) (sc : FnScope N ps (defScope st))
    (hbody : ∀ (cdv : Value) (A : Around) (outer : List Env) (s : Shared) (H : Hp) (E : XK), fd.code = cdv →
      Room k (A.deeper (envOfC qual (defScope st) s.heap.objs.size f cdv)) → (qg = true → (A.deeper (envOfC qual (defScope st) s.heap.objs.size f cdv)).guards = some []) →
        ∃ t, PSs (cxOf (L2.CX P w) P w K mg base N qual (defScope st) f cdv A outer s H E) (defBody st) t ∧
          ∀ ds, ds.length = ps.length → SS ⟨K, mg, E⟩ own t (startS N.length ds) (enc0 N.length) noE (F ds)) :
    GOk P w K mg base qg (k + 1) f fd ps (spD K mg own ps.length (fun ds => endB own (F ds))) := by
  refine g_fn Fn sc ?_ ?_
  · rintro vs H Q E ⟨W, ds, _, r, l, _⟩
    rw [r.length]
    exact l
  · rintro cdv A outer s H vs Q E hcd hr hg ⟨W, ds, wk, r, l, q⟩
    obtain ⟨t, p, sem⟩ := hbody cdv A outer s H E hcd hr hg
    refine ⟨t, p, sem ds l W W H W H (L2.start N vs) _ wk ⟨env_start r, wk, Step.refl wk, Le.refl W⟩ ?_⟩
    cases own with
    | false =>
      refine (F ds).mono (fun f hf => ?_) (fun _ z => z) q
      cases f with
      | nx _ => exact fun W' H' σ n => hf W' H' .non n.st .non
      | rt d => exact hf
      | bk e => exact e.elim
      | ct e => exact e.elim
    | true =>
      refine (F ds).mono (fun f hf => ?_) (fun _ z => z) q
      cases f with
      | nx _ => exact (show False from hf).elim
      | rt d => exact hf
      | bk e => exact e.elim
      | ct e => exact e.elim
theorem GOk.mono {qg : Bool} {j k : Nat} {f : Addr} {fd : FuncData} {ps : List Str} {sp : Sp} (G : GOk P w K mg base qg j f fd ps sp) (h : j ≤ k) : GOk P w K mg base qg k f fd ps sp :=
  ⟨G.len, fun A outer s H args us vs Q E hr => G.run A outer s H args us vs Q E (hr.mono h)⟩
/-- the same by another telling -/
theorem GOk.imp {qg : Bool} {k : Nat} {f : Addr} {fd : FuncData} {ps : List Str} {sp sp' : Sp} (G : GOk P w K mg base qg k f fd ps sp) (h : ∀ vs H Q E, sp' vs H Q E → sp vs H Q E) : GOk P w K mg base qg k f fd ps sp' :=
  ⟨fun vs H Q E q => G.len vs H Q E (h _ _ _ _ q), fun A outer s H args us vs Q E hr hg he hb hv hs => G.run A outer s H args us vs Q E hr hg he hb hv (h _ _ _ _ hs)⟩
end

/-! ### calls -/
def tCallG (sp : Sp) (E : XK) (t : TA) : TE := fun σ H Q => t σ H fun vs H1 => sp vs H1 Q E
section
variable {X : Cx} {qg : Bool} {k : Nat} {f : Addr} {fd : FuncData} {ps : List Str} {sp : Sp} {E : XK} {x : Str} {p pos : Pos} {e : Expr} {es : List Expr} {t : TA}
theorem run_g {pins : List (Addr × Obj)} {σ : L2.St} {H : Hp} {s : Shared} {Q : VK} {us : List Value} {vs : List V} (G : GOk X.prog X.w X.K X.mg X.base qg k f fd ps sp) (hr : Room k X.A) (hg : qg = true → X.A.guards = some [])
    (hb : Binds X.K fd ps []) (hx : Passes (L2.CX X.prog X.w) X E) (I : L2.Inv X pins σ H s) (r : Vals vs us) (h : sp vs H Q E) : wpAny (model X.prog X.w) X.A (call (.ref f) us) (EP X pins σ Q) X.xe s := by
  have hl : (us ++ []).length = ps.length := by
    rw [List.append_nil, ← r.length]
    exact G.len _ _ _ _ h
  have b2 := hb s us I.kIn hl
  rw [List.append_nil] at b2
  apply wpAny_call
  refine codeAny_mono (G.run X.A X.stack s H ⟨us, []⟩ us vs Q E hr hg I.env0 b2 r h) ?_
  intro r' s' hq
  match r', hq with
  | .error e, hq => exact hx pins σ H s e s' I hq
  | .ok (.ret u), hq => exact I.after hq
  | .ok .next, hq => exact False.elim hq
  | .ok .brk, hq => exact False.elim hq
  | .ok .cont, hq => exact False.elim hq
theorem pe_g (G : GOk X.prog X.w X.K X.mg X.base qg k f fd ps sp) (hr : Room k X.A) (hg : qg = true → X.A.guards = some []) (hgl : Gl X x) (hm : X.mg x = some (.ref f)) (hk : PySem.W.keepIn X.K (.ref f) = true) (hb : Binds X.K fd ps []) (hx : Passes (L2.CX X.prog X.w) X E)
    (ha : PA X (e :: es) t) (hdb : (x == ("__debug__" : Str)) = false := by decide) (he : starEach (e :: es) X.env = (false, eval e X.env) :: starEach es X.env := by rfl) (hpl : (backTo pos (starEach es X.env)).any (·.1) = false := by rfl) :
    PE X (.Call (.Name x p) (e :: es) [] pos) (tCallG sp E t) := by
  constructor
  intro pins s σ H Q I h
  apply wpAny_Call_Name_kw
  refine ld_glob I hgl hm (PySem.W.callWith_K (h₀ := X.base) I.ok.mod.kin hk (thn (ha.run pos pins s σ H _ I h) ?_) he hpl) hdb
  rintro us s1 ⟨vs, H1, I1, r, q⟩
  exact ⟨I1.kIn, run_g G hr hg hb hx I1 r q⟩
end
section
variable {S : Sx} {ρ : List Sl} {ts : TA} {rs : List (M D)} {n : Nat} {F : List D → M D}
theorem se_g (h : SA S ts ρ rs) (hn : rs.length = n) : SE S (tCallG (spD S.K S.mg false n F) S.E ts) ρ (callM F rs) := fun σ H W H0 Q e w q => by
  refine h.go e w (seqL_len q) (fun _ z => z) fun ds vs W1 H1 q1 s1 r1 e1 => ?_
  exact ⟨W1, ds, s1.ok, r1, q1.1.trans hn, (F ds).mono (fun d hd W' H' v s r => hd v W' H' (s1.trans w s) r) (fun _ z => z.after w s1) q1.2⟩
theorem so_g (h : SA S ts ρ rs) (hn : rs.length = n) : SO S (tCallG (spD S.K S.mg true n F) S.E ts) ρ (callM F rs >>= asL) := fun σ H W H0 Q e w q => by
  refine h.go e w (seqL_len q) (fun _ z => z) fun ds vs W1 H1 q1 s1 r1 e1 => ?_
  refine ⟨W1, ds, s1.ok, r1, q1.1.trans hn, (F ds).mono (fun d hd W' H' v s r => ?_) (fun _ z => z.after w s1) q1.2⟩
  obtain ⟨a, us, xs, rfl, rfl, g1, g2, g3, g4, g5⟩ := r
  exact hd a us W' H' (s1.trans w s) (s1.free0 w g4) g1 g2 g3 g5
end

/-! ### the law's end: cs, the code objects of the defs that make lambdas, and their tables -/
theorem law_g {qg : Bool} {P : Program} {w : World} {K : PySem.W.Frag} {mg mb : Str → Option Value} {k : Nat} {fa a : Addr} {fd : FuncData} {x : Str} {F : List D → M D} {s1 : Shared} {vs : List Value} {ns : List Int} {cs : List (Addr × Addr)}
    (KX : K.In s1.heap) (hns : s1.heap.Ns mainGlobals mg) (hb : s1.heap.Ns builtinsNs mb) (hbb : ∀ x : Str, x ≠ "__name__" → mb x = bootBuiltins x) (hlim : s1.heap.NoLimit) (hg : s1.gens = #[])
    (hcs : Tb.T.map (·.1) = cs.map (·.2)) (hT : ∀ p ∈ cs, PySem.W.CodeHd s1.heap p.1 p.2 ∧ s1.heap.get? p.2 = some { cls := .none, data := .fields #[] }) (nT : ∀ p ∈ cs, K.lookup p.2 = none)
    (hbm : ∃ (bm : Addr) (ob : Obj), mg "__builtins__" = some (.ref bm) ∧ bm ≠ builtinsNs ∧ s1.heap.get? bm = some ob ∧ ob.cls = .type "module" ∧ ob.dict = some builtinsNs ∧ ob.data = .plain)
    (ha : s1.heap.get? a = some { cls := .type "list", data := .seq vs.toArray }) (hi : PyProof.Rows.IntsAre vs ns) (hl : ns.length ≤ sizeLine) (hr : Room k callerA)
    (G : ∀ base : Heap, K.In base → base.Ns mainGlobals mg → (∀ p ∈ cs, LamX.TabB base mg p.1 p.2) → GOk P w K mg base qg k fa fd [x] (spD K mg false 1 F)) (hbind : ∀ (s : Shared) (u : Value), BindsTo s fd ⟨[u], []⟩ [(x, u)])
    (hF : (F [.scr ns]).run (fun d => d = .bl true) (fun _ => False)) :
    codeAny (model P w) callerA (.call (.ref fa) ⟨[.ref a], []⟩) (fun r s' => r = .ok (.ret (.bool true)) ∧ OldK s1.heap s'.heap ∧ s'.os = s1.os ∧ AllBare s'.gens) s1 := by
  have rv := vals_ints hi
  have tT : ∀ b, b ∈ cs.map (·.2) → ∃ c, (c, b) ∈ cs := fun b hb => by
    obtain ⟨p, hp, e⟩ := List.mem_map.mp hb
    exact ⟨p.1, by rw [← e]; exact hp⟩
  have oT : ∀ b, b ∈ cs.map (·.2) → s1.heap.get? b = some { cls := .none, data := .fields #[] } := fun b hb => by
    obtain ⟨c, hc⟩ := tT b hb
    exact (hT _ hc).2
  have aT : a ∉ cs.map (·.2) := fun z => by
    have e := oT a z
    rw [ha] at e
    cases (Option.some.inj e)
  -- the abstract heap: the tables, and the script where it is no object of the module
  have main : ∀ H : Hp, SqL K H a (ns.map V.int) → HOk P w H s1.heap → (∀ b ∈ cs.map (·.2), H b = some (.tbl #[])) → (∀ b u, H b = some u → (b = a ∧ ∃ o zs, u = .frz o (.lst zs)) ∨ b ∈ cs.map (·.2)) → (H a ≠ none → K.lookup a = none) →
      codeAny (model P w) callerA (.call (.ref fa) ⟨[.ref a], []⟩) (fun r s' => r = .ok (.ret (.bool true)) ∧ OldK s1.heap s'.heap ∧ s'.os = s1.os ∧ AllBare s'.gens) s1 := by
    intro H hS hok hH hA hK
    -- what is neither a sequence nor an empty table is not tracked
    have untr : ∀ {b : Addr} {o : Obj}, s1.heap.get? b = some o → (∀ xs n, o.data ≠ .seq xs n) → o.data ≠ .fields #[] → H b = none := fun {b o} e d1 d2 => by
      cases q : H b with
      | none => rfl
      | some u =>
        rcases hA b u q with ⟨rfl, _⟩ | hm
        · rw [ha] at e
          cases e
          exact absurd rfl (d1 _ _)
        · rw [oT b hm] at e
          cases e
          exact absurd rfl d2
    have isD : ∀ {b : Addr} {m : Str → Option Value}, s1.heap.Ns b m → (hidT s1.heap H).Ns b m := by
      rintro b m ⟨o, es, ep, e, d, r⟩
      exact ⟨o, es, ep, hidT_get e (untr e (fun _ _ z => by rw [d] at z; cases z) (fun z => by rw [d] at z; cases z)), d, r⟩
    have kb : K.In (hidT s1.heap H) := by
      intro b o e
      apply hidT_get (KX b o e)
      cases q : H b with
      | none => rfl
      | some u =>
        rcases hA b u q with ⟨rfl, _⟩ | hm
        · rw [hK (by rw [q]; exact Option.some_ne_none u)] at e
          cases e
        · obtain ⟨c, hc⟩ := tT b hm
          rw [nT _ hc] at e
          cases e
    have TB : ∀ p ∈ cs, LamX.TabB (hidT s1.heap H) mg p.1 p.2 := fun p hp => by
      obtain ⟨h1, h2⟩ := hT p hp
      refine ⟨?_, ?_, fun z => ?_⟩
      · obtain ⟨o, us, file, tf, flags, tg, inF, text, tt, e1, r1, r2, r3, r4⟩ := h1
        refine ⟨o, us, file, tf, flags, tg, inF, text, tt, hidT_get e1 (untr e1 (fun _ _ z => by rw [r2] at z; cases z) (fun z => ?_)), r1, r2, r3, r4⟩
        rw [r2] at z
        cases z
        simp at r3
      · obtain ⟨bm, ob, b1, b2, b3, b4, b5, b6⟩ := hbm
        refine ⟨bm, ob, b1, b2, fun z => ?_, fun z => ?_, hidT_get b3 (untr b3 (fun _ _ z => by rw [b6] at z; cases z) (fun z => by rw [b6] at z; cases z)), b4, b5, b6⟩
        · obtain ⟨o, es, ep, e, d, _⟩ := hns
          rw [z, e] at b3
          cases b3
          rw [d] at b6
          cases b6
        · rw [z, h2] at b3
          cases b3
          cases b6
      · obtain ⟨o, es, ep, e, d, _⟩ := hns
        rw [z, h2] at e
        cases e
        cases d
    obtain ⟨mc, l1, l2⟩ := hlim
    have e0 : Env0 P w K mg (hidT s1.heap H) callerA [] s1 H :=
      ⟨rfl, ⟨kb, isD hns, ⟨mb, isD hb, hbb⟩, ⟨mc, isD l1, l2⟩⟩, fun b o e => of_hidT e, Nat.le_of_eq (hidT_size _ _), trivial, fun b hb => (List.not_mem_nil hb).elim, hok, .of_eq hg⟩
    let W0 : Wd := ⟨fun b => if b ∈ cs.map (·.2) then none else H b, fun b => if b ∈ cs.map (·.2) then some TabAny else none⟩
    have rd : ∀ {b : Addr} {u : HO}, b ∉ cs.map (·.2) → Rd H b u → Rd W0.P b u := fun {b u} nb h => by
      rcases h with h | ⟨o, h⟩
      · exact .inl ((if_neg nb).trans h)
      · exact .inr ⟨o, (if_neg nb).trans h⟩
    have hS' : SqL K W0.P a (ns.map V.int) := by
      rcases hS with h | h
      · exact .inl (rd aT h)
      · exact .inr h
    have wk : WOk W0 H := by
      refine ⟨fun b φ e => ?_, fun b o e => ?_, fun b φ e => ?_, fun p hp => ?_, fun b ps e => ?_⟩
      · have e' : (if b ∈ cs.map (·.2) then some TabAny else none) = some φ := e
        by_cases q : b ∈ cs.map (·.2)
        · rw [if_pos q] at e'
          cases e'
          exact .inr rfl
        · rw [if_neg q] at e'
          cases e'
      · have e' : (if b ∈ cs.map (·.2) then none else H b) = some o := e
        by_cases q : b ∈ cs.map (·.2)
        · rw [if_pos q] at e'
          cases e'
        · rw [if_neg q] at e'
          exact e'
      · have e' : (if b ∈ cs.map (·.2) then some TabAny else none) = some φ := e
        by_cases q : b ∈ cs.map (·.2)
        · rw [if_pos q] at e'
          cases e'
          exact ⟨if_pos q, _, hH b q, _, rfl⟩
        · rw [if_neg q] at e'
          cases e'
      · exact LamX.TabS.nil (hH p.1 (by rw [← hcs]; exact List.mem_map.mpr ⟨p, hp, rfl⟩))
      · rcases hA b _ e with ⟨_, o, zs, z⟩ | hm
        · cases z
        · refine ⟨if_pos hm, ?_⟩
          rw [← hcs] at hm
          obtain ⟨p, hp, rfl⟩ := List.mem_map.mp hm
          exact ⟨p.2, hp⟩
    refine codeAny_mono ((G _ kb (isD hns) TB).run callerA [] s1 H ⟨[.ref a], []⟩ [.ref a] [.ref a] (fun v _ => v = .bl true) (fun _ _ _ => False) hr (fun _ => rfl) e0 (hbind s1 (.ref a)) (.cons rfl .nil)
      ⟨W0, [.scr ns], wk, .cons (.scr hS') .nil, rfl, (F _).mono (fun d hd W' H' v _ r => ?_) (fun _ z => z.elim) hF⟩) ?_
    · subst hd
      exact Rep.inj_bl r
    intro r s' h
    match r, h with
    | .error e, h =>
      obtain ⟨_, _, _, _, _, _, _, _, _, _, _, _, z⟩ := h
      exact z.elim
    | .ok .next, h => exact False.elim h
    | .ok .brk, h => exact False.elim h
    | .ok .cont, h => exact False.elim h
    | .ok (.ret u), ⟨v, H', os, bare, un, hok', r', q⟩ =>
      subst q
      obtain rfl : u = Value.bool true := r'
      have grown : ∀ b, b ∈ cs.map (·.2) → ∃ more : Array Value, s'.heap.get? b = some { cls := .none, data := .fields more } := fun b hm => by
        obtain ⟨more, z⟩ := un.tbls b #[] (hH b hm)
        exact ⟨_, hok' b _ z⟩
      have kept : ∀ b o, b ∉ cs.map (·.2) → s1.heap.get? b = some o → s'.heap.get? b = some o := fun b o nm e => by
        cases q : H b with
        | none => exact un.keep b o e q (List.not_mem_nil) (List.not_mem_nil)
        | some u =>
          rcases hA b u q with ⟨_, ob, zs, rfl⟩ | hm
          · have e1 := (hok b _ q).1
            have e2 := (hok' b _ (un.frzs b ob _ q)).1
            rw [e] at e1
            cases e1
            exact e2
          · exact absurd hm nm
      refine ⟨rfl, ⟨fun b o e => ?_, fun b o e => ?_⟩, os, bare⟩
      · by_cases hm : b ∈ cs.map (·.2)
        · obtain ⟨c, hc⟩ := tT b hm
          obtain ⟨more, z⟩ := grown b hm
          obtain ⟨g1, g2⟩ := hT _ hc
          rw [show s1.heap.get? b = _ from g2] at e
          cases e
          exact .inr (.inl ⟨(g1.tab g2).isCodeTable, rfl, #[], more, rfl, by rw [Array.empty_append]; exact z⟩)
        · exact .inl (kept b o hm e)
      · by_cases hm : b ∈ cs.map (·.2)
        · obtain ⟨more, z⟩ := grown b hm
          exact ⟨_, z⟩
        · exact ⟨o, kept b o hm e⟩
  have tab0 : ∀ b, (if b ∈ cs.map (·.2) then some (HO.tbl #[]) else none) = none ∨ ((if b ∈ cs.map (·.2) then some (HO.tbl #[]) else none) = some (.tbl #[]) ∧ b ∈ cs.map (·.2)) := fun b => by
    by_cases hm : b ∈ cs.map (·.2)
    · exact .inr ⟨if_pos hm, hm⟩
    · exact .inl (if_neg hm)
  let H0 : Hp := fun b => if b ∈ cs.map (·.2) then some (HO.tbl #[]) else none
  have hok0 : ∀ b, b ∈ cs.map (·.2) → ∀ H : Hp, ObjOk P w H s1.heap b (.tbl #[]) := fun b hm H => oT b hm
  cases hk : K.lookup a with
  | some o =>
    have e := KX a o hk
    rw [ha] at e
    cases e
    refine main H0 (.inr ⟨_, vs.toArray, _, hk, rfl, rfl, rfl, ?_, ?_⟩) (fun b u z => ?_) (fun b hm => if_pos hm) (fun b u z => ?_) (fun z => absurd (show H0 a = none from if_neg aT) z)
    · rw [List.size_toArray, hi.length]
      exact hl
    · simpa using rv
    · rcases tab0 b with q | ⟨q, hm⟩
      · rw [show H0 b = none from q] at z
        cases z
      · rw [show H0 b = _ from q] at z
        cases z
        exact hok0 b hm _
    · rcases tab0 b with q | ⟨q, hm⟩
      · rw [show H0 b = none from q] at z
        cases z
      · exact .inr hm
  | none =>
    let ob : Obj := { cls := .type "list", data := .seq vs.toArray }
    refine main (upd H0 a (.frz ob (.lst (ns.map V.int)))) (.inl (.inr ⟨ob, upd_same⟩)) (fun b u z => ?_) (fun b hm => ?_) (fun b u z => ?_) (fun _ => hk)
    · by_cases hb : b = a
      · subst hb
        rw [upd_same] at z
        cases z
        exact ⟨ha, by rw [List.length_map]; exact hl, vs, _, rv, ha⟩
      · rw [upd_ne hb] at z
        rcases tab0 b with q | ⟨q, hm⟩
        · rw [show H0 b = none from q] at z
          cases z
        · rw [show H0 b = _ from q] at z
          cases z
          exact hok0 b hm _
    · rw [upd_ne (fun z => aT (by rw [← z]; exact hm))]
      exact if_pos hm
    · by_cases hb : b = a
      · subst hb
        rw [upd_same] at z
        cases z
        exact .inl ⟨rfl, ob, _, rfl⟩
      · rw [upd_ne hb] at z
        rcases tab0 b with q | ⟨q, hm⟩
        · rw [show H0 b = none from q] at z
          cases z
        · exact .inr hm
/-- the goal that k_head leaves -/
theorem walk_g {qg : Bool} {l : PySem.W.OpenLaw} {n k : Nat} {q : Program} {loose : List Str} {XP : (Str → Option Value) → Heap → Prop} {YP : World → Heap → Prop} {d : DefRec} {K : Params → PySem.W.Frag} {x : Str} {F : List D → M D}
    (hn : l.most = some n) (hn2 : n ≤ sizeLine) (hdf : d.params.defaults = []) (hr : Room k callerA) (hY : ∀ (w : World) (h : Heap), YP w h → (K w.params).In h) (cs : List (Addr × Addr))
    (hcs : Tb.T.map (·.1) = cs.map (·.2)) (hT : ∀ (w : World) (h : Heap), YP w h → ∀ p ∈ cs, PySem.W.CodeHd h p.1 p.2 ∧ h.get? p.2 = some { cls := .none, data := .fields #[] }) (nT : ∀ (w : World), ∀ p ∈ cs, (K w.params).lookup p.2 = none)
    (G : ∀ (w : World) (mg : Str → Option Value) (fa : Addr) (h : Heap), (K w.params).In h → h.Ns mainGlobals mg → mg d.name = some (.ref fa) →
      ∃ fd : FuncData, (∀ (s : Shared) (u : Value), BindsTo s fd ⟨[u], []⟩ [(x, u)]) ∧
        ∀ base : Heap, (K w.params).In base → base.Ns mainGlobals mg → (∀ p ∈ cs, LamX.TabB base mg p.1 p.2) → GOk l.prog w (K w.params) mg base qg k fa fd [x] (spD (K w.params) mg false 1 F))
    (hF : ∀ ns : List Int, ns.length ≤ n → (F [.scr ns]).run (fun d => d = .bl true) (fun _ => False)) :
    PySem.W.WalkO q loose XP YP l.row.toRowW d [] (fun f vs => PySem.call f vs) := by
  apply Att.attach_call hn hdf
  intro w s0 s1 mg mb fa o pm cd doc a vs ns Gr Y ho hd hcd hmg hobj hints hlen hg
  obtain ⟨fd, hb, hG⟩ := G w mg fa _ (hY w _ Y) Gr.T.g hmg
  exact law_g (hY w _ Y) Gr.T.g Gr.T.b Gr.T.builtins Gr.T.nolimit hg hcs (hT w _ Y) (nT w) Gr.T.bmain hobj hints (Nat.le_trans hlen hn2) hr hG hb (hF ns hlen)
end Ev

namespace Ev
open PySem PySem.Spec L2
variable [Tb]

/-! ### what turns -/
section
variable {W : Wd} {H : Hp} {a : Addr} {φ : HO → Prop} {o : HO}
theorem pen_lst {k : Bool} (h : PenIs k o) : ∃ vs, o = .lst vs := by
  cases k with
  | false => obtain ⟨x, y, e, _⟩ := h; exact ⟨_, e⟩
  | true => obtain ⟨x, b, n, y, e, _⟩ := h; exact ⟨_, e⟩
theorem Step.turn {k : Bool} (w : WOk W H) (h : W.N a = some (PenIs k)) (ho : PenIs k o) : Step W H W (upd H a o) := by
  have nP := (w.pen a _ h).1
  obtain ⟨u, hu, hk⟩ := (w.pen a _ h).2
  obtain ⟨vs, rfl⟩ := pen_lst hk
  obtain ⟨us, rfl⟩ := pen_lst ho
  refine ⟨Le.refl W, ⟨w.kin, fun b u e => ?_, fun b ψ hb => ⟨(w.pen b ψ hb).1, ?_⟩, tabs_put (soft_lst hu) w.tab, tb_put (fun _ z => nomatch z) (fun _ _ z => z) w.tb⟩, fun b u e hn => ?_, fun _ _ => rfl, fun _ _ => rfl⟩
  · rw [upd_ne (fun z => by subst z; rw [nP] at e; cases e)]
    exact w.sub b u e
  · by_cases q : b = a
    · subst q
      rw [h] at hb
      cases hb
      exact ⟨_, upd_same, ho⟩
    · obtain ⟨u, e, r⟩ := (w.pen b ψ hb).2
      exact ⟨u, by rw [upd_ne q]; exact e, r⟩
  · rw [upd_ne (fun z => by subst z; rw [h] at hn; cases hn)]
    exact e
end
theorem penIs_of {K : PySem.W.Frag} {W : Wd} {k : Bool} {ds : List D} {vs : List V} (h : penOk k ds) (r : Reps K W vs ds) : PenIs k (.lst vs) := by
  cases k with
  | false =>
    obtain ⟨x, y, rfl, p⟩ := h
    obtain ⟨v, u, rfl, r1, r2⟩ := r.of2
    cases r1
    cases r2
    exact ⟨x, y, rfl, p⟩
  | true =>
    obtain ⟨x, b, n, y, rfl, p⟩ := h
    cases r with
    | cons r1 r => cases r with
      | cons r2 r => cases r with
        | cons r3 r => cases r with
          | cons r4 r =>
            cases r
            cases r1
            cases r2
            cases r3
            cases r4
            exact ⟨x, b, n, y, rfl, p⟩
section
variable {S : Sx} {own : Bool} {ρ : List Sl} {T L : Type} {enc : T → List Sl} {encL : L → List Sl} {ta : TS}
/-- a list of one's own becomes a pen -/
theorem ss_pen (kd : Bool) {i : Nat} {ds : List D} {m : M (Fl T L)} (h : ρ[i]? = some (.own ds)) (hb : SS S own ta (ρ.set i (.val (.pen kd))) enc encL m) : SS S own ta ρ enc encL (guard (penOk kd ds) >>= fun _ => m) := fun Wf W0 H0 W H σ D w n q => by
  obtain ⟨pk, q⟩ := q
  obtain ⟨a, vs, h1, h2, h3, h4, h5, h6⟩ := n.env.owL i _ h
  have nN : ∀ b φ, W.N b = some φ → b ≠ a := fun b φ e z => by subst z; rw [h4] at e; cases e
  let N' : Addr → Option (HO → Prop) := fun b => if b = a then some (PenIs kd) else W.N b
  have le : Le W ⟨W.P, N'⟩ := ⟨fun _ _ e => e, fun b φ z => by
    show N' b = some φ
    show (if b = a then some (PenIs kd) else W.N b) = some φ
    rw [if_neg (nN b φ z)]
    exact z⟩
  have ok : WOk ⟨W.P, N'⟩ H := ⟨fun b φ hb => by
    have hb' : (if b = a then some (PenIs kd) else W.N b) = some φ := hb
    by_cases e : b = a
    · rw [if_pos e] at hb'
      cases hb'
      exact .inl ⟨_, rfl⟩
    · rw [if_neg e] at hb'
      exact n.ok.kin b φ hb', n.ok.sub, fun b φ hb => by
    have hb' : (if b = a then some (PenIs kd) else W.N b) = some φ := hb
    by_cases e : b = a
    · rw [if_pos e] at hb'
      cases hb'
      subst e
      exact ⟨h3, _, h2, penIs_of pk h6⟩
    · rw [if_neg e] at hb'
      exact n.ok.pen b φ hb', n.ok.tab, fun b ps e => by
    show (if b = a then some (PenIs kd) else W.N b) = some TabAny ∧ _
    rw [if_neg (fun z => by subst z; rw [h2] at e; cases e)]
    exact n.ok.tb b ps e⟩
  refine hb Wf W0 H0 ⟨W.P, N'⟩ H σ D w ⟨⟨fun j d hj => ?_, fun j es hj => ?_, fun j k es fs b hjk g1 g2 g3 => ?_, by rw [List.length_set, n.env.ln]⟩, ok,
    ⟨n.st.le.trans le, ok, n.st.old, n.st.newP, fun b hb => ?_⟩, n.fl.trans le⟩ q
  · by_cases e : i = j
    · subst e
      rw [List.getElem?_set_self (List.getElem?_eq_some_iff.mp h).1] at hj
      cases hj
      exact ⟨_, h1, .pen (if_pos rfl)⟩
    · rw [List.getElem?_set_ne e] at hj
      obtain ⟨v, g1, g2⟩ := n.env.dat j d hj
      exact ⟨v, g1, g2.mono le⟩
  · obtain ⟨e, hj⟩ := getElem?_set_no hj (by intro z; cases z)
    obtain ⟨b, us, g1, g2, g3, g4, g5, g6⟩ := n.env.ow j es hj
    refine ⟨b, us, g1, g2, g3, ?_, g5, g6.to le fun M q e n0 => ⟨e, by
        show (if M = a then some (PenIs kd) else W.N M) = none
        rw [if_neg (fun z => by subst z; rw [h2] at e; unfold LamX.CodeO at e; cases e)]
        exact n0⟩⟩
    show (if b = a then some (PenIs kd) else W.N b) = none
    rw [if_neg (fun z => by subst z; exact n.env.ap i j _ es b e h hj h1 g1)]
    exact g4
  · obtain ⟨_, g1⟩ := getElem?_set_no g1 (by intro z; cases z)
    obtain ⟨_, g2⟩ := getElem?_set_no g2 (by intro z; cases z)
    exact n.env.ap j k es fs b hjk g1 g2 g3
  · show (if b = a then some (PenIs kd) else W.N b) = W0.N b
    rw [if_neg (fun z => by subst z; exact hb h5)]
    exact n.st.newN b hb
end
/-- what the drawing def does -/
theorem draw_in {kd : Bool} {K : PySem.W.Frag} {mg : Str → Option Value} {H : Hp} {vs : List V} {Q : VK} {E : XK} (h : spD K mg false 2 (drawF kd) vs H Q E) :
    ∃ (W : Wd) (a : Addr) (o : HO) (many : Int), WOk W H ∧ vs = [.ref a, .int many] ∧ W.N a = some (PenIs kd) ∧ H a = some o ∧ PenIs kd o ∧ 0 < many ∧ many < 1073741824 ∧
      ∀ (k : Int) W' H', 0 ≤ k → k < many → Step W H W' H' → Q (.int k) H' := by
  obtain ⟨W, ds, w, r, l, q⟩ := h
  match ds, l, r, q with
  | [d, e], _, r, q =>
    obtain ⟨v, u, rfl, r1, r2⟩ := r.of2
    cases r1 with
    | @pen a k hN => cases r2 with
      | int many =>
        have q' : (if kd = k then draw many else fail).run _ _ := q
        by_cases e : kd = k
        · subst e
          rw [if_pos rfl] at q'
          obtain ⟨o, e1, p1⟩ := (w.pen a _ hN).2
          exact ⟨W, a, o, many, w, rfl, hN, e1, p1, q'.1.1, q'.1.2, fun k W' H' h1 h2 s => q'.2 k h1 h2 W' H' _ s (.int k)⟩
        · rw [if_neg e] at q'
          exact (show False from q').elim
      | _ => exact (show False from q).elim
    | _ => exact (show False from q).elim
end Ev

namespace Ev
open PySem PySem.Spec L2
variable [Tb]

/-! ### defs of the text by name -/
/-- the def st stands at the module's name x -/
def Df (K : PySem.W.Frag) (mg : Str → Option Value) (x : Str) (st : Stmt) (ps : List Str) : Prop := ∃ f fd, L2.Fun K x x st f fd ∧ mg x = some (.ref f) ∧ Binds K fd ps [] ∧ ∀ (s : Shared) (us : List Value), us.length = ps.length → BindsTo s fd ⟨us, []⟩ (ps.zip us)
/-- what is called by the name x keeps a promise -/
def Cd (qg : Bool) (P : Program) (w : World) (K : PySem.W.Frag) (mg : Str → Option Value) (base : Heap) (x : Str) (k : Nat) (ps : List Str) (sp : Sp) : Prop :=
  ∃ f fd, mg x = some (.ref f) ∧ PySem.W.keepIn K (.ref f) = true ∧ Binds K fd ps [] ∧ GOk P w K mg base qg k f fd ps sp
section
variable {P : Program} {w : World} {K : PySem.W.Frag} {mg : Str → Option Value} {base : Heap}
theorem df_mk {h : Heap} {x : Str} {st : Stmt} {ps : List Str} {f : Addr} {oc : Value} {od an : Option Addr} {osl : Array (Option Value)} {kV doc pm cdv ct : Value} (X : K.In h) (G : h.Ns mainGlobals mg)
    (a : PySem.W.nsIn K mainGlobals x = some (some (.ref f)))
    (l : K.lookup f = some ⟨oc, od, .func (PySem.W.fnOf x x (defArgs st) (defBody st) (defScope st) .none kV doc pm an cdv ct), osl⟩)
    (c : PySem.W.codeIn K cdv x = true) (k : PySem.W.keepIn K (.ref f) = true)
    (b : ∀ (kV doc pm : Value) (an : Option Addr) (cdv ct : Value) (us : List Value), us.length = ps.length → bindArgs (PySem.W.fnOf x x (defArgs st) (defBody st) (defScope st) .none kV doc pm an cdv ct) ⟨us, []⟩ = pure (ps.zip us)) : Df K mg x st ps :=
  have F := fun_mk l c k
  ⟨f, _, F, PySem.W.mg_of X G a, F.binds b, fun _ us hl => .of_eq (b kV doc pm an cdv ct us hl)⟩
/-- a def, by its body -/
theorem cd_of {qg : Bool} {x : Str} {st : Stmt} {N ps : List Str} {k : Nat} (own : Bool) {F : List D → M (Fl Unit Empty)} (d : Df K mg x st ps) (sc : FnScope N ps (defScope st))
    (hbody : ∀ (f : Addr) (cdv : Value) (A : Around) (outer : List Env) (s : Shared) (H : Hp) (E : XK),
      Room k (A.deeper (PyProof.Rows.envOfC x (defScope st) s.heap.objs.size f cdv)) → (qg = true → (A.deeper (PyProof.Rows.envOfC x (defScope st) s.heap.objs.size f cdv)).guards = some []) →
        ∃ t, PSs (cxOf (L2.CX P w) P w K mg base N x (defScope st) f cdv A outer s H E) (defBody st) t ∧
          ∀ ds, ds.length = ps.length → SS ⟨K, mg, E⟩ own t (startS N.length ds) (enc0 N.length) noE (F ds)) :
    Cd qg P w K mg base x (k + 1) ps (spD K mg own ps.length (fun ds => endB own (F ds))) := by
  obtain ⟨f, fd, Fn, g, b, _⟩ := d
  exact ⟨f, fd, g, Fn.kp, b, g_of own Fn sc fun cdv A outer s H E _ => hbody f cdv A outer s H E⟩
theorem Cd.mono {qg : Bool} {x : Str} {j k : Nat} {ps : List Str} {sp : Sp} (c : Cd qg P w K mg base x j ps sp) (h : j ≤ k) : Cd qg P w K mg base x k ps sp :=
  let ⟨f, fd, g, kp, b, G⟩ := c
  ⟨f, fd, g, kp, b, G.mono h⟩
end
section
variable {X : Cx} {k j : Nat} {ps : List Str} {sp : Sp} {E : XK} {x : Str} {p pos : Pos} {e : Expr} {es : List Expr} {t : TA}
/-- its call -/
theorem pe_cd {qg : Bool} (c : Cd qg X.prog X.w X.K X.mg X.base x j ps sp) (hr : Room k X.A) (hg : qg = true → X.A.guards = some []) (hx : Passes (L2.CX X.prog X.w) X E) (ha : PA X (e :: es) t) (hjk : j ≤ k := by decide) (hgl : Gl X x := by exact rfl)
    (hdb : (x == ("__debug__" : Str)) = false := by decide) (he : starEach (e :: es) X.env = (false, eval e X.env) :: starEach es X.env := by rfl) (hpl : (backTo pos (starEach es X.env)).any (·.1) = false := by rfl) :
    PE X (.Call (.Name x p) (e :: es) [] pos) (tCallG sp E t) := by
  obtain ⟨f, fd, g, kp, b, G⟩ := c
  exact pe_g (G.mono hjk) hr hg hgl g kp b hx ha hdb he hpl
end
/-- an exception of a callee leaves a def's body as it came -/
theorem pass_def {P : Program} {w : World} {K : PySem.W.Frag} {mg : Str → Option Value} {base : Heap} {N : List Str} {qual : Str} {sc : Scope} {f : Addr} {cd : Value} {A : Around} {outer : List Env} {s : Shared} {H : Hp} {E : XK} :
    Passes (L2.CX P w) (cxOf (L2.CX P w) P w K mg base N qual sc f cd A outer s H E) E :=
  passes_call (takes_of (E := E) rfl rfl rfl rfl) fun _ _ _ _ z => z
/-- == and != of anything -/
def rEqA (K : PySem.W.Frag) : R2 := fun x y H Q => rEq x y H Q ∨ rEqD K x y H Q
def rNeA (K : PySem.W.Frag) : R2 := fun x y H Q => rNe x y H Q ∨ rNeD K x y H Q
theorem op_eqA {X : Cx} (hu : X.A.units + 64 < cLine) : OpR X (compareOp .Eq) (rEqA X.K) := op_eq.or (op_eqD hu)
theorem op_neA {X : Cx} (hu : X.A.units + 64 < cLine) : OpR X (compareOp .NotEq) (rNeA X.K) := op_ne.or (op_neD hu)
theorem os_eqA {K : PySem.W.Frag} : OpS K (rEqA K) D.eqA := by
  intro W H x y dx dy Q E w rx ry h
  unfold D.eqA at h
  split at h
  · exact .inl (os_eqS W H x y _ _ Q E w rx ry h)
  · exact .inr (os_eq W H x y _ _ Q E w rx ry h)
theorem os_neA {K : PySem.W.Frag} : OpS K (rNeA K) D.neA := by
  intro W H x y dx dy Q E w rx ry h
  unfold D.neA at h
  split at h
  · exact .inl (os_neS W H x y _ _ Q E w rx ry h)
  · exact .inr (os_ne W H x y _ _ Q E w rx ry h)
/-! ### lists of one's own, read -/
section
variable {S : Sx} {ρ : List Sl}
theorem scal_rep {K : PySem.W.Frag} {W W' : Wd} {v : V} {d : D} (h : d.scal) (r : Rep K W v d) : Rep K W' v d := by
  cases r with
  | non => exact .non
  | bl b => exact .bl b
  | int i => exact .int i
  | str x => exact .str x
  | _ => exact (show False from h).elim
theorem lent {W : Wd} {H H0 : Hp} {σ : L2.St} {i : Nat} {ds : List D} (e : EnvR S.K W H H0 σ ρ) (w : WOk W H) (h : ρ[i]? = some (.own ds)) :
    ∃ W1, EnvR S.K W1 H H0 σ (ρ.set i (.val (.lst ds))) ∧ WOk W1 H ∧ (∀ b o, W1.P b = some o → (∀ us, o ≠ .lst us) → W.P b = some o) ∧ ∀ W' H', Step W1 H W' H' → Step W H W H' := by
  obtain ⟨a, vs, h1, h2, h3, h4, h5, h6⟩ := e.owL i ds h
  have le : Le W ⟨upd W.P a (.lst vs), W.N⟩ := le_freeze h3
  have nP : ∀ b o, W.P b = some o → b ≠ a := fun b o z q => by subst q; rw [h3] at z; cases z
  refine ⟨⟨upd W.P a (.lst vs), W.N⟩, ⟨fun j d hj => ?_, fun j es hj => ?_, fun j k es fs b hjk g1 g2 g3 => ?_, by rw [List.length_set, e.ln]⟩, ⟨w.kin, fun b o z => ?_, fun b φ z => ?_, w.tab, w.tb⟩, fun b o z no => ?_, fun W' H' s => ?_⟩
  · by_cases q : i = j
    · subst q
      rw [List.getElem?_set_self (List.getElem?_eq_some_iff.mp h).1] at hj
      cases hj
      exact ⟨_, h1, .lst upd_same (h6.mono le)⟩
    · rw [List.getElem?_set_ne q] at hj
      obtain ⟨v, g1, g2⟩ := e.dat j d hj
      exact ⟨v, g1, g2.mono le⟩
  · obtain ⟨q, hj⟩ := getElem?_set_no hj (by intro z; cases z)
    obtain ⟨b, us, g1, g2, g3, g4, g5, g6⟩ := e.ow j es hj
    have nb : b ≠ a := fun z => by
      subst z
      exact e.ap i j _ _ b q h hj h1 g1
    exact ⟨b, us, g1, g2, by show (upd W.P a (.lst vs)) b = none; rw [upd_ne nb]; exact g3, g4, g5, g6.mono le⟩
  · obtain ⟨_, g1⟩ := getElem?_set_no g1 (by intro z; cases z)
    obtain ⟨_, g2⟩ := getElem?_set_no g2 (by intro z; cases z)
    exact e.ap j k es fs b hjk g1 g2 g3
  · have z' : (upd W.P a (.lst vs)) b = some o := z
    by_cases q : b = a
    · subst q
      rw [upd_same] at z'
      cases z'
      exact h2
    · rw [upd_ne q] at z'
      exact w.sub b o z'
  · obtain ⟨p1, p2⟩ := w.pen b φ z
    refine ⟨?_, p2⟩
    show (upd W.P a (.lst vs)) b = none
    rw [upd_ne (fun q => by subst q; rw [show W.N b = some φ from z] at h4; cases h4)]
    exact p1
  · have z' : (upd W.P a (.lst vs)) b = some o := z
    by_cases q : b = a
    · subst q
      rw [upd_same] at z'
      cases z'
      exact absurd rfl (no _)
    · rwa [upd_ne q] at z'
  · refine ⟨Le.refl W, ⟨w.kin, fun b o z => s.ok.sub b o (s.le.p b o (le.p b o z)), fun b φ z => ⟨(w.pen b φ z).1, (s.ok.pen b φ (s.le.n b φ z)).2⟩, s.ok.tab, fun b ps e => by
      obtain ⟨_, q, hq⟩ := s.ok.tb b ps e
      obtain ⟨ps0, e0, _⟩ := w.tab _ hq
      exact w.tb b ps0 e0⟩, fun b o z n => s.old b o z n, fun _ _ => rfl, fun _ _ => rfl⟩
theorem xpost_lend {W W1 : Wd} {H H' : Hp} {W' : Wd} {x : Exn} {cv : Value} {dx : Option Addr} (w : WOk W H) (old : ∀ b o, W1.P b = some o → (∀ us, o ≠ .lst us) → W.P b = some o) (back : ∀ W' H', Step W1 H W' H' → Step W H W H') (st : Step W1 H W' H')
    (hx : XPost S W H x) (rp : XRep S.mg x cv dx W') : S.E cv dx H' := by
  have st0 := back W' H' st
  obtain ⟨C, hC, rfl, hm⟩ := rp
  cases ea : x.args with
  | none =>
    rw [ea] at hm
    exact hx _ _ W H' st0 ⟨C, hC, rfl, by rw [ea]; exact hm⟩
  | some mn =>
    rw [ea] at hm
    obtain ⟨d, fs, rfl, e1, e2, e3⟩ := hm
    by_cases hd : H d = none
    · have hP : W.P d = none := by
        cases z : W.P d with
        | none => rfl
        | some u => rw [w.sub d u z] at hd; cases hd
      have hN : W.N d = none := by
        cases z : W.N d with
        | none => rfl
        | some φ =>
          obtain ⟨o, e, _⟩ := (w.pen d φ z).2
          rw [e] at hd; cases hd
      refine hx _ _ ⟨upd W.P d (.xd fs), W.N⟩ H' (st0.freeze hd (st.ok.sub _ _ e1) hP hN) ⟨C, hC, rfl, ?_⟩
      rw [ea]
      exact ⟨d, fs, rfl, upd_same, e2, e3⟩
    · refine hx _ _ W H' st0 ⟨C, hC, rfl, ?_⟩
      rw [ea]
      exact ⟨d, fs, rfl, old d _ ((st.newP d hd).symm.trans e1) (fun us z => by cases z), e2, e3⟩
theorem se_lend {t : TE} {r : M D} {i : Nat} {ds : List D} (h : ρ[i]? = some (.own ds)) (s : SE S t (ρ.set i (.val (.lst ds))) r) : SE S t ρ (r >>= fun d => guard d.scal >>= fun _ => pure d) := fun σ H W H0 Q e w q => by
  obtain ⟨W1, e1, w1, old, back⟩ := lent e w h
  refine s σ H W1 H0 Q e1 w1 (r.mono (fun d hd v W' H' st rp => ?_) (fun x hx cv dx W' H' st rp => xpost_lend w old back st hx rp) q)
  exact hd.2 v W H' (back W' H' st) (scal_rep hd.1 rp)
theorem sb_lend {t : TT} {r : M Bool} {i : Nat} {ds : List D} (h : ρ[i]? = some (.own ds)) (s : SB S t (ρ.set i (.val (.lst ds))) r) : SB S t ρ r := fun σ H W H0 Q e w q => by
  obtain ⟨W1, e1, w1, old, back⟩ := lent e w h
  exact s σ H W1 H0 Q e1 w1 (r.mono (fun d hd W' H' st => hd W H' (back W' H' st)) (fun x hx cv dx W' H' st rp => xpost_lend w old back st hx rp) q)
end
/-! ### what the built-in names stand for -/
theorem bt_len : bootBuiltins "len" = some (.builtin "len") := by decide +kernel
theorem bt_isinstance : bootBuiltins "isinstance" = some (.builtin "isinstance") := by decide +kernel
theorem bt_divmod : bootBuiltins "divmod" = some (.builtin "divmod") := by decide +kernel
theorem bt_max : bootBuiltins "max" = some (.builtin "max") := by decide +kernel
theorem bt_min : bootBuiltins "min" = some (.builtin "min") := by decide +kernel
theorem bt_repr : bootBuiltins "repr" = some (.builtin "repr") := by decide +kernel
theorem bt_all : bootBuiltins "all" = some (.builtin "all") := by decide +kernel
theorem bt_any : bootBuiltins "any" = some (.builtin "any") := by decide +kernel
theorem bt_sum : bootBuiltins "sum" = some (.builtin "sum") := by decide +kernel
theorem bt_sorted : bootBuiltins "sorted" = some (.builtin "sorted") := by decide +kernel
theorem bt_int : bootBuiltins "int" = some (.type "int") := by decide +kernel
theorem bt_bool : bootBuiltins "bool" = some (.type "bool") := by decide +kernel
theorem bt_str : bootBuiltins "str" = some (.type "str") := by decide +kernel
theorem bt_tuple : bootBuiltins "tuple" = some (.type "tuple") := by decide +kernel
theorem bt_list : bootBuiltins "list" = some (.type "list") := by decide +kernel
theorem bt_dict : bootBuiltins "dict" = some (.type "dict") := by decide +kernel
theorem bt_range : bootBuiltins "range" = some (.type "range") := by decide +kernel
theorem bt_enumerate : bootBuiltins "enumerate" = some (.type "enumerate") := by decide +kernel
theorem bt_zip : bootBuiltins "zip" = some (.type "zip") := by decide +kernel
theorem bt_set : bootBuiltins "set" = some (.type "set") := by decide +kernel
/-! ### dicts -/
section
variable {S : Sx} {ρ : List Sl}
theorem se_dnew : SE S tDNewK ρ (pure (.dct [])) := fun σ H W H0 Q e w q p hp =>
  q (.ref p) _ _ (Step.dat w hp) (.dct upd_same .nil)
end
/-! ### the rules, with the fragment named -/
section
variable {X : Cx} {K : PySem.W.Frag}
theorem ix_anyK (h : X.K = K) : IxR X (rIxA K) := by subst h; exact ix_any
theorem sl_anyK (h : X.K = K) : SlR X (rSlAll K) := by subst h; exact sl_any
theorem op_addK (h : X.K = K) : OpR X (binaryOp .Add) (rAddA K) := by subst h; exact op_addA
theorem op_mulK (h : X.K = K) : OpR X (binaryOp .Mult) (rMulA K) := by subst h; exact op_mulA
theorem op_eqK (h : X.K = K) (hu : X.A.units + 64 < cLine) : OpR X (compareOp .Eq) (rEqA K) := by subst h; exact op_eqA hu
theorem op_neK (h : X.K = K) (hu : X.A.units + 64 < cLine) : OpR X (compareOp .NotEq) (rNeA K) := by subst h; exact op_neA hu
theorem call_lenK (h : X.K = K) : CallR X (.builtin "len") (rLenA K) := by subst h; exact call_lenA
theorem call_reprK (h : X.K = K) (hg : X.A.guards = some []) (hu : X.A.units + 64 < cLine) : CallR X (.builtin "repr") (rReprD K) := by subst h; exact call_repr hg hu
theorem call_isiK (h : X.K = K) : CallR X (.builtin "isinstance") (rIsi K) := by subst h; exact call_isi
theorem call_allK (h : X.K = K) (hc : X.calm = true) : CallR X (.builtin "all") (rAll K) := by subst h; exact cr_all hc
theorem call_anyK (h : X.K = K) (hc : X.calm = true) : CallR X (.builtin "any") (rAny K) := by subst h; exact cr_any hc
theorem call_listK (h : X.K = K) : CallR X (.type "list") (fun xs H Q => ∃ p ys, xs = [.ref p] ∧ (SqL K H p ys ∨ SqT K H p ys) ∧ ∀ l, H l = none → Q (.ref l) (upd H l (.lst ys))) := by subst h; exact call_list_of
theorem call_tupleK (h : X.K = K) : CallR X (.type "tuple") (rTupB K) := by subst h; exact call_tupB
theorem pi_seqK {tg l : Expr} {tl : TE} (h : X.K = K) (hl : PE X l tl) : PI X tg l (iSeq K tl) := by subst h; exact pi_seq hl
theorem pg_tupK {pos : Pos} {es : List Expr} {k : Nat} {t : TGs} {n : Nat} (h : X.K = K) (hc : X.calm = true) (hg : PGs X es t) (h1 : (assignEach es X.env).length = n := by rfl) (h2 : List.findIdx? (fun x => x.fst) (assignEach es X.env) = none := by rfl) :
    PG X (.Tuple es k pos) (gTup K n t) := by subst h; exact pg_tup hc hg h1 h2
end
end Ev

namespace Ev
open PySem PySem.Spec L2
variable [Tb]
/-! ### classes of errors -/
def Xc (K : PySem.W.Frag) (mg : Str → Option Value) (x : Str) : Prop := ∃ C : Addr, mg x = some (.ref C) ∧ PySem.W.excIn K C [.type "ValueError", .type "Exception", .type "BaseException", .type "object"] "ValueError.__new__" = true ∧
  PySem.W.keepIn K (.ref C) = true ∧ PySem.W.subIn K (.ref C) (.type "BaseException") = some true ∧ PySem.W.typeIn K (.ref C) = some (.type "type")
section
variable {S : Sx} {own : Bool} {ρ : List Sl} {T L : Type} {enc : T → List Sl} {encL : L → List Sl} {tb : TS}
/-- xs[i] = e -/
theorem ss_sto {i : Nat} {te ti : TE} {ds : List D} {r ri : M D} {k : List Ev.D → M (Fl T L)} (hi : ρ[i]? = some (.own ds)) (h : SE S te ρ r) (h2 : SE S ti ρ ri) (hb : ∀ es, SS S own tb (ρ.set i (.own es)) enc encL (k es)) :
    SS S own (tSeq (tAsg te (gSub (tVar i) ti rSetL)) tb) ρ enc encL (stoM ds r ri k) := fun Wf W0 H0 W H σ D w n q => by
  refine h.go n.env n.ok q (xpost w n.st) fun d v W1 H1 q1 s1 r1 e1 => ?_
  have n1 := n.st.trans w s1
  obtain ⟨a, vs, h1, _⟩ := e1.owL i ds hi
  refine ⟨_, h1, ?_⟩
  refine h2.go e1 s1.ok q1 (fun x z => z.after w n1) fun dx vx W2 H2 q2 s2 r2 e2 => ?_
  have n2 := n1.trans w s2
  cases r2 with
  | int z =>
    obtain ⟨j, ej, q3⟩ := ofO_run q2
    obtain ⟨b, us, g1, g2, g3, g4, g5, g6⟩ := e2.owL i ds hi
    rw [h1] at g1
    cases g1
    refine ⟨a, us, z, j, rfl, rfl, g2, by rw [g6.length]; exact ej, ?_⟩
    have nP : ∀ b o, W2.P b = some o → b ≠ a := fun b o e z => by subst z; rw [g3] at e; cases e
    have w1 : WOk W2 (upd H2 a (.lst (us.set j v))) := s2.ok.put g3 g4 g2
    refine hb (ds.set j d) Wf W0 H0 W2 _ σ D w ⟨⟨fun j' d' hj => ?_, fun j' es hj => ?_, fun j' k' es fs b hjk f1 f2 f3 => ?_, by rw [List.length_set, e2.ln]⟩, w1, ⟨n2.le, w1, fun b o e hnn => ?_, n2.newP, n2.newN⟩, (n.fl.trans s1.le).trans s2.le⟩ q3
    · exact e2.dat j' d' (getElem?_set_no hj (by intro z; cases z)).2
    · by_cases e : i = j'
      · subst e
        rw [List.getElem?_set_self (List.getElem?_eq_some_iff.mp hi).1] at hj
        cases hj
        exact ⟨a, _, h1, upd_same, g3, g4, g5, .lst (g6.set (r1.mono s2.le) j)⟩
      · rw [List.getElem?_set_ne e] at hj
        obtain ⟨b, zs, f1, f2, f3⟩ := e2.ow j' es hj
        have nb : b ≠ a := fun z => by
          subst z
          exact e2.ap i j' _ _ b e hi hj h1 f1
        exact ⟨b, zs, f1, by rw [upd_ne nb]; exact f2, f3.1, f3.2.1, f3.2.2.1, f3.2.2.2.upd (soft_lst g2)⟩
    · have get : ∀ {j'' : Nat} {es : OwnC}, (ρ.set i (.own (ds.set j d)))[j'']? = some (.ob es) → ∃ fs, ρ[j'']? = some (.ob fs) := fun {j'' es} hj => by
        by_cases e : i = j''
        · subst e; exact ⟨_, hi⟩
        · rw [List.getElem?_set_ne e] at hj; exact ⟨_, hj⟩
      obtain ⟨_, f1⟩ := get f1
      obtain ⟨_, f2⟩ := get f2
      exact e2.ap j' k' _ _ b hjk f1 f2 f3
    · rw [upd_ne (ne_of_none e g5)]
      exact n2.old b o e hnn
  | _ => exact (show False from q2).elim
end
/-! ### max, min, sum of a list -/
section
variable {K : PySem.W.Frag}
theorem cs_max1 : CaS K (rMax K) (f1 D.max1) := by
  intro W H vs ds Q E w rs h
  obtain ⟨d, rfl, h⟩ := f1_run h
  obtain ⟨v, rfl, r⟩ := rs.of1
  cases r with
  | @lst a vs ds hx r =>
    obtain ⟨ns, e, h⟩ := ofO_run h
    obtain ⟨m, e2, q⟩ := ofO_run h
    have ev := ints_rep r e
    cases ns with
    | nil => cases e2
    | cons x t =>
      cases e2
      obtain ⟨h1, h2⟩ := foldl_max_mem t x
      refine ⟨a, x :: t, rfl, by rw [← ev]; exact .inl (.inl (w.sub _ _ hx)), Nat.succ_pos _, fun m hm hle => ?_⟩
      have : m = t.foldl max x := Int.le_antisymm (h2 m hm) (hle _ h1)
      subst this
      exact post_here w q (.int _)
  | _ => exact (show False from h).elim
theorem cs_min1 : CaS K (rMin K) (f1 D.min1) := by
  intro W H vs ds Q E w rs h
  obtain ⟨d, rfl, h⟩ := f1_run h
  obtain ⟨v, rfl, r⟩ := rs.of1
  cases r with
  | @lst a vs ds hx r =>
    obtain ⟨ns, e, h⟩ := ofO_run h
    obtain ⟨m, e2, q⟩ := ofO_run h
    have ev := ints_rep r e
    cases ns with
    | nil => cases e2
    | cons x t =>
      cases e2
      obtain ⟨h1, h2⟩ := foldl_min_mem t x
      refine ⟨a, x :: t, rfl, by rw [← ev]; exact .inl (.inl (w.sub _ _ hx)), Nat.succ_pos _, fun m hm hle => ?_⟩
      have : m = t.foldl min x := Int.le_antisymm (hle _ h1) (h2 m hm)
      subst this
      exact post_here w q (.int _)
  | _ => exact (show False from h).elim
theorem cs_sum1 : CaS K (rSum K) (f1 D.sum1) := by
  intro W H vs ds Q E w rs h
  obtain ⟨d, rfl, h⟩ := f1_run h
  obtain ⟨v, rfl, r⟩ := rs.of1
  cases r with
  | @lst a vs ds hx r =>
    obtain ⟨ns, e, q⟩ := ofO_run h
    refine ⟨a, ns, rfl, by rw [← ints_rep r e]; exact .inl (.inl (w.sub _ _ hx)), post_here w q (.int _)⟩
  | _ => exact (show False from h).elim
end
section
variable {X : Cx} {K : PySem.W.Frag}
theorem call_maxK (h : X.K = K) (hc : X.calm = true) : CallR X (.builtin "max") (rMax K) := by subst h; exact cr_max hc
theorem call_minK (h : X.K = K) (hc : X.calm = true) : CallR X (.builtin "min") (rMin K) := by subst h; exact cr_min hc
theorem call_sumK (h : X.K = K) (hc : X.calm = true) : CallR X (.builtin "sum") (rSum K) := by subst h; exact cr_sum hc
/-! ### methods -/
theorem pe_metK {o e : Expr} {es : List Expr} {to : TE} {t : TA} {name : Str} {apos cpos : Pos} {T id : String} {r : V → List V → Hp → VK → Prop} (hK : X.K = K) (pa : PlainAttrs T) (slot : Slot T name id) (hty : typeOf (.builtin id) = pure (.type "method_descriptor"))
    (hm : MtR X id r) (ho : PE X o to) (ha : PA X (e :: es) t) (hb : attributeBase o name X.env (eval o X.env) = eval o X.env := by rfl)
    (hf : ((backTo cpos (starEach (e :: es) X.env)).all (fun x => !x.1) && (backToKw cpos (keywordEach [] X.env)).all (fun x => x.1.isSome) && decide ((e :: es).length + ([] : List Keyword).length + (if ([] : List Keyword).isEmpty then 0 else 1) < 30)) = true := by rfl)
    (hl : (apos.endLine == cpos.line) = true := by rfl) (hs : starEach (e :: es) X.env = (false, eval e X.env) :: starEach es X.env := by rfl) (hp : (backTo cpos (starEach es X.env)).any (·.1) = false := by rfl) :
    PE X (.Call (.Attribute o name apos) (e :: es) [] cpos) (tBM K T r to t) := by subst hK; exact pe_bm pa slot hty hm ho ha hb hf hl hs hp
theorem mt_countK (hK : X.K = K) : MtR X "list.count" (rCntI K) := by subst hK; exact mt_lcount
end
section
variable {S : Sx} {ρ : List Sl} {to : TE} {ta : TA} {ro : M D} {rs : List (M D)}
/-- a method of a list that only reads -/
def MeS (K : PySem.W.Frag) (r : V → List V → Hp → VK → Prop) (f : List D → List D → M D) : Prop :=
  ∀ W H a us xs vs ds Q (E : Exn → Prop), WOk W H → W.P a = some (.lst us) → Reps K W us xs → Reps K W vs ds → (f xs ds).run (Post K Q W H) E → r (.ref a) vs H Q
theorem se_met {r : V → List V → Hp → VK → Prop} {f : List D → List D → M D} (hf : MeS S.K r f) (h : SE S to ρ ro) (h2 : SA S ta ρ rs) : SE S (tBM S.K "list" r to ta) ρ (lstMet f ro rs) := fun σ H W H0 Q e w q => by
  refine h.go e w q (fun _ z => z) fun d v W1 H1 q1 s1 r1 e1 => ?_
  cases r1 with
  | @lst a us xs hx rx =>
    refine ⟨.inl ⟨rfl, us, .inl (.inl (s1.ok.sub _ _ hx))⟩, ?_⟩
    refine h2.go e1 s1.ok q1 (fun _ z => z.after w s1) fun ds vs W2 H2 q2 s2 r2 e2 => ?_
    exact hf W2 H2 a us xs vs ds Q _ s2.ok (s2.le.p _ _ hx) (rx.mono s2.le) r2 ((f xs ds).mono (fun _ z => z.after w (s1.trans w s2)) (fun _ z => z) q2)
  | _ => exact (show False from q1).elim
theorem me_count {K : PySem.W.Frag} : MeS K (rCntI K) cntL := by
  intro W H a us xs vs ds Q E w ha rx rs h
  match ds, rs, h with
  | [d], rs, h =>
    obtain ⟨v, rfl, r⟩ := rs.of1
    cases r with
    | int k =>
      obtain ⟨ns, e, q⟩ := ofO_run h
      exact ⟨a, ns, k, rfl, rfl, by rw [← ints_rep rx e]; exact .inl (.inl (w.sub _ _ ha)), post_here w q (.int _)⟩
    | _ => exact (show False from h).elim
  | [], _, h => exact (show False from h).elim
  | d :: e :: t, _, h => cases d <;> exact (show False from h).elim
end
end Ev

namespace Ev
open PySem PySem.Spec L2
variable [Tb]
/-! ### enumerate of a tuple -/
def ItE (K : PySem.W.Frag) (a : Addr) : It :=
  ⟨fun i H => ∃ (zs : List V) (z : V), SqT K H a zs ∧ zs[i]? = some z, fun i H v H' => ∃ T z ob, v = .ref T ∧ H T = none ∧ ob.dict = none ∧ H' = upd H T (.frz ob (.tup [.int (i : Nat), z])) ∧ ∀ zs, SqT K H a zs → zs[i]? = some z, fun i H => ∃ zs : List V, SqT K H a zs ∧ zs.length = i⟩
def ItL (K : PySem.W.Frag) (a : Addr) : It :=
  ⟨fun i H => ∃ (zs : List V) (z : V), SqL K H a zs ∧ zs[i]? = some z, fun i H v H' => ∃ T z ob, v = .ref T ∧ H T = none ∧ ob.dict = none ∧ H' = upd H T (.frz ob (.tup [.int (i : Nat), z])) ∧ ∀ zs, SqL K H a zs → zs[i]? = some z, fun i H => ∃ zs : List V, SqL K H a zs ∧ zs.length ≤ i⟩
set_option maxHeartbeats 1000000 in
theorem meets_enumT (t : Addr) (items : Array Value) :
    Meets (Builtin.«enumerate.__new__» ⟨[.type "enumerate", .ref t], []⟩) (fun _ R s0 => s0.heap.IsTuple t items ∧
      R (.ok (.ret (.ref (s0.heap.push { cls := .type "tuple_iterator", data := .fields #[.ref t, .int 0 0] }).objs.size))) { s0 with heap := (s0.heap.push { cls := .type "tuple_iterator", data := .fields #[.ref t, .int 0 0] }).push { cls := .type "enumerate", data := .fields #[.none, .bool false, .ref s0.heap.objs.size, rawInt 0, .none, .none] } }) :=
  .of_wp fun pr w1 A1 R1 s1 hh1 => by
    obtain ⟨hq, g1, d1, tk1, os1⟩ := s1
    obtain ⟨ht1, hh1⟩ := hh1
    have hsub1 := sub_enumerate
    have qq : ∀ {A' : Around} {E : Value → Shared → Prop} {Q : Value → Shared → Prop}, Q (.ref hq.objs.size) ⟨hq.push { cls := .type "tuple_iterator", data := .fields #[.ref t, .int 0 0] }, g1, d1, tk1, os1⟩ → wpAny (model pr w1) A' (pyIter (.ref t)) Q E ⟨hq, g1, d1, tk1, os1⟩ :=
      fun q1 => wpAny_pyIter_tuple (s := ⟨hq, g1, d1, tk1, os1⟩) ht1 q1
    wp_walk using qq
    refine wpAny_stack_any fun st1 => wpAny_pure ?_
    split
    · rename_i c1 _ _ _ _ _
      cases (c1 == Value.type "enumerate")
      · wp_walk using qq
        exact ⟨_, rfl, hh1⟩
      · wp_walk using qq
        exact ⟨_, rfl, hh1⟩
    · wp_walk using qq
      exact ⟨_, rfl, hh1⟩
section
variable {prog : Program} {w : World} {A : Around} {E : Value → Shared → Prop} {s : Shared}
theorem call_enumT {t : Addr} {items : Array Value} {Q : Value → Shared → Prop} (hT : s.heap.IsTuple t items)
    (hQ : ∀ h1, IsEnum h1 (s.heap.objs.size + 1) s.heap.objs.size 0 .none → h1.IsTupleIter s.heap.objs.size t 0 → (∀ b o, s.heap.get? b = some o → h1.get? b = some o) → Q (.ref (s.heap.objs.size + 1)) { s with heap := h1 }) :
    wpAny (model prog w) A (call (.type "enumerate") [.ref t]) Q E s := by
  refine callType_new F.called_enumerate (by decide) (F.typeCall_enumerate_1 _) (F.newCall_enumerate_1 _) (fun ob => F.args_object_init_2 ob _) F.entry_enumerate_new (meets_enumT t items) ⟨hT, ?_⟩
  have zz : (s.heap.push { cls := .type "tuple_iterator", data := .fields #[.ref t, .int 0 0] }).objs.size = s.heap.objs.size + 1 := Heap.size_push ..
  show _ ∧ _
  rw [zz]
  have he : IsEnum ((s.heap.push { cls := .type "tuple_iterator", data := .fields #[.ref t, .int 0 0] }).push { cls := .type "enumerate", data := .fields #[.none, .bool false, .ref s.heap.objs.size, rawInt 0, .none, .none] }) (s.heap.objs.size + 1) s.heap.objs.size 0 .none := by
    have e1 := Heap.get?_push_size (s.heap.push { cls := .type "tuple_iterator", data := .fields #[.ref t, .int 0 0] }) (o := { cls := .type "enumerate", data := .fields #[.none, .bool false, .ref s.heap.objs.size, rawInt 0, .none, .none] }) rfl
    rw [zz] at e1
    exact e1
  exact ⟨⟨_, he, rfl⟩, hQ _ he ⟨_, Heap.get?_push_of_some _ (Heap.get?_push_size _ rfl), rfl, rfl⟩ fun b o e => Heap.get?_push_of_some _ (Heap.get?_push_of_some _ e)⟩
end
theorem tup_ne {h : Heap} {a it : Addr} {items : Array Value} {i : Nat} (p : h.IsTuple a items) (q : h.IsTupleIter it a i) : a ≠ it := fun e => by
  subst e
  obtain ⟨o1, g1, c1, _⟩ := p
  obtain ⟨o2, g2, c2, _⟩ := q
  rw [g1] at g2
  cases g2
  rw [c1] at c2
  exact absurd (Value.type.inj c2) (by decide)
theorem tup_ne2 {h : Heap} {a e it : Addr} {items : Array Value} {i : Int} {v : Value} (p : h.IsTuple a items) (q : IsEnum h e it i v) : e ≠ a := fun z => by
  subst z
  obtain ⟨o1, g1, c1, _⟩ := p
  rw [show h.get? e = _ from q] at g1
  cases g1
  exact absurd (Value.type.inj c1) (by decide)
theorem turn_enumT {P : Program} {w : World} {K : PySem.W.Frag} {elts : List Expr} {kk : Nat} {tpos : Pos} (a e it : Addr) :
    Turn P w K (.Tuple elts kk tpos) (ItE K a) [e, it] e (fun i h => (∃ old, IsEnum h e it ((i : Nat) : Int) old) ∧ h.IsTupleIter it a i ∧ e ≠ it) where
  mem := by simp
  obj := fun i h st b hb => by
    obtain ⟨⟨old, he⟩, ⟨o, ho, hc, hd⟩, _⟩ := st
    have e' : b = e ∨ b = it := by simpa using hb
    rcases e' with z | z
    · subst z; exact ⟨_, he, fun v q => nomatch q⟩
    · subst z; exact ⟨o, ho, fun v q => by rw [hd] at q; cases q⟩
  keep := fun i h h' st k => ⟨st.1.imp fun old he => k e (by simp) _ he, st.2.1.at fun o q => k it (by simp) o q, st.2.2⟩
  item := by
    intro X hP hw hK hc i pins s σ H E I hf st hg
    subst hP hw hK
    obtain ⟨⟨old, he⟩, hit, hne⟩ := st
    obtain ⟨zs, z, hq, hz⟩ := hg
    obtain ⟨its, rv, p, hl⟩ := I.tuple hq
    have p' : s.heap.IsTuple a its.toArray := p
    obtain ⟨u, hu, ru⟩ := rv.get hz
    have hel : e < s.heap.objs.size := Heap.lt_size he
    have hil : it < s.heap.objs.size := by obtain ⟨_, q, _⟩ := hit; exact Heap.lt_size q
    have hea := tup_ne2 p' he
    have hai := tup_ne p' hit
    have hi : i < its.toArray.size := by
      rw [List.size_toArray]
      exact (List.getElem?_eq_some_iff.mp hu).1
    refine wpAny_pyNext_enum_itemD (Draws.tuple (by exact I.ok.hd hc) it a hai its.toArray) he ⟨hit, p'⟩ hi hne (by simp [hne, hea]) fun x h1 tk hx ho hst hT hsz hk => ?_
    have hxu : x = u := by
      have e1 : its.toArray[i]? = some u := by simpa using hu
      rw [e1] at hx
      exact (Option.some.inj hx).symm
    subst hxu
    refine ⟨_, rfl, wpAny_letOwnedTupleGo_enum (s := { s with heap := h1, toks := tk + 1 }) ho fun h2 he2 sb => ?_⟩
    have hT2 : h2.get? s.heap.objs.size = some { cls := .type "tuple", data := .seq #[.int i tk, x] } := (sb.2 _ (Nat.ne_of_gt hel)).trans hT
    have nw : ObjOk X.prog X.w (upd H s.heap.objs.size (.frz { cls := .type "tuple", data := .seq #[.int i tk, x] } (.tup [.int (i : Nat), z]))) h2 s.heap.objs.size (.frz { cls := .type "tuple", data := .seq #[.int i tk, x] } (.tup [.int (i : Nat), z])) :=
      ⟨hT2, by show 2 ≤ sizeLine; decide, [.int i tk, x], .cons ⟨_, rfl⟩ (.cons ru .nil), ⟨_, hT2, rfl, _, rfl⟩⟩
    have I1 : L2.Inv X pins σ (upd H s.heap.objs.size (.frz { cls := .type "tuple", data := .seq #[.int i tk, x] } (.tup [.int (i : Nat), z]))) { s with heap := h2, toks := tk + 1 } :=
      I.turnedNew (t' := tk + 1) (ch := [e, it]) (fun b ob hb q => (sb.2 b (fun z => hb (by simp [z]))).trans (hk b ob (fun z => hb (by simp [z])) (fun z => hb (by simp [z])) q)) hf (Nat.le_refl _) nw
    refine ⟨.ref s.heap.objs.size, _, I1, rfl, ⟨_, z, _, rfl, I.hok.fresh (Nat.le_refl _), rfl, rfl, fun ys hy => by rw [I.tuple_inj hy hq]; exact hz⟩, ⟨⟨x, ?_⟩, hst.1.at fun o q => (sb.2 it (Ne.symm hne)).trans q, hne⟩, fun b hb => ?_⟩
    · rw [show ((i + 1 : Nat) : Int) = (i : Int) + 1 by omega]
      exact he2
    · have hb' : b < s.heap.objs.size := by
        have e' : b = e ∨ b = it := by simpa using hb
        rcases e' with z | z
        · subst z; exact hel
        · subst z; exact hil
      rw [upd_ne (Nat.ne_of_lt hb')]
      exact (hf b hb).1
  done := by
    intro X hP hw hK hc i pins s σ H E I hf st hg
    subst hP hw hK
    obtain ⟨⟨old, he⟩, hit, hne⟩ := st
    obtain ⟨zs, hq, hz⟩ := hg
    obtain ⟨its, rv, p, hl⟩ := I.tuple hq
    have p' : s.heap.IsTuple a its.toArray := p
    obtain ⟨f0, f1, f2, f3, f4, f5⟩ := hf it (by simp)
    have hlen := rv.length
    have hai := tup_ne p' hit
    obtain rfl : its.toArray.size = i := by rw [List.size_toArray]; omega
    exact wpAny_pyNext_enum_endD (Draws.tuple (by exact I.ok.hd hc) it a hai its.toArray) he ⟨hit, p'⟩ fun h1 eb => ⟨rfl, I.turned (t' := s.toks) (fun b o hb q => eb b o hb q) f0 f1 f3 f4 f5⟩
  self := fun A i s Q E st h => let ⟨⟨_, he⟩, _⟩ := st; wpAny_pyIter_enum he h
theorem turn_enumL {P : Program} {w : World} {K : PySem.W.Frag} {elts : List Expr} {kk : Nat} {tpos : Pos} (a e it : Addr) :
    Turn P w K (.Tuple elts kk tpos) (ItL K a) [e, it] e (fun i h => (∃ old, IsEnum h e it ((i : Nat) : Int) old) ∧ h.IsListIter it a i ∧ e ≠ it) where
  mem := by simp
  obj := fun i h st b hb => by
    obtain ⟨⟨_, h1⟩, ⟨ob, h2, _, h3⟩, _⟩ := st
    have e' : b = e ∨ b = it := by simpa using hb
    rcases e' with rfl | rfl
    · exact ⟨_, h1, fun v q => nomatch q⟩
    · exact ⟨ob, h2, fun v q => by rw [h3] at q; cases q⟩
  keep := fun i h h' st k => ⟨st.1.imp fun old he => k e (by simp) _ he, st.2.1.at fun o q => k it (by simp) o q, st.2.2⟩
  item := by
    intro X hP hw hK hc i pins s σ H E I hf st hg
    subst hP hw hK
    obtain ⟨⟨old, he⟩, hit, hne⟩ := st
    obtain ⟨zs, z, hq, hz⟩ := hg
    obtain ⟨iv, rv, pl, _⟩ := I.list hq
    obtain ⟨x, hx, ru⟩ := rv.get hz
    have le : e < s.heap.objs.size := Heap.lt_size he
    have li : it < s.heap.objs.size := by obtain ⟨_, q, _⟩ := hit; exact Heap.lt_size q
    refine wpAny_pyNext_enum_item he hit pl.isList (x := x) (by simpa using hx) hne fun h1 ho st1 hT hsz hk => ?_
    refine ⟨_, rfl, wpAny_letOwnedTupleGo_enum (s := { s with heap := h1, toks := s.toks + 1 }) ho fun h2 he2 sb => ?_⟩
    have hT2 : h2.get? s.heap.objs.size = some { cls := .type "tuple", data := .seq #[.int i s.toks, x] } := (sb.2 _ (Nat.ne_of_gt le)).trans hT
    have nw : ObjOk X.prog X.w (upd H s.heap.objs.size (.frz { cls := .type "tuple", data := .seq #[.int i s.toks, x] } (.tup [.int (i : Nat), z]))) h2 s.heap.objs.size (.frz { cls := .type "tuple", data := .seq #[.int i s.toks, x] } (.tup [.int (i : Nat), z])) :=
      ⟨hT2, by show 2 ≤ sizeLine; decide, [.int i s.toks, x], .cons ⟨_, rfl⟩ (.cons ru .nil), ⟨_, hT2, rfl, _, rfl⟩⟩
    have I1 : L2.Inv X pins σ (upd H s.heap.objs.size (.frz { cls := .type "tuple", data := .seq #[.int i s.toks, x] } (.tup [.int (i : Nat), z]))) { s with heap := h2, toks := s.toks + 1 } :=
      I.turnedNew (t' := s.toks + 1) (ch := [e, it]) (fun b ob hb q => (sb.2 b (fun y => hb (by simp [y]))).trans (hk b ob (fun y => hb (by simp [y])) (fun y => hb (by simp [y])) q)) hf (Nat.le_refl _) nw
    refine ⟨.ref s.heap.objs.size, _, I1, rfl, ⟨_, z, _, rfl, I.hok.fresh (Nat.le_refl _), rfl, rfl, fun ys hy => by rw [I.list_inj hy hq]; exact hz⟩, ⟨⟨x, ?_⟩, st1.at fun o q => (sb.2 it (Ne.symm hne)).trans q, hne⟩, fun b hb => ?_⟩
    · rw [show ((i + 1 : Nat) : Int) = (i : Int) + 1 by omega]
      exact he2
    · have lb : b < s.heap.objs.size := by
        have e' : b = e ∨ b = it := by simpa using hb
        rcases e' with rfl | rfl
        · exact le
        · exact li
      rw [upd_ne (Nat.ne_of_lt lb)]
      exact (hf b hb).1
  done := by
    intro X hP hw hK hc i pins s σ H E I hf st hg
    subst hP hw hK
    obtain ⟨⟨old, he⟩, hit, hne⟩ := st
    obtain ⟨zs, hq, hz⟩ := hg
    obtain ⟨iv, rv, pl, _⟩ := I.list hq
    obtain ⟨f0, f1, _, f3, f4, f5⟩ := hf it (by simp)
    have el := rv.length
    exact wpAny_pyNext_enum_end (I.ok.hd hc) he hit pl.isList (by simp; omega) fun h1 eb => ⟨rfl, I.turned (t' := s.toks) (fun b o hb q => eb b o hb q) f0 f1 f3 f4 f5⟩
  self := fun A i s Q E st h => let ⟨⟨_, he⟩, _⟩ := st; wpAny_pyIter_enum he h
def iEnumA (K : PySem.W.Frag) (ta : TA) : TI := fun σ H R => ta σ H fun vs H1 => ∃ a, vs = [.ref a] ∧ ((∃ zs, SqL K H1 a zs) ∧ R (ItL K a) H1 ∨ (∃ zs, SqT K H1 a zs) ∧ R (ItE K a) H1)
theorem pi_enumA {X : Cx} {K : PySem.W.Frag} {e : Expr} {ta : TA} {p pos tpos : Pos} {elts : List Expr} {kk : Nat} (hK : X.K = K) (hg : Gl X "enumerate") (hm : X.mg "enumerate" = none) (ha : PA X [e] ta) (hs : starEach [e] X.env = [(false, eval e X.env)] := by rfl) :
    PI X (.Tuple elts kk tpos) (.Call (.Name "enumerate" p) [e] [] pos) (iEnumA K ta) := by
  subst hK
  constructor
  intro pins s σ H R I h
  refine PyProof.Rows.Call_ (ld_blt I hg hm bt_enumerate (PyProof.Rows.callWith_type1 (thn (ha.run pos pins s σ H _ I h) fun us s1 ⟨vs, H1, I1, r1, q1⟩ => ?_) hs rfl))
  obtain ⟨a, rfl, q⟩ := q1
  cases r1 with
  | cons r rr =>
    cases rr
    cases r
    have two : ∀ b, b ∈ [s1.heap.objs.size + 1, s1.heap.objs.size] → FpOk X pins H1 b := fun b hb => by
      have e' : b = s1.heap.objs.size + 1 ∨ b = s1.heap.objs.size := by simpa using hb
      have hle : s1.heap.objs.size ≤ b := by
        rcases e' with z | z
        · subst z; exact Nat.le_succ _
        · subst z; exact Nat.le_refl _
      exact I1.fpOk hle (I1.hok.fresh hle)
    rcases q with ⟨⟨zs, hq⟩, q⟩ | ⟨⟨zs, hq⟩, q⟩
    · obtain ⟨its, rv, p1, _⟩ := I1.list hq
      refine call_enumerate_list p1.isList fun h1 he hit hsz hk => wpAny_pyIter_enum he ?_
      exact ⟨s1.heap.objs.size + 1, [s1.heap.objs.size + 1, s1.heap.objs.size], _, _, H1, rfl, I1.kept (t' := s1.toks) hk, turn_enumL a (s1.heap.objs.size + 1) s1.heap.objs.size, ⟨⟨.none, he⟩, hit, Nat.succ_ne_self _⟩, two, q⟩
    · obtain ⟨its, rv, p1, _⟩ := I1.tuple hq
      refine call_enumT (show s1.heap.IsTuple a its.toArray from p1) fun h1 he hit hk => wpAny_pyIter_enum he ?_
      exact ⟨s1.heap.objs.size + 1, [s1.heap.objs.size + 1, s1.heap.objs.size], _, _, H1, rfl, I1.kept (t' := s1.toks) hk, turn_enumT a (s1.heap.objs.size + 1) s1.heap.objs.size, ⟨⟨.none, he⟩, hit, Nat.succ_ne_self _⟩, two, q⟩
section
variable {K : PySem.W.Frag} {W : Wd}
theorem walks_enumL {a : Addr} {vs : List V} {ds : List D} (h : SqL K W.P a vs) (r : Reps K W vs ds) : Walks K W (ItL K a) (enumL ds) where
  stop := fun W' H' l w => ⟨vs, w.sqL (l.sqL h), by rw [enumL_len, r.length]; exact Nat.le_refl _⟩
  go := fun i W' H' l w hi => by
    have hv : i < vs.length := by rw [r.length, ← enumL_len]; exact hi
    exact ⟨vs, vs[i], w.sqL (l.sqL h), List.getElem?_eq_getElem hv⟩
  yld := fun i x W' H' v H'' l w hx y => by
    obtain ⟨T, z, ob, rfl, hT, ho, rfl, hy⟩ := y
    obtain ⟨d, hd, rfl⟩ := enumL_get hx
    obtain ⟨u, e, ru⟩ := r.get hd
    have e2 := hy vs (w.sqL (l.sqL h))
    rw [e] at e2
    cases e2
    exact ⟨_, Step.dat w hT, .tup (.inl ⟨ob, upd_same, ho⟩) (.cons (.int _) (.cons (ru.mono (l.trans (Step.dat w hT).le)) .nil))⟩
theorem walks_enumT {a : Addr} {vs : List V} {ds : List D} (h : BqT K W.P a vs) (r : Reps K W vs ds) : Walks K W (ItE K a) (enumL ds) where
  stop := fun W' H' l w => ⟨vs, w.sqT (l.bqT h), by rw [enumL_len, r.length]⟩
  go := fun i W' H' l w hi => by
    have hv : i < vs.length := by rw [r.length, ← enumL_len]; exact hi
    exact ⟨vs, vs[i], w.sqT (l.bqT h), List.getElem?_eq_getElem hv⟩
  yld := fun i x W' H' v H'' l w hx y => by
    obtain ⟨T, z, ob, rfl, hT, ho, rfl, hy⟩ := y
    obtain ⟨d, hd, rfl⟩ := enumL_get hx
    obtain ⟨u, e, ru⟩ := r.get hd
    have e2 := hy vs (w.sqT (l.bqT h))
    rw [e] at e2
    cases e2
    exact ⟨_, Step.dat w hT, .tup (.inl ⟨ob, upd_same, ho⟩) (.cons (.int _) (.cons (ru.mono (l.trans (Step.dat w hT).le)) .nil))⟩
end
section
variable {S : Sx} {ρ : List Sl} {ra : M D} {ta : TE}
theorem si_enum (h : SE S ta ρ ra) : SI S (iEnumA S.K (tCons ta tNil)) ρ (enumM ra) := fun σ H W H0 R e w q => by
  refine h.go e w q (fun _ z => z) fun d v W1 H1 q1 s1 r1 e1 => ?_
  cases r1 with
  | @tup a vs ds hx r => exact ⟨a, rfl, .inr ⟨⟨vs, s1.ok.sqT hx⟩, q1 _ W1 H1 s1 (walks_enumT hx r)⟩⟩
  | @lst a vs ds hx r => exact ⟨a, rfl, .inl ⟨⟨vs, .inl (.inl (s1.ok.sub _ _ hx))⟩, q1 _ W1 H1 s1 (walks_enumL (.inl (.inl hx)) r)⟩⟩
  | _ => exact (show False from q1).elim
end
/-! ### sorted, of tuples of numbers -/
/-- a tuple of numbers in a heap -/
def IsNums (h : Heap) (v : Value) (ns : List Int) : Prop := ∃ a o its n, v = .ref a ∧ h.get? a = some o ∧ o.cls = .type "tuple" ∧ o.data = .seq its n ∧ PyProof.Rows.IntsAre its.toList ns
theorem IsNums.keeps {h h' : Heap} {v : Value} {ns : List Int} (p : IsNums h v ns) (k : ∀ b o, h.get? b = some o → o.cls = .type "tuple" → h'.get? b = some o) : IsNums h' v ns := by
  obtain ⟨a, o, its, n, e, ho, hc, hd, hi⟩ := p
  exact ⟨a, o, its, n, e, k a o ho hc, hc, hd, hi⟩
section
variable {prog : Program} {w : World} {A : Around} {E : Value → Shared → Prop} {s : Shared}
theorem lex_walk : ∀ {xs ys : List Value} {ns ms : List Int} (i : Nat) {r : Bool}, PyProof.Rows.IntsAre xs ns → PyProof.Rows.IntsAre ys ms → r = lexI ns ms →
    PySem.W.KatLex prog w A true (decide (xs.length < ys.length)) (fun b s' => s' = s ∧ b = r) (xs.zip ys) i s
  | _, _, _, _, i, r, .nil, .nil, e => by subst e; exact PySem.W.kat_nil ⟨rfl, rfl⟩
  | _, _, _, _, i, r, .nil, .cons m u k, e => by subst e; exact PySem.W.kat_nil ⟨rfl, by simp [lexI]⟩
  | _, _, _, _, i, r, .cons m u k, .nil, e => by subst e; exact PySem.W.kat_nil ⟨rfl, by simp [lexI]⟩
  | _, _, _, _, i, r, .cons (vs := xs) x t h, .cons (vs := ys) y u k, e => by
    rw [List.zip_cons_cons]
    refine PySem.W.kat_cons (SeqAt.EqAt.int_int x t y u prog w _ _ ?_)
    refine PySem.W.kat_go (fun e1 => ?_) (fun e1 => ?_)
    · have ex : x = y := by simpa using e1
      rw [lexI, if_pos ex] at e
      have h1 := lex_walk (i + 1) h k e
      rw [List.length_cons, List.length_cons, show decide (xs.length + 1 < ys.length + 1) = decide (xs.length < ys.length) from by rw [Bool.eq_iff_iff]; simp]
      exact PySem.W.kat_yes h1
    · have ex : ¬ x = y := by simpa using e1
      rw [lexI, if_neg ex] at e
      exact PySem.W.kat_no (TS.oneLt_ints _ ⟨rfl, e.symm⟩)
theorem nums_cmp {vs : List Value} {k : Value → List Int} (hp : ∀ v ∈ vs, IsNums s.heap v (k v)) : SrtO.Cmp prog w A s (PyProof.Rows.tuples' true) (fun p => p.1 ∈ vs) (SrtO.lt2 fun v u => lexI (k v) (k u)) := by
  intro p q hm hm'
  obtain ⟨a, o, its, n, e, ho, hc, hd, hi⟩ := hp _ hm
  obtain ⟨a', o', its', n', e', ho', hc', hd', hi'⟩ := hp _ hm'
  show wpAny (model prog w) A (PyProof.Rows.keyLt' (PyProof.Rows.tuples' true) p.1 q.1) (fun r s' => s' = s ∧ r = lexI (k p.1) (k q.1)) (fun _ _ => False) s
  generalize k p.1 = ns at hi ⊢
  generalize k q.1 = ms at hi' ⊢
  rw [e, e']
  refine PySem.W.kat_lt ho hd ho' hd' ?_
  have := lex_walk (prog := prog) (w := w) (A := A) (s := s) 0 hi hi' rfl
  rwa [Array.length_toList, Array.length_toList] at this
theorem nums_firsts {h : Heap} {k : Value → List Int} : ∀ {vs : List Value}, (∀ v ∈ vs, IsNums h v (k v) ∧ k v ≠ []) → ∃ fs : List Value, PySem.W.KatTups h vs fs ∧ fs.length = vs.length ∧ ∀ f ∈ fs, ∃ x t, f = Value.int x t
  | [], _ => ⟨[], PySem.W.KatTups.nil, rfl, fun _ hm => by simp at hm⟩
  | v :: vs, hp => by
    obtain ⟨fs, h1, h2, h3⟩ := nums_firsts (vs := vs) fun v' hm => hp v' (List.mem_cons_of_mem _ hm)
    obtain ⟨⟨a, o, its, n, e, ho, hc, hd, hi⟩, hne⟩ := hp v (List.mem_cons_self ..)
    obtain ⟨its⟩ := its
    generalize k v = ns at hi hne
    cases hi with
    | nil => exact absurd rfl hne
    | cons x t r =>
      subst e
      exact ⟨.int x t :: fs, PySem.W.KatTups.cons ho hc hd rfl h1, by rw [List.length_cons, List.length_cons, h2], fun f hm => (List.mem_cons.mp hm).elim (fun e => ⟨x, t, e⟩) (h3 f)⟩
theorem nums_sortable {a : Addr} {vs : List Value} {k : Value → List Int} (h0 : 0 < vs.length) (hp : ∀ v ∈ vs, IsNums s.heap v (k v) ∧ k v ≠ []) (ha : ∀ o, s.heap.get? a = some o → o.cls ≠ .type "tuple") : SrtO.SortableO prog w A s a vs fun v u => lexI (k v) (k u) := by
  intro h1 keep
  have hp' : ∀ v ∈ vs, IsNums h1 v (k v) ∧ k v ≠ [] := fun v hm => ⟨(hp v hm).1.keeps fun b o e c => keep b o (fun z => ha o (by rw [← z]; exact e) c) e, (hp v hm).2⟩
  obtain ⟨fs, g1, g2, g3⟩ := nums_firsts hp'
  refine ⟨PyProof.Rows.tuples' true, fun Q E hq => ?_, nums_cmp fun v hm => (hp' v hm).1⟩
  refine PySem.W.kat_kind (T := .type "int") g1 (by omega) (fun f hm => ?_) rfl ?_
  · obtain ⟨x, t, rfl⟩ := g3 f hm
    exact PySem.W.Looks.now
  · rw [show (Value.type "int" != Value.type "tuple") = true from by decide +kernel]
    exact hq
end
theorem lexK_swo {α : Type} (k : α → List Int) : SrtO.Swo fun v u => lexI (k v) (k u) := ⟨fun _ _ h => lexI_asym _ _ h, fun _ _ _ h1 h2 => lexI_tr _ _ _ h1 h2⟩
inductive AlR (R : V → List Int → Prop) : List V → List (List Int) → Prop
  | nil : AlR R [] []
  | cons {x : V} {l : List Int} {xs : List V} {ls : List (List Int)} : R x l → AlR R xs ls → AlR R (x :: xs) (l :: ls)
theorem AlR.of_map {R : V → List Int → Prop} {k : V → List Int} : ∀ {xs : List V}, (∀ x ∈ xs, R x (k x)) → AlR R xs (xs.map k)
  | [], _ => .nil
  | x :: xs, h => .cons (h x (List.mem_cons_self ..)) (AlR.of_map fun y hy => h y (List.mem_cons_of_mem _ hy))
theorem AlR.to_map {R : V → List Int → Prop} {k : V → List Int} (hk : ∀ x l, R x l → k x = l) : ∀ {xs : List V} {ls : List (List Int)}, AlR R xs ls → xs.map k = ls ∧ ∀ x ∈ xs, R x (k x)
  | _, _, .nil => ⟨rfl, fun _ h => by cases h⟩
  | _, _, .cons h r => by
    obtain ⟨e, g⟩ := AlR.to_map hk r
    have e1 := hk _ _ h
    refine ⟨by rw [List.map_cons, e1, e], fun x hx => ?_⟩
    rcases List.mem_cons.mp hx with rfl | hx
    · rw [e1]; exact h
    · exact g x hx
def rSortN (K : PySem.W.Frag) : List V → Hp → VK → Prop := fun vs H Q => ∃ (a : Addr) (xs : List V) (ls : List (List Int)) (R : V → List Int → Prop), vs = [V.ref a] ∧ SqL K H a xs ∧ AlR R xs ls ∧ (∀ x l, R x l → ∃ t, x = V.ref t ∧ SqT K H t (l.map V.int)) ∧ (ls.length < 2 ∨ ∀ l ∈ ls, l ≠ []) ∧
  ∀ ys p, AlR R ys (sortI ls) → H p = none → Q (.ref p) (upd H p (.lst ys))
theorem int_map_inj : ∀ {a b : List Int}, a.map V.int = b.map V.int → a = b
  | [], [], _ => rfl
  | [], _ :: _, h => by cases h
  | _ :: _, [], h => by cases h
  | x :: a, y :: b, h => by
    rw [List.map_cons, List.map_cons] at h
    obtain ⟨h1, h2⟩ := List.cons.inj h
    rw [V.int.inj h1, int_map_inj h2]
open Classical in
theorem call_sortK {X : Cx} {K : PySem.W.Frag} (hK : X.K = K) : CallR X (.builtin "sorted") (rSortN K) := by
  subst hK
  intro pins s σ H vs us Q I r h
  obtain ⟨a, xs, ls, R, rfl, hs, hal, hR, hne, q⟩ := h
  obtain ⟨its, rv, hl, hz⟩ := I.list hs
  obtain ⟨u, rfl, ru⟩ := vals1 r
  obtain rfl : u = Value.ref a := ru
  let k : V → List Int := fun v => if z : ∃ l, R v l then Classical.choose z else []
  have hk : ∀ x l, R x l → k x = l := fun x l h => by
    have z : ∃ l, R x l := ⟨l, h⟩
    have e : k x = Classical.choose z := dif_pos z
    obtain ⟨t, e1, h1⟩ := hR x l h
    obtain ⟨t', e2, h2⟩ := hR x _ (Classical.choose_spec z)
    rw [e1] at e2
    cases e2
    rw [e]
    exact int_map_inj (I.tuple_inj h2 h1)
  obtain ⟨ek, hx⟩ := hal.to_map hk
  obtain ⟨e1, e2⟩ := refs_back rv fun x m => (hR x _ (hx x m)).imp fun t z => z.1
  have hN : 2 ≤ its.length → ∀ v ∈ its, IsNums s.heap v (k (backV v)) ∧ k (backV v) ≠ [] := fun h2 v hv => by
    have hne : ∀ l ∈ ls, l ≠ [] := hne.elim (fun h => by rw [← ek, List.length_map, rv.length] at h; omega) id
    obtain ⟨t, rfl⟩ := e2 v hv
    have hm : V.ref t ∈ xs := by rw [e1]; exact List.mem_map.mpr ⟨_, hv, rfl⟩
    obtain ⟨t', e, ht⟩ := hR _ _ (hx _ hm)
    cases e
    obtain ⟨us, r2, ⟨o, ho, hc, n, hd⟩, _⟩ := I.tuple ht
    exact ⟨⟨t, o, us.toArray, n, rfl, ho, hc, hd, r2.ints⟩, hne _ (by rw [← ek]; exact List.mem_map.mpr ⟨_, hm, rfl⟩)⟩
  refine SrtO.sorted_ord (lexK_swo fun u => k (backV u)) hl.isList (by rw [← rv.length]; exact hz) (fun h2 h₁ a' ha kk => ?_) fun out h1 h2 => ?_
  · refine nums_sortable (s := { s with heap := h₁ }) (by omega) (fun v hm => ⟨(hN h2 v hm).1.keeps fun b o e _ => (kk b o e).2, (hN h2 v hm).2⟩) fun o e => ?_
    have e' : some o = some _ := e.symm.trans ha
    cases e'
    exact fun c => absurd (Value.type.inj c) (by decide)
  · obtain ⟨ep, he'⟩ := PyProof.Rows.sortedAll_at s.heap its out.toArray
    have h3 : ∀ u ∈ out, ∃ a, u = Value.ref a := fun u hu => e2 u (h2.perm.mem_iff.mp hu)
    have hp : (out.map backV).Perm xs := by rw [e1]; exact h2.perm.map backV
    have hs2 : (out.map backV).map k = sortI ls := by
      refine sortI_eq ?_ (by rw [← ek]; exact hp.map k)
      rw [List.map_map]
      exact List.pairwise_map.mpr h1
    refine ⟨.ref _, upd H (s.heap.objs.size + 1) (.lst (out.map backV)), I.laid (t' := s.toks) (fun _ _ => PyProof.Rows.sortedAll_old) (Nat.le_succ _) ⟨by rw [hp.length_eq]; exact hz, out, ep, vals_back h3, he'⟩, rfl, q _ _ ?_ (I.hok.fresh (Nat.le_succ _))⟩
    rw [← hs2]
    exact AlR.of_map fun y hy => hx y (hp.mem_iff.mp hy)
section
variable {K : PySem.W.Frag} {W : Wd}
theorem nums_rep : ∀ {vs : List V} {ds : List D} {ls : List (List Int)}, Reps K W vs ds → numsL ds = some ls → AlR (fun x l => Rep K W x (.tup (l.map D.int))) vs ls
  | _, _, ls, .nil, e => by
    cases e
    exact .nil
  | _, _, ls, .cons (d := d) (ds := ds) h r, e => by
    rw [numsL, Option.bind_eq_some_iff] at e
    obtain ⟨a, e1, e2⟩ := e
    rw [Option.map_eq_some_iff] at e2
    obtain ⟨t, e3, rfl⟩ := e2
    refine .cons ?_ (nums_rep r e3)
    cases d with
    | tup xs =>
      have e4 : xs = a.map D.int := by
        have key : ∀ (xs : List D) (a : List Int), intsL xs = some a → xs = a.map D.int := by
          intro xs
          induction xs with
          | nil => intro a h; cases h; rfl
          | cons x xs ih =>
            intro a h
            cases x with
            | int i =>
              rw [intsL, Option.map_eq_some_iff] at h
              obtain ⟨b, hb, rfl⟩ := h
              rw [ih b hb]
              rfl
            | _ => exact absurd h (by simp [intsL])
        exact key xs a e1
      rw [← e4]
      exact h
    | _ => cases e1
theorem ints_out : ∀ {vs : List V} {l : List Int}, Reps K W vs (l.map D.int) → vs = l.map V.int
  | _, [], .nil => rfl
  | _, i :: l, .cons h r => by
    rw [Rep.inj_int h, ints_out r]
    rfl
theorem AlR.reps : ∀ {vs : List V} {ls : List (List Int)}, AlR (fun x l => Rep K W x (.tup (l.map D.int))) vs ls → Reps K W vs (ls.map fun l => .tup (l.map D.int))
  | _, _, .nil => .nil
  | _, _, .cons h r => .cons h (AlR.reps r)
theorem co_sort : CaO K (rSortN K) (fo1 D.sortT) := by
  intro W H vs ds Q E w rs h
  obtain ⟨d, rfl, h⟩ := fo1_run h
  obtain ⟨v, rfl, r⟩ := rs.of1
  cases r with
  | @lst a vs ds hx r =>
    obtain ⟨ls, e, h2⟩ := ofO_run h
    obtain ⟨hne, q⟩ := h2
    refine ⟨a, vs, ls, _, rfl, .inl (.inl (w.sub _ _ hx)), nums_rep r e, fun x l hr => ?_, hne, fun ys p hy hp => post_own w q hy.reps p hp⟩
    cases hr with
    | tup ht hr =>
      rw [ints_out hr] at ht
      exact ⟨_, rfl, w.sqT ht⟩
  | _ => exact (show False from h).elim
end
end Ev

namespace Ev
open PySem PySem.Spec L2
variable [Tb]
/-! ### slices of tuples, with a step -/
section
variable {prog : Program} {w : World} {A : Around} {E : Value → Shared → Prop} {s : Shared}
theorem applied_st {c0 : Addr} {v1 v2 v3 : Value} {lo hi : Option Int} {st : Int} {n : Nat} {Q : Int × Int × Nat → Shared → Prop} (hS : s.heap.IsSliceOf c0 v1 v2 v3) (p1 : IsPart v1 lo) (p2 : IsPart v2 hi) (p3 : IsPart v3 (some st)) (h0 : st ≠ 0)
    (hQ : Q ((Builtin.Slice.sliceAdjust lo hi st n).1, st, Builtin.Slice.slicePlaces (Builtin.Slice.sliceAdjust lo hi st n).1 (Builtin.Slice.sliceAdjust lo hi st n).2 st) s) :
    wpAny (model prog w) A (Builtin.Slice.sliceApplied (.ref c0) (pure (n : Int))) Q E s := by
  obtain ⟨o1, ho1, hc1, hd1⟩ := id hS
  unfold Builtin.Slice.sliceApplied Builtin.Slice.sliceFields
  refine wpAny_bind (wpAny_bind (wpAny_field ho1 hd1 (x := v1) rfl (wpAny_bind (wpAny_field ho1 hd1 (x := v2) rfl (wpAny_bind (wpAny_field ho1 hd1 (x := v3) rfl (wpAny_pure ?_)))))))
  refine wpAny_bind (HT.slicePart_ p3 ?_)
  have hz : ¬ ((st == 0) = true) := by simpa using h0
  show wpAny _ _ (if (st == 0) = true then _ else _) _ _ s
  rw [if_neg hz]
  exact wpAny_bind (HT.slicePart_ p1 (wpAny_bind (HT.slicePart_ p2 (wpAny_bind (wpAny_pure (wpAny_pure hQ))))))
theorem getItem_st {t c0 : Addr} {items : Array Value} {v1 v2 v3 : Value} {lo hi : Option Int} {st : Int} {Q : Value → Shared → Prop} (hT : PyProof.Rows.IsTup s.heap t items) (hS : s.heap.IsSliceOf c0 v1 v2 v3) (p1 : IsPart v1 lo) (p2 : IsPart v2 hi) (p3 : IsPart v3 (some st)) (h0 : st ≠ 0)
    (hl : (stepL items.toList lo hi st).length ≤ sizeLine) (q1 : stepL items.toList lo hi st = items.toList → Q (.ref t) s)
    (q2 : Q (.ref s.heap.objs.size) { s with heap := s.heap.push { cls := .type "tuple", data := .seq (stepL items.toList lo hi st).toArray } }) : wpAny (model prog w) A (getItem (.ref t) (.ref c0)) Q E s := by
  obtain ⟨o1, ho1, hc1, hd1⟩ := id hS
  have hTc : s.TypeIs (.ref c0) "slice" := ⟨o1, ho1, hc1⟩
  unfold getItem
  try with_reducible refine wpAny_holding ?_
  first | refine wpAny_bind (wpAny_pure ?_) | skip
  refine wpAny_bind (wpAny_sequenceKey hT.typeIs (by decide) ?_)
  refine wpAny_bind (wpAny_callSpecial?_slot (name := Str.ofString "__getitem__") hT.typeIs PyProof.Rows.slot_tuple_getitem (wpAny_call_entry PyProof.Rows.slot_tuple_getitem hT.typeIs PyProof.Rows.entry_tuple_getitem ?_ (PyProof.Rows.args_tuple_getitem _ _)))
  show wpAny _ _ (Builtin.Tuple.tupleItemsOf (.ref t) >>= _) _ _ s
  refine wpAny_bind (PyProof.Rows.tupleItemsOf_ hT ?_)
  refine wpAny_bind (wpAny_typeOf hTc ?_)
  rw [if_pos (by decide)]
  refine wpAny_bind (applied_st hS p1 p2 p3 h0 ?_)
  have hsz : items.toList.length = items.size := Array.length_toList
  have hpick : ((List.range (Builtin.Slice.slicePlaces (Builtin.Slice.sliceAdjust lo hi st items.size).1 (Builtin.Slice.sliceAdjust lo hi st items.size).2 st)).filterMap fun (k : Nat) => items[((Builtin.Slice.sliceAdjust lo hi st items.size).1 + (k : Int) * st).toNat]?) = stepL items.toList lo hi st := by
    unfold stepL
    rw [hsz]
    congr 1
    funext k
    exact Array.getElem?_toList.symm
  show wpAny _ _ (if ((Builtin.Slice.sliceAdjust lo hi st items.size).1 == 0 && st == 1 && Builtin.Slice.slicePlaces (Builtin.Slice.sliceAdjust lo hi st items.size).1 (Builtin.Slice.sliceAdjust lo hi st items.size).2 st == items.size) = true then _ else _) _ _ s
  by_cases hw : ((Builtin.Slice.sliceAdjust lo hi st items.size).1 == 0 && st == 1 && Builtin.Slice.slicePlaces (Builtin.Slice.sliceAdjust lo hi st items.size).1 (Builtin.Slice.sliceAdjust lo hi st items.size).2 st == items.size) = true
  · rw [if_pos hw]
    refine wpAny_bind ?_
    show wpAny _ _ (typeOf (.ref t) >>= fun T => pure (T == .type "tuple")) _ _ s
    refine wpAny_bind (wpAny_typeOf hT.typeIs (wpAny_pure ?_))
    have hsame : stepL items.toList lo hi st = items.toList := by
      rw [← hpick]
      rw [Bool.and_eq_true, Bool.and_eq_true] at hw
      have e1 : (Builtin.Slice.sliceAdjust lo hi st items.size).1 = 0 := by simpa using hw.1.1
      have e2 : st = 1 := by simpa using hw.1.2
      have e3 := eq_of_beq hw.2
      rw [e3, e1, e2]
      apply List.ext_getElem?
      intro i
      have key : ∀ n : Nat, n ≤ items.size → (List.range n).filterMap (fun k : Nat => items[((0 : Int) + (k : Int) * 1).toNat]?) = items.toList.take n := by
        intro n
        induction n with
        | zero => intro _; rfl
        | succ n ih =>
          intro hn
          rw [List.range_succ, List.filterMap_append, ih (by omega), List.take_add_one]
          have e5 : items.toList[n]? = some items[n] := by rw [Array.getElem?_toList]; exact Array.getElem?_eq_getElem (by omega)
          have e6 : items[((0 : Int) + (n : Int) * 1).toNat]? = some items[n] := by rw [show ((0 : Int) + (n : Int) * 1).toNat = n by omega]; exact Array.getElem?_eq_getElem (by omega)
          congr 1
          simp only [List.filterMap_cons, e5, e6, List.filterMap_nil]
          rfl
      rw [key _ (Nat.le_refl _), ← hsz, List.take_length]
    first
      | rw [if_pos (by decide)]
      | simp only [beq_self_eq_true, if_true]
    first
      | exact wpAny_bind (wpAny_rule (wpAny_pure ⟨_, rfl, wpAny_pure (q1 hsame)⟩))
      | exact wpAny_bind (wpAny_rule (wpAny_bind (wpAny_pure (wpAny_pure ⟨_, rfl, wpAny_pure (q1 hsame)⟩))))
  · rw [if_neg hw, hpick]
    have hk : sizeOk (.seq (stepL items.toList lo hi st).toArray) := by
      show (stepL items.toList lo hi st).toArray.size ≤ sizeLine
      rw [List.size_toArray]
      exact hl
    first
      | exact wpAny_bind (m := Builtin.Tuple.tupleExact _) (wpAny_newObj_type (wpAny_pure ⟨_, rfl, wpAny_pure q2⟩) hk)
      | exact wpAny_bind (m := Builtin.Tuple.tupleExact _) (wpAny_newObj_type (wpAny_bind (wpAny_pure (wpAny_pure ⟨_, rfl, wpAny_pure q2⟩))) hk)
      | exact wpAny_bind (wpAny_bind (m := Builtin.Tuple.tupleExact _) (wpAny_newObj_type (wpAny_pure (wpAny_pure ⟨_, rfl, wpAny_pure q2⟩)) hk))
      | exact wpAny_bind (wpAny_bind (m := Builtin.Tuple.tupleExact _) (wpAny_newObj_type (wpAny_pure ⟨_, rfl, wpAny_pure q2⟩) hk))
end
def rSlS (K : PySem.W.Frag) : V → Option Int → Option Int → Option Int → Hp → VK → Prop := fun x lo hi so H Q => ∃ a xs st, x = .ref a ∧ so = some st ∧ SqT K H a xs ∧ st ≠ 0 ∧ (stepL xs lo hi st).length ≤ sizeLine ∧
  (stepL xs lo hi st = xs → Q (.ref a) H) ∧ NewT H (stepL xs lo hi st) Q
def tSlS (K : PySem.W.Frag) (te : TE) (tl th ts : TO) : TE := fun σ H Q => te σ H fun x H1 => tl σ H1 fun l H2 => th σ H2 fun h H3 => ts σ H3 fun s H4 => rSlS K x l h s H4 Q
theorem stepL_len {α β : Type} {xs : List α} {ys : List β} (h : xs.length = ys.length) (lo hi : Option Int) (st : Int) : (stepL xs lo hi st).length = (stepL ys lo hi st).length := by
  unfold stepL
  rw [h]
  induction (List.range (PySem.Builtin.Slice.slicePlaces (PySem.Builtin.Slice.sliceAdjust lo hi st ys.length).1 (PySem.Builtin.Slice.sliceAdjust lo hi st ys.length).2 st)) with
  | nil => rfl
  | cons k r ih =>
    rw [List.filterMap_cons, List.filterMap_cons]
    cases c1 : xs[((PySem.Builtin.Slice.sliceAdjust lo hi st ys.length).1 + (k : Int) * st).toNat]? with
    | none =>
      cases c2 : ys[((PySem.Builtin.Slice.sliceAdjust lo hi st ys.length).1 + (k : Int) * st).toNat]? with
      | none => exact ih
      | some b =>
        have := (List.getElem?_eq_some_iff.mp c2).1
        rw [List.getElem?_eq_none_iff] at c1
        omega
    | some a =>
      cases c2 : ys[((PySem.Builtin.Slice.sliceAdjust lo hi st ys.length).1 + (k : Int) * st).toNat]? with
      | none =>
        have := (List.getElem?_eq_some_iff.mp c1).1
        rw [List.getElem?_eq_none_iff] at c2
        omega
      | some b => exact congrArg Nat.succ ih
theorem Reps.step {K : PySem.W.Frag} {W : Wd} {vs : List V} {ds : List D} (lo hi : Option Int) (st : Int) (r : Reps K W vs ds) : Reps K W (stepL vs lo hi st) (stepL ds lo hi st) := by
  unfold stepL
  rw [r.length]
  induction (List.range (PySem.Builtin.Slice.slicePlaces (PySem.Builtin.Slice.sliceAdjust lo hi st ds.length).1 (PySem.Builtin.Slice.sliceAdjust lo hi st ds.length).2 st)) with
  | nil => exact .nil
  | cons k t ih =>
    rw [List.filterMap_cons, List.filterMap_cons]
    cases c : ds[((PySem.Builtin.Slice.sliceAdjust lo hi st ds.length).1 + (k : Int) * st).toNat]? with
    | none =>
      have c2 : vs[((PySem.Builtin.Slice.sliceAdjust lo hi st ds.length).1 + (k : Int) * st).toNat]? = none := by
        rw [List.getElem?_eq_none_iff] at c ⊢
        rw [r.length]
        exact c
      rw [c2]
      exact ih
    | some d =>
      obtain ⟨v, c2, rv⟩ := r.get c
      rw [c2]
      exact .cons rv ih
theorem stepL_vals {vs : List V} {us : List Value} (lo hi : Option Int) (st : Int) (r : Vals vs us) : Vals (stepL vs lo hi st) (stepL us lo hi st) := by
  unfold stepL
  have hl : vs.length = us.length := r.length
  rw [hl]
  induction (List.range (PySem.Builtin.Slice.slicePlaces (PySem.Builtin.Slice.sliceAdjust lo hi st us.length).1 (PySem.Builtin.Slice.sliceAdjust lo hi st us.length).2 st)) with
  | nil => exact .nil
  | cons k t ih =>
    rw [List.filterMap_cons, List.filterMap_cons]
    cases c : vs[((PySem.Builtin.Slice.sliceAdjust lo hi st us.length).1 + (k : Int) * st).toNat]? with
    | none =>
      have c2 : us[((PySem.Builtin.Slice.sliceAdjust lo hi st us.length).1 + (k : Int) * st).toNat]? = none := by
        rw [List.getElem?_eq_none_iff] at c ⊢
        omega
      rw [c2]
      exact ih
    | some d =>
      obtain ⟨u, c2, rv⟩ := r.get c
      rw [c2]
      exact .cons rv ih
theorem vals_same : ∀ {vs ws : List V} {us : List Value}, Vals vs us → Vals ws us → (∀ v w u, RelV v u → RelV w u → v = w) → vs = ws
  | _, _, _, .nil, .nil, _ => rfl
  | _, _, _, .cons a b, .cons c d, h => by rw [h _ _ _ a c, vals_same b d h]
def vBack : Value → Option V
  | .none => some .non
  | .bool b => some (.bl b)
  | .int i _ => some (.int i)
  | .str x _ => some (.str x)
  | .bytes b _ => some (.byt b)
  | .float b _ => some (.flt b)
  | .ref a => some (.ref a)
  | .type n => some (.ty n)
  | _ => none
theorem rel_back {v : V} {u : Value} (h : RelV v u) : vBack u = some v := by
  cases v <;> first | (obtain ⟨t, rfl⟩ := h; rfl) | (cases h; rfl)
theorem rel_same : ∀ v w u, RelV v u → RelV w u → v = w := fun v w u h k => Option.some.inj ((rel_back h).symm.trans (rel_back k))
theorem pe_sliceS {X : Cx} {K : PySem.W.Frag} {e : Expr} {te : TE} {lo hi : Option Expr} {es : Expr} {tl th ts : TO} {p2 pos : Pos} (hK : X.K = K) (he : PE X e te) (h1 : PO X lo tl) (h2 : PO X hi th) (h3 : PO X (some es) ts) :
    PE X (.Subscript e (.Slice lo hi (some es) p2) pos) (tSlS K te tl th ts) := by
  subst hK
  constructor
  intro pins s σ H Q I h
  refine PyProof.Rows.Subscript_ (thn (he.run pins s σ H _ I h) fun v s1 ⟨x, H1, I1, r1, q1⟩ => ?_)
  refine wpAny_Slice (thn (h1.run pins s1 σ H1 _ I1 q1) fun vl s2 ⟨l, H2, I2, pl, q2⟩ => thn (h2.run pins s2 σ H2 _ I2 q2) fun vu s3 ⟨u, H3, I3, pu, q3⟩ => thn (h3.run pins s3 σ H3 _ I3 q3) fun vs s4 ⟨so, H4, I4, ps, q4⟩ => ?_)
  obtain ⟨a, xs, st, rfl, rfl, hT, h0, hz, qa, qb⟩ := q4
  cases r1
  have I5 : L2.Inv X pins σ H4 { s4 with heap := s4.heap.push { cls := .type "slice", data := .fields #[vl, vu, vs] } } := I4.kept (t' := s4.toks) fun b ob q => Heap.get?_push_of_some _ q
  obtain ⟨its, r, ht, hs2⟩ := I5.tuple hT
  have hlen := r.length
  show wpAny (model X.prog X.w) X.A (PyProof.Rows.subscriptTail e (.Slice lo hi (some es) p2) (.ref a) (.ref s4.heap.objs.size)) (EP X pins σ Q) X.xe { s4 with heap := s4.heap.push { cls := .type "slice", data := .fields #[vl, vu, vs] } }
  refine PyProof.Rows.tail_any (ops := [.ref a, .ref s4.heap.objs.size]) ht.typeIs PyProof.Rows.slot_tuple_getitem.lookup ?_ (by with_unfolding_all rfl)
  have e1 := stepL_len hlen l u st
  refine getItem_st ht (Heap.IsSliceOf.new _ vl vu vs) pl pu ps h0 (by rw [← e1]; exact hz) (fun e2 => ?_) ?_
  · refine ⟨.ref a, H4, I5, rfl, qa ?_⟩
    have r2 := stepL_vals l u st r
    rw [show stepL its l u st = its from e2] at r2
    exact vals_same r2 r rel_same
  · exact ep_tupP (t' := s4.toks) I5 (stepL_vals l u st r) hz qb
section
variable {S : Sx} {ρ : List Sl} {ra : M D} {ta : TE}
theorem se_sliceS {tl th ts : TO} {rl rh rs : M (Option Int)} (h : SE S ta ρ ra) (hl : SP S tl ρ rl) (hh : SP S th ρ rh) (hs : SP S ts ρ rs) : SE S (tSlS S.K ta tl th ts) ρ (cutSM ra rl rh rs) := fun σ H W H0 Q e w q => by
  refine h.go e w q (fun _ z => z) fun d v W1 H1 q1 s1 r1 e1 => ?_
  refine hl σ H1 W1 H0 _ e1 s1.ok (rl.mono (fun l hl W2 H2 s2 => ?_) (fun _ z => z.after w s1) q1)
  have w2 := s1.trans w s2
  refine hh σ H2 W2 H0 _ (e1.step s2) s2.ok (rh.mono (fun u hu W3 H3 s3 => ?_) (fun _ z => z.after w w2) hl)
  have w3 := w2.trans w s3
  refine hs σ H3 W3 H0 _ ((e1.step s2).step s3) s3.ok (rs.mono (fun c hc W4 H4 s4 => ?_) (fun _ z => z.after w w3) hu)
  have w4 := w3.trans w s4
  cases r1 with
  | @tup a vs ds hx r => cases c with
    | some st =>
      obtain ⟨⟨h0, hz⟩, q5⟩ := hc
      have hx4 := (s2.le.trans (s3.le.trans s4.le)).bqT hx
      have r4 := r.mono (s2.le.trans (s3.le.trans s4.le))
      have q6 : Post S.K Q W4 H4 (.tup (stepL ds l u st)) := Post.after w w4 q5
      refine ⟨a, vs, st, rfl, rfl, s4.ok.sqT hx4, h0, by rw [stepL_len r.length]; exact hz, fun e2 => ?_, post_tup s4.ok q6 (r4.step l u st)⟩
      have r5 := r4.step l u st
      rw [e2] at r5
      exact post_here s4.ok q6 (.tup hx4 r5)
    | none => exact (show False from hc).elim
  | _ => exact (show False from hc).elim
end
/-! ### a tuple so many times -/
section
theorem tuple_mul1 (l : Addr) (items : Array Value) (n : Nat) (dd : Option Addr) (sl : Array (Option Value)) (x : Int) (u : Tok) (c0 : (decide (x < -(2 ^ 63)) || decide (x ≥ 2 ^ 63)) = false) (c1 : (items.isEmpty || x == 1) = true) :
    Meets (Builtin.«tuple.__mul__» ⟨[.ref l, .int x u], []⟩) (fun _ R s0 => s0.heap.get? l = some { cls := .type "tuple", dict := dd, data := .seq items n, slots := sl } ∧ R (.ok (.ret (Value.ref l))) s0) :=
  .of_wp fun pr w1 A1 R1 s1 hh1 => by
    obtain ⟨hq, g1, d1, tk1, os1⟩ := s1
    obtain ⟨hl1, hh1⟩ := hh1
    have f1 := AutoSeq1.idx_int
    wp_walk using wpAny_loadPart' hl1
    repeat (first
      | (refine wpAny_ite_false (decide_eq_false (by rw [c0]; exact Bool.false_ne_true)) ?_; wp_walk using wpAny_loadPart' hl1)
      | (refine wpAny_ite_true (decide_eq_true c1) ?_; wp_walk using wpAny_loadPart' hl1))
    exact ⟨_, rfl, hh1⟩
theorem tuple_mul0 (l : Addr) (items : Array Value) (n : Nat) (dd : Option Addr) (sl : Array (Option Value)) (x : Int) (u : Tok) (c0 : (decide (x < -(2 ^ 63)) || decide (x ≥ 2 ^ 63)) = false) (c1 : (items.isEmpty || x == 1) = false) (c2 : (decide (x ≤ 0) || items.isEmpty) = true) :
    Meets (Builtin.«tuple.__mul__» ⟨[.ref l, .int x u], []⟩) (fun _ R s0 => s0.heap.get? l = some { cls := .type "tuple", dict := dd, data := .seq items n, slots := sl } ∧
      R (.ok (.ret (Value.ref s0.heap.objs.size))) { s0 with heap := s0.heap.push { cls := Value.type "tuple", data := Data.seq #[] }, toks := s0.toks }) :=
  .of_wp fun pr w1 A1 R1 s1 hh1 => by
    obtain ⟨hq, g1, d1, tk1, os1⟩ := s1
    obtain ⟨hl1, hh1⟩ := hh1
    have f1 := AutoSeq1.idx_int
    wp_walk using wpAny_loadPart' hl1
    repeat (first
      | (refine wpAny_ite_false (decide_eq_false (by rw [c0]; exact Bool.false_ne_true)) ?_; wp_walk using wpAny_loadPart' hl1)
      | (refine wpAny_ite_false (decide_eq_false (by rw [c1]; exact Bool.false_ne_true)) ?_; wp_walk using wpAny_loadPart' hl1)
      | (refine wpAny_ite_true (decide_eq_true c2) ?_; wp_walk using wpAny_loadPart' hl1))
    exact ⟨_, rfl, hh1⟩
def rMul1 (K : PySem.W.Frag) : R2 := fun x y H Q => ∃ l k xs, x = .ref l ∧ y = .int k ∧ SqT K H l xs ∧ -(2 ^ 63) ≤ k ∧ k < 2 ^ 63 ∧ (xs = [] ∨ k ≤ 1) ∧ ((xs = [] ∨ k = 1) → Q (.ref l) H) ∧ (xs ≠ [] → k ≤ 0 → NewT H [] Q)
theorem op_mul1 {X : Cx} {K : PySem.W.Frag} (hK : X.K = K) : OpR X (binaryOp .Mult) (rMul1 K) := by
  subst hK
  intro pins s σ H x y v u Q I rx ry h
  obtain ⟨l, k, xs, rfl, rfl, hT, b0, b1, hor, q1, q2⟩ := h
  cases rx
  obtain ⟨t, rfl⟩ := ry
  obtain ⟨its, r, ⟨⟨cls, dd, data, sl⟩, ho, hc, n, hd⟩, hs⟩ := I.tuple hT
  simp only at hc hd
  subst hc hd
  have hle : its.length = xs.length := r.length.symm
  have he : its.toArray.isEmpty = xs.isEmpty := by
    cases its with
    | nil =>
      cases xs with
      | nil => rfl
      | cons a b => cases hle
    | cons a b =>
      cases xs with
      | nil => cases hle
      | cons c d => rfl
  have c0 : (decide (k < -(2 ^ 63)) || decide (k ≥ 2 ^ 63)) = false := by
    rw [decide_eq_false (by omega), decide_eq_false (by omega)]
    rfl
  refine wpAny_binaryOp_repeat_ref (T := "tuple") (U := "int") (by decide) ⟨_, ho, rfl⟩ (fun s' => typeIs_int s' k t) noFill_tuple_mul F.fills_int_mul F.slot_int_rmul repeat_tuple F.slot_int_index.lookup
    (call_meets F.slot_int_rmul (typeIs_int s k t) F.entry_int_rmul (F.args_int_rmul_2 _ _) (int_rmul_tuple k t l its.toArray n dd sl) ⟨ho, rfl, ⟨_, ho, rfl⟩, ?_⟩)
  by_cases hw : xs = [] ∨ k = 1
  · have c1 : (its.toArray.isEmpty || k == 1) = true := by
      rw [he]
      rcases hw with rfl | rfl
      · rfl
      · simp
    exact call_meets F.slot_tuple_mul ⟨_, ho, rfl⟩ F.entry_tuple_mul (F.args_tuple_mul_2 _ _) (tuple_mul1 l its.toArray n dd sl k t c0 c1) ⟨ho, .ref l, H, I, rfl, q1 hw⟩
  · have hx : xs ≠ [] := fun e => hw (.inl e)
    have hk : k ≤ 0 := by
      have : k ≠ 1 := fun e => hw (.inr e)
      rcases hor with e | e
      · exact absurd e hx
      · omega
    have hx2 : xs.isEmpty = false := by
      cases xs with
      | nil => exact absurd rfl hx
      | cons a b => rfl
    have c1 : (its.toArray.isEmpty || k == 1) = false := by
      rw [he, hx2, Bool.false_or]
      exact beq_eq_false_iff_ne.mpr (by omega)
    have c2 : (decide (k ≤ 0) || its.toArray.isEmpty) = true := by rw [decide_eq_true hk]; rfl
    refine call_meets F.slot_tuple_mul ⟨_, ho, rfl⟩ F.entry_tuple_mul (F.args_tuple_mul_2 _ _) (tuple_mul0 l its.toArray n dd sl k t c0 c1 c2) ⟨ho, ?_⟩
    exact ep_tupP (t' := s.toks) (its := []) I .nil (Nat.zero_le _) (q2 hx hk)
def rMulB (K : PySem.W.Frag) : R2 := fun x y H Q => rMulA K x y H Q ∨ rMul1 K x y H Q
theorem op_mulB {X : Cx} {K : PySem.W.Frag} (hK : X.K = K) : OpR X (binaryOp .Mult) (rMulB K) := (op_mulK hK).or (op_mul1 hK)
theorem os_mulB {K : PySem.W.Frag} : OpS K (rMulB K) D.mulA := by
  intro W H x y dx dy Q E w rx ry h
  unfold D.mulA at h
  split at h
  · rename_i xs k
    by_cases c : xs ≠ [] ∧ 2 ≤ k
    · rw [if_pos c] at h
      exact .inl (os_mul W H x y _ _ Q E w rx ry h)
    · rw [if_neg c] at h
      obtain ⟨⟨b0, b1⟩, q⟩ := h
      cases rx with
      | @tup a vs ds hx r => cases ry with
        | int k =>
          have hv : vs = [] ↔ xs = [] := by
            rw [← List.length_eq_zero_iff, ← List.length_eq_zero_iff, r.length]
          refine .inr ⟨a, k, vs, rfl, rfl, w.sqT hx, b0, b1, ?_, fun e => ?_, fun e1 e2 => ?_⟩
          · rw [hv]
            by_cases c2 : xs = []
            · exact .inl c2
            · right
              have : ¬ 2 ≤ k := fun z => c ⟨c2, z⟩
              omega
          · have : rep k xs = xs := by
              rcases e with e | e
              · rw [hv.mp e]
                unfold rep
                rw [List.flatten_replicate_nil]
              · subst e
                unfold rep
                show (List.replicate 1 xs).flatten = xs
                simp
            have q2 : Post K Q W H (.tup (rep k xs)) := q
            rw [this] at q2
            exact post_here w q2 (.tup hx r)
          · have : rep k xs = [] := by
              unfold rep
              rw [show k.toNat = 0 by omega]
              rfl
            have q2 : Post K Q W H (.tup (rep k xs)) := q
            rw [this] at q2
            exact post_tup w q2 .nil
  · exact .inl (os_mul W H x y _ _ Q E w rx ry h)
end
/-! ### in, not in -/
def rInA (K : PySem.W.Frag) : R2 := fun x y H Q => rIn K false x y H Q ∨ rInD K x y H Q
def rNotInA (K : PySem.W.Frag) : R2 := fun x y H Q => rIn K true x y H Q ∨ rNotInD K x y H Q
theorem op_inA {X : Cx} {K : PySem.W.Frag} {k : Nat} (hK : X.K = K) (hr : Room k X.A) : OpR X (compareOp .In) (rInA K) := by subst hK; exact op_in_seq.or (op_inD (by have := hr.un; omega))
theorem op_notinA {X : Cx} {K : PySem.W.Frag} {k : Nat} (hK : X.K = K) (hr : Room k X.A) : OpR X (compareOp .NotIn) (rNotInA K) := by subst hK; exact op_notIn_seq.or (op_notInD (by have := hr.un; omega))
section
variable {K : PySem.W.Frag} {W : Wd} {H : Hp}
theorem inn_ints {vs : List V} {xs : List D} {ns : List Int} (r : Reps K W vs xs) (e : intsL xs = some ns) (i : Int) : vs.all flatV = true ∧ inV (.int i) vs = ns.any fun n => n == i := by
  rw [ints_rep r e]
  unfold inV
  rw [List.all_map, List.any_map]
  exact ⟨List.all_eq_true.mpr fun _ _ => rfl, rfl⟩
theorem inn_run {x d : D} {u v : V} {P : Bool → Prop} {E : Exn → Prop} (w : WOk W H) (rx : Rep K W v x) (ry : Rep K W u d) (h : (innB x d).run P E) :
    ∃ b, P b ∧ ((∃ p xs, u = .ref p ∧ (SqL K H p xs ∨ SqT K H p xs) ∧ flatV v = true ∧ xs.all flatV = true ∧ inV v xs = b) ∨
      (∃ d1 ds, Dp K H v d1 ∧ Dp K H u (.list ds) ∧ SeqAt.shaped d1 = true ∧ SeqAt.shaped (.list ds) = true ∧ (ds.any fun z => PyData.eqv z d1) = b)) := by
  cases ry with
  | @lst a vs xs hx r =>
    obtain ⟨⟨h1, h2⟩, q⟩ := h
    obtain ⟨p1, s1⟩ := cmp_split h1
    obtain ⟨p2, s2⟩ := cmp_split h2
    refine ⟨_, q, .inr ⟨x.py, D.pys xs, rx.dp w p1, ?_, s1, ?_, ?_⟩⟩
    · have := (Rep.lst (K := K) hx r).dp w p2
      rwa [D.py] at this
    · rwa [D.py] at s2
    · rw [D.pys_map, List.any_map]
      rfl
  | @tup a vs xs hx r =>
    cases x with
    | int i =>
      obtain ⟨ns, e, q⟩ := ofO_run h
      obtain ⟨h1, h2⟩ := inn_ints r e i
      cases rx
      exact ⟨_, q, .inl ⟨a, vs, rfl, .inr (w.sqT hx), rfl, h1, h2⟩⟩
    | _ => exact (show False from h).elim
  | _ => exact (show False from h).elim
theorem os_in : OpS K (rInA K) D.innA := by
  intro W H x y dx dy Q E w rx ry h
  obtain ⟨b, q, c⟩ := inn_run w rx ry h
  have q2 := post_here w q (.bl b)
  rcases c with ⟨p, xs, rfl, hq, f1, f2, e⟩ | ⟨d1, ds, c1, c2, c3, c4, e⟩
  · exact .inl ⟨p, xs, rfl, hq, f1, f2, by rw [if_neg (by decide), e]; exact q2⟩
  · exact .inr ⟨d1, ds, c1, c2, c3, c4, by rw [e]; exact q2⟩
theorem os_notin : OpS K (rNotInA K) D.notinA := by
  intro W H x y dx dy Q E w rx ry h
  obtain ⟨b, q, c⟩ := inn_run w rx ry h
  have q2 := post_here w q (.bl (!b))
  rcases c with ⟨p, xs, rfl, hq, f1, f2, e⟩ | ⟨d1, ds, c1, c2, c3, c4, e⟩
  · exact .inl ⟨p, xs, rfl, hq, f1, f2, by rw [if_pos rfl, e]; exact q2⟩
  · exact .inr ⟨d1, ds, c1, c2, c3, c4, by rw [e]; exact q2⟩
end
theorem os_isB {K : PySem.W.Frag} : OpS K rIsB D.isB2 := by
  intro W H x y dx dy Q E w rx ry h
  cases rx with
  | bl i => cases ry with
    | bl j => exact ⟨i, j, rfl, rfl, post_here w h (.bl _)⟩
    | _ => exact (show False from h).elim
  | _ => exact (show False from h).elim
theorem os_notB {K : PySem.W.Frag} : OpS K rNotB D.notB2 := by
  intro W H x y dx dy Q E w rx ry h
  cases rx with
  | bl i => cases ry with
    | bl j => exact ⟨i, j, rfl, rfl, post_here w h (.bl _)⟩
    | _ => exact (show False from h).elim
  | _ => exact (show False from h).elim
/-! ### list(range(..)) -/
theorem reps_rg {K : PySem.W.Frag} {W : Wd} (a b : Int) : Reps K W (rgV a b) (rangeL a b) := by
  unfold rgV rangeL
  induction (List.range (b - a).toNat) with
  | nil => exact .nil
  | cons i r ih => exact .cons (.int _) ih
section
variable {S : Sx} {ρ : List Sl} {ra rb : M D} {ta tb : TE}
theorem so_lrng1 (h : SE S ta ρ ra) : SO S (tLstRg (tRg1 ta)) ρ (lrng1 ra) := fun σ H W H0 Q e w q => by
  refine h.go e w q (fun _ z => z) fun d v W1 H1 q1 s1 r1 e1 => ?_
  cases r1 with
  | int n =>
    refine ⟨n, rfl, q1.1, fun p hp => ?_⟩
    exact q1.2 p _ W1 _ (s1.trans w (Step.raw s1.ok hp)) (s1.free0 w hp) upd_same (nopen s1.ok hp).1 (nopen s1.ok hp).2 (reps_rg 0 n)
  | _ => exact (show False from q1).elim
theorem so_lrng2 (h : SE S ta ρ ra) (h2 : SE S tb ρ rb) : SO S (tLstRg (tRg2 ta tb)) ρ (lrng2 ra rb) := fun σ H W H0 Q e w q => by
  refine h.go e w q (fun _ z => z) fun d v W1 H1 q1 s1 r1 e1 => ?_
  refine h2.go e1 s1.ok q1 (fun _ z => z.after w s1) fun d2 v2 W2 H2 q2 s2 r2 e2 => ?_
  have s3 := s1.trans w s2
  cases r1 with
  | int m => cases r2 with
    | int n =>
      refine ⟨m, n, rfl, rfl, q2.1, fun p hp => ?_⟩
      exact q2.2 p _ W2 _ (s3.trans w (Step.raw s2.ok hp)) (s3.free0 w hp) upd_same (nopen s2.ok hp).1 (nopen s2.ok hp).2 (reps_rg m n)
    | _ => exact (show False from q2).elim
  | _ => exact (show False from q2).elim
end
theorem so_se {S : Sx} {ρ : List Sl} {t : TE} {r : M (List D)} (s : SO S t ρ r) : SE S t ρ (r >>= fun ds => pure (.lst ds)) := s.se
end Ev

namespace Ev
open PySem PySem.Spec L2
variable [Tb]
/-! ### lists of one's own: an element, two at once, one that is dropped -/
section
variable {S : Sx} {own : Bool} {ρ : List Sl} {T L : Type} {enc : T → List Sl} {encL : L → List Sl} {tb : TS}
theorem se_ixO {te : TE} {r : M D} {i : Nat} {ds : List D} (h : ρ[i]? = some (.own ds)) (hi : SE S te ρ r) : SE S (tOp (rIxA S.K) (tVar i) te) ρ (bin D.ix (pure (.lst ds)) r) := fun σ H W H0 Q e w q => by
  obtain ⟨a, vs, h1, h2, h3, h4, h5, h6⟩ := e.owL i ds h
  refine ⟨_, h1, ?_⟩
  refine hi.go e w q (fun _ z => z) fun d v W1 H1 q1 s1 r1 e1 => ?_
  obtain ⟨b, us, g1, g2, g3, g4, g5, g6⟩ := e1.owL i ds h
  rw [h1] at g1
  cases g1
  cases r1 with
  | int j =>
    obtain ⟨d', e2, q2⟩ := ofO_run q1
    obtain ⟨v', e3, r3⟩ := g6.atI e2
    exact .inl ⟨a, us, j, v', rfl, rfl, .inl (.inl g2), e3, q2 v' W1 H1 s1 r3⟩
  | _ => exact (show False from q1).elim
theorem ss_paroo {t1 t2 : TE} {i j : Nat} {r1 r2 : M (List D)} {k : List D → List D → M (Fl T L)} (h1 : SO S t1 ρ r1) (h2 : SO S t2 ρ r2) (hb : ∀ d e, SS S own tb ((ρ.set i (.own d)).set j (.own e)) enc encL (k d e)) :
    SS S own (tSeq (tPar i j (tCons t1 (tCons t2 tNil))) tb) ρ enc encL (r1 >>= fun d => r2 >>= fun e => k d e) := fun Wf W0 H0 W H σ D w n q => by
  refine h1.go n.env n.ok q (xpost w n.st) fun d a vs W1 H1 q1 s1 a0 a1 a2 a3 rr1 e1 => ?_
  refine h2.go e1 s1.ok q1 (xpost w (n.st.trans w s1)) fun e b us W2 H2 q2 s2 b0 b1 b2 b3 rr2 e2 => ?_
  have nn : H1 a ≠ none := by rw [a1]; intro z; cases z
  have ab : a ≠ b := fun z => by subst z; exact nn b0
  have c1 : H2 a = some (.lst vs) := s2.old a _ a1 a3
  have f0 : H0 a = none := n.st.free0 w a0
  have f1 : H0 b = none := (n.st.trans w s1).free0 w b0
  have oa : ∀ {m : Nat} {es : OwnC}, ρ[m]? = some (.ob es) → σ[m]? ≠ some (some (.ref a)) := fun {m es} hm hs => by
    obtain ⟨c, ws, g1, g2, _⟩ := n.env.ow m es hm
    rw [g1] at hs
    cases hs
    rw [a0] at g2
    cases g2
  have ob : ∀ {m : Nat} {es : OwnC}, ρ[m]? = some (.ob es) → σ[m]? ≠ some (some (.ref b)) := fun {m es} hm hs => by
    obtain ⟨c, ws, g1, g2, _⟩ := e1.ow m es hm
    rw [g1] at hs
    cases hs
    rw [b0] at g2
    cases g2
  have e3 := e2.setOwn i c1 ((s2.newP a nn).trans a2) ((s2.newN a nn).trans a3) f0 (rr1.mono s2.le) (fun m es _ hm => oa hm)
  have e4 := e3.setOwn j b1 b2 b3 f1 rr2 (fun m es hjm hm => by
    by_cases hi : i = m
    · subst hi
      by_cases hl : i < σ.length
      · rw [List.getElem?_set_self hl]
        intro z
        cases z
        exact ab rfl
      · rw [List.getElem?_eq_none (by rw [List.length_set]; omega)]
        intro z
        cases z
    · rw [List.getElem?_set_ne hi] at hm ⊢
      exact ob hm)
  exact ⟨_, _, rfl, hb d e Wf W0 H0 W2 H2 _ D w ⟨e4, s2.ok, (n.st.trans w s1).trans w s2, n.fl.trans (s1.le.trans s2.le)⟩ q2⟩
theorem ss_appT {t1 te : TE} {r1 : M (List D)} {re : M D} {k : M (Fl T L)} (h1 : SO S t1 ρ r1) (h : SE S te ρ re) (hb : SS S own tb ρ enc encL k) :
    SS S own (tSeq (tDrop (tBM S.K "list" rAppend t1 (tCons te tNil))) tb) ρ enc encL (r1 >>= fun ds => appM ds re fun _ => k) := fun Wf W0 H0 W H σ D w n q => by
  refine h1.go n.env n.ok q (xpost w n.st) fun ds a vs W1 H1 q1 s1 a0 a1 a2 a3 rr1 e1 => ?_
  refine ⟨.inl ⟨rfl, _, .inl (.inl a1)⟩, ?_⟩
  refine h.go e1 s1.ok q1 (xpost w (n.st.trans w s1)) fun d v W2 H2 q2 s2 r2 e2 => ?_
  have nn : H1 a ≠ none := by rw [a1]; intro z; cases z
  have c1 : H2 a = some (.lst vs) := s2.old a _ a1 a3
  have cP : W2.P a = none := (s2.newP a nn).trans a2
  have cN : W2.N a = none := (s2.newN a nn).trans a3
  refine ⟨a, vs, v, rfl, rfl, c1, by rw [rr1.length]; exact q2.1, ?_⟩
  have s3 := s1.trans n.ok s2
  have nP : ∀ b o, W2.P b = some o → b ≠ a := fun b o e z => by subst z; rw [cP] at e; cases e
  have w2 : WOk W2 (upd H2 a (.lst (vs ++ [v]))) := s3.ok.put cP cN c1
  have s4 : Step W H W2 (upd H2 a (.lst (vs ++ [v]))) := ⟨s3.le, w2, fun b o e hnn => by
    rw [upd_ne (ne_of_none e a0)]
    exact s3.old b o e hnn, s3.newP, s3.newN⟩
  exact hb Wf W0 H0 W2 _ σ D w (n.step w s4) q2.2
/-- x = y where y is a list of one's own and is read no more -/
theorem ss_move {i j : Nat} {ds : List D} {m : M (Fl T L)} (h : ρ[j]? = some (.own ds)) (hij : i ≠ j) (hb : SS S own tb ((ρ.set j .no).set i (.own ds)) enc encL m) :
    SS S own (tSeq (tAsg (tVar j) (gName i)) tb) ρ enc encL m := fun Wf W0 H0 W H σ D w n q => by
  obtain ⟨a, vs, h1, h2, h3, h4, h5, h6⟩ := n.env.owL j ds h
  refine ⟨_, h1, ?_⟩
  refine hb Wf W0 H0 W H _ D w ⟨(n.env.drop j).setOwn i h2 h3 h4 h5 h6 (fun k es _ hk hs => ?_), n.ok, n.st, n.fl⟩ q
  obtain ⟨hjk, hk⟩ := getElem?_set_no hk (by intro z; cases z)
  exact n.env.ap j k _ _ a hjk h hk h1 hs
end
end Ev

namespace Ev
open PySem PySem.Spec L2
variable [Tb]
/-! ### list(range(a, b, c)) -/
def rg3V (a c : Int) (n : Nat) : List V := (List.range n).map fun i : Nat => V.int (a + (i : Int) * c)
theorem rg3_reps {K : PySem.W.Frag} {W : Wd} {a c : Int} : ∀ n, Reps K W (rg3V a c n) (rg3 a c n) := fun n => by
  unfold rg3V rg3
  generalize List.range n = l
  induction l with
  | nil => exact .nil
  | cons x r ih => exact .cons (.int _) ih
def tLst3 (ts : TA) : TE := fun σ H Q => ts σ H fun vs H1 => ∃ (i j c : Int) (n : Nat), vs = [.int i, .int j, .int c] ∧ RgC i j c n ∧ n ≤ 2 ^ 24 ∧ ∀ q, H1 q = none → Q (.ref q) (upd H1 q (.lst (rg3V i c n)))
theorem pe_listRg3 {X : Cx} {a b c : Expr} {ts : TA} {p pos p2 pos2 : Pos} (hc : X.calm = true) (hg : Gl X "list") (hm : X.mg "list" = none) (hg2 : Gl X "range") (hm2 : X.mg "range" = none) (ha : PA X [a, b, c] ts)
    (hs : starEach [a, b, c] X.env = (false, eval a X.env) :: starEach [b, c] X.env := by rfl) (hpl : (backTo pos2 (starEach [b, c] X.env)).any (·.1) = false := by rfl)
    (na : starEach [.Call (.Name "range" p2) [a, b, c] [] pos2] X.env = (false, eval (.Call (.Name "range" p2) [a, b, c] [] pos2) X.env) :: starEach [] X.env := by rfl) :
    PE X (.Call (.Name "list" p) [.Call (.Name "range" p2) [a, b, c] [] pos2] [] pos) (tLst3 ts) := by
  constructor
  intro pins s σ H Q I h
  refine PyProof.Rows.Call_ (ld_blt I hg hm PyProof.Rows.boot_list (PyProof.Rows.callWith_type1 (PyProof.Rows.args_cons ?_ na) na))
  refine PyProof.Rows.Call_ (ld_blt I hg2 hm2 PyProof.Rows.boot_range (PyProof.Rows.callWith_type1 (thn (ha.run pos2 pins s σ H _ I h) ?_) hs hpl))
  rintro us s1 ⟨vs, H1, I1, r1, i, j, k, n, e, ⟨c0, c1, c2, c3⟩, hn, q⟩
  subst e
  match us, r1 with
  | [_, _, _], .cons ⟨t, rfl⟩ (.cons ⟨t', rfl⟩ (.cons ⟨t'', rfl⟩ .nil)) =>
    refine PySem.call_range_3 c0 ?_ (.inl (PyProof.noPylong_small c1))
    refine PyProof.Rows.args_nil ?_
    have I2 : L2.Inv X pins σ H1 { s1 with heap := s1.heap.push { cls := .type "range", data := .fields #[.int i t, .int j t', .int k t''] } } := I1.kept (t' := s1.toks) fun b o e => Heap.get?_push_of_some _ e
    refine PySem.call_list_range (n := n) (I2.ok.hd hc) (IsRange.new ..) c2 c3 hn ?_
    intro h' tk acc c' hk e' hi
    have hl : (rg3V i k n).length = n := by unfold rg3V; rw [List.length_map, List.length_range]
    have hv : L2.Vals (rg3V i k n) acc.toList := by
      have e0 : acc.toList.length = n := by rw [Array.length_toList]; exact hi.1
      unfold rg3V
      rw [← e0]
      refine L2.vals_of_get acc.toList _ fun m u hj => ?_
      obtain ⟨x, rfl⟩ := hi.2 m u (by rw [← hj, Array.getElem?_toList])
      exact ⟨x, rfl⟩
    refine ⟨.ref _, upd H1 _ (.lst (rg3V i k n)), I2.laid hk (Nat.le_refl _) (show ObjOk X.prog X.w _ _ _ (.lst (rg3V i k n)) from ⟨by rw [hl, sizeLine_eq]; omega, acc.toList, c', hv, by rw [Array.toArray_toList]; exact e'⟩), rfl, q _ (I2.hok.fresh (Nat.le_refl _))⟩
theorem rg3_small {a b c : Int} (h : rg3Ok a b c) : RgC a b c (rg3N a b c) ∧ rg3N a b c ≤ 2 ^ 24 := by
  obtain ⟨a0, a1, b0, b1, c0, c1⟩ := h
  have d0 : a < b → 0 ≤ (b - a - 1) / c ∧ (b - a - 1) / c ≤ b - a - 1 := fun h => ⟨Int.ediv_nonneg (by omega) (by omega), Int.ediv_le_self _ (by omega)⟩
  have hz : Builtin.Range.rangeSize a b c = (rg3N a b c : Nat) := by
    unfold Builtin.Range.rangeSize rg3N
    rw [if_pos (by omega)]
    by_cases e : a < b
    · rw [if_pos e, if_pos e]
      have := d0 e
      omega
    · rw [if_neg e, if_neg e]
      rfl
  have hn : rg3N a b c ≤ 1000001 := by
    unfold rg3N
    by_cases e : a < b
    · rw [if_pos e]
      have := d0 e
      omega
    · rw [if_neg e]
      omega
  refine ⟨⟨by omega, by omega, ?_, hz⟩, by omega⟩
  unfold Builtin.Range.small
  rw [hz]
  have hc : c > 0 := by omega
  simp only [Builtin.Range.rangeFitsLong, Bool.and_eq_true, Bool.or_eq_true, decide_eq_true_eq, beq_iff_eq, if_pos hc]
  omega
theorem so_lrng3 {S : Sx} {ρ : List Sl} {ts : TA} {rs : List (M D)} (h : SA S ts ρ rs) : SO S (tLst3 ts) ρ (lrng3 rs) := fun σ H W H0 Q e w q => by
  refine h.go e w q (fun _ z => z) fun ds vs W1 H1 q1 s1 r1 e1 => ?_
  match ds, r1, q1 with
  | [.int a, .int b, .int c], r1, q1 =>
    obtain ⟨u, v, z, rfl, g1, g2, g3⟩ := r1.of3
    cases g1; cases g2; cases g3
    obtain ⟨ok, q1⟩ := q1
    obtain ⟨g1, g2⟩ := rg3_small ok
    refine ⟨a, b, c, rg3N a b c, rfl, g1, g2, fun p hp => ?_⟩
    exact q1 p _ W1 _ (s1.trans w (Step.raw s1.ok hp)) (s1.free0 w hp) upd_same (nopen s1.ok hp).1 (nopen s1.ok hp).2 (rg3_reps _)
/-! ### sets of numbers -/
theorem ddI_snoc (ns : List Int) (x : Int) : ddI (ns ++ [x]) = if (ddI ns).any (· == x) then ddI ns else ddI ns ++ [x] := by
  unfold ddI
  rw [List.foldl_append]
  rfl
theorem ddI_ok (ns : List Int) : (ddI ns).Nodup ∧ ∀ x, x ∈ ddI ns ↔ x ∈ ns := by
  have key : ∀ n, ∀ ns : List Int, ns.length = n → (ddI ns).Nodup ∧ ∀ x, x ∈ ddI ns ↔ x ∈ ns := fun n => by
    induction n with
    | zero =>
      intro ns h
      rw [List.length_eq_zero_iff.mp h]
      exact ⟨List.nodup_nil, fun x => Iff.rfl⟩
    | succ n ih =>
      intro ns h
      obtain ⟨ms, a, rfl⟩ : ∃ ms a, ns = ms ++ [a] := ⟨ns.dropLast, ns.getLast (fun z => by rw [z] at h; cases h), (List.dropLast_concat_getLast _).symm⟩
      obtain ⟨h1, h2⟩ := ih ms (by rw [List.length_append, List.length_singleton] at h; omega)
      rw [ddI_snoc]
      by_cases c : (ddI ms).any (· == a) = true
      · rw [if_pos c]
        obtain ⟨y, hy, ey⟩ := List.any_eq_true.mp c
        have : a ∈ ms := by rw [← eq_of_beq ey]; exact (h2 y).mp hy
        refine ⟨h1, fun x => ?_⟩
        rw [h2, List.mem_append, List.mem_singleton]
        exact ⟨.inl, fun z => z.elim id fun z => z ▸ this⟩
      · rw [if_neg c]
        have na : a ∉ ddI ms := fun z => c (List.any_eq_true.mpr ⟨a, z, beq_self_eq_true a⟩)
        refine ⟨?_, fun x => ?_⟩
        · rw [List.nodup_append]
          refine ⟨h1, by simp, fun x hx y hy e => ?_⟩
          rw [List.mem_singleton.mp hy] at e
          exact na (e ▸ hx)
        · rw [List.mem_append, List.mem_append, h2]
  exact key _ ns rfl
theorem same_len {l m : List Int} (h1 : l.Nodup) (h2 : m.Nodup) (h : ∀ x, x ∈ l ↔ x ∈ m) : l.length = m.length := ((List.perm_ext_iff_of_nodup h1 h2).mpr h).length_eq
theorem setR_count {w : World} {h : Heap} {a : Addr} {S : Int → Bool} {n : Nat} {ns : List Int} (R : SetR w h a S n) (hS : ∀ k, S k = true ↔ k ∈ ns) : n = (ddI ns).length := by
  obtain ⟨o, es, ep, t, ho, hex, hd, g, nd, hm, hb, hf, hn, _⟩ := R
  rw [← hn, ← Array.length_toList, ← List.length_map (as := es.toList) (f := keyOf)]
  exact same_len nd (ddI_ok ns).1 fun x => by rw [← hm x, hS x, (ddI_ok ns).2 x]
theorem firstMet_dd (ns : List Int) : PyProof.Rows.firstMet (fun i => ns.getD i 0) ns.length = ddI ns := by
  have e : (List.range ns.length).map (fun i => ns.getD i 0) = ns := by
    apply List.ext_getElem
    · simp
    · intro i h1 h2
      simp [List.getD_eq_getElem?_getD, h2]
  unfold PyProof.Rows.firstMet ddI
  rw [e]
  rfl
/-- set(x), x a tuple of numbers: a set of as many as are unlike -/
def rSetN (K : PySem.W.Frag) (w : World) : List V → Hp → VK → Prop := fun xs H Q => ∃ (l : Addr) (ns : List Int), xs = [.ref l] ∧ SqT K H l (ns.map V.int) ∧ ns.length ≤ 4000 ∧
  ∀ (a : Addr) (S : Int → Bool), H a = none → (∀ k, S k = true ↔ k ∈ ns) → Q (.ref a) (upd H a (SetO w a S (ddI ns).length))
theorem call_setN {X : Cx} {K : PySem.W.Frag} {w : World} (hK : X.K = K) (hw : X.w = w) (hc : X.calm = true) : CallR X (.type "set") (rSetN K w) := by
  subst hK hw
  intro pins s σ H xs us Q I r h
  obtain ⟨l, ns, rfl, hs, hn, q⟩ := h
  obtain ⟨u, rfl, ru⟩ := vals1 r
  cases ru
  obtain ⟨its, rv, pt, hz⟩ := I.tuple hs
  refine call_set_tupI ns (I.ok.hd hc) (show s.heap.IsTuple l its.toArray from pt) (ints_of_vals rv) (by unfold scanBound; omega) fun h' tk c R hcn k => ?_
  have e := setR_count (ns := ns) R fun k => by rw [decide_eq_true_eq]
  subst e
  exact ⟨.ref s.heap.objs.size, upd H s.heap.objs.size (SetO X.w s.heap.objs.size (fun j => decide (j ∈ ns)) (ddI ns).length), I.laid (t' := tk) k (Nat.le_refl _) (setO_new R), rfl, q _ _ (I.hok.fresh (Nat.le_refl _)) fun k => by rw [decide_eq_true_eq]⟩
/-- len(set(x)), x a list or a tuple of numbers -/
def tLenSet (K : PySem.W.Frag) (ta : TE) : TE := fun σ H Q => ta σ H fun x H1 => ∃ (l : Addr) (ns : List Int), x = .ref l ∧ (SqL K H1 l (ns.map V.int) ∨ SqT K H1 l (ns.map V.int)) ∧ ns.length ≤ 4000 ∧ Q (.int ((ddI ns).length : Nat)) H1
theorem pe_lenSet2 {X : Cx} {K : PySem.W.Frag} {a : Expr} {ta : TE} {p p2 q pos : Pos} (hK : X.K = K) (hg : Gl X "len") (hm : X.mg "len" = none) (hg2 : Gl X "set") (hm2 : X.mg "set" = none) (ha : PE X a ta) (hc : X.calm = true := by rfl)
    (na : starEach [a] X.env = (false, eval a X.env) :: starEach [] X.env := by rfl) : PE X (.Call (.Name "len" p) [.Call (.Name "set" p2) [a] [] q] [] pos) (tLenSet K ta) := by
  subst hK
  constructor
  intro pins s σ H Q I h
  refine PyProof.Rows.Call_ (ld_blt I hg hm PySem.boot_len ?_)
  refine PyProof.Rows.callWith_builtin1 (PyProof.Rows.args_cons ?_ rfl) rfl rfl
  refine PyProof.Rows.Call_ (ld_blt I hg2 hm2 PyProof.Rows.boot_set ?_)
  refine PyProof.Rows.callWith_type1 (PyProof.Rows.args_cons (thn (ha.run pins s σ H _ I h) ?_) na) na rfl
  rintro v s1 ⟨x, H1, I1, r1, l, ns, rfl, hq, hl, q1⟩
  refine PyProof.Rows.args_nil ?_
  cases r1
  rcases hq with hq | hq
  · obtain ⟨its, rv, pl, hz⟩ := I1.list hq
    have hlen : its.toArray.size = ns.length := by rw [List.size_toArray, ← rv.length, List.length_map]
    refine PySem.call_set_list (I1.ok.hd hc) pl.isList (ns := ns) (by simpa using ints_of_vals rv) (by rw [hlen]; unfold scanBound; omega) fun h' tk hS hk => ?_
    rw [hlen, firstMet_dd] at hS
    refine PyProof.Rows.args_nil ?_
    obtain ⟨o, es, ep, t, ho, hex, hd, _, _, hb, hf, hn⟩ := hS
    have I2 : L2.Inv X pins σ H1 { s1 with heap := h', toks := tk } := I1.kept fun b o e => hk b o (Heap.lt_size e) e
    exact call_len_set ho hex hd hf (by rw [hn]; unfold scanBound at hb; omega) ⟨.int (ddI ns).length, H1, I2.tok _, ⟨_, by rw [hn]⟩, q1⟩
  · obtain ⟨its, rv, pt, hz⟩ := I1.tuple hq
    refine call_set_tupI ns (I1.ok.hd hc) (show s1.heap.IsTuple l its.toArray from pt) (ints_of_vals rv) (by unfold scanBound; omega) fun h' tk c R hcn k => ?_
    have e := setR_count (ns := ns) R fun k => by rw [decide_eq_true_eq]
    subst e
    refine PyProof.Rows.args_nil ?_
    obtain ⟨o, es, ep, t, ho, hex, hd, _, _, _, hb, hf, hn, _⟩ := R
    have I2 : L2.Inv X pins σ H1 { s1 with heap := h', toks := tk } := I1.kept k
    exact call_len_set ho hex hd hf (by rw [hn]; omega) ⟨.int (ddI ns).length, H1, I2.tok _, ⟨_, by rw [hn]⟩, q1⟩
theorem numsOf_rep {K : PySem.W.Frag} {W : Wd} {H : Hp} {v : V} {d : D} {ns : List Int} (w : WOk W H) (r : Rep K W v d) (h : numsOf d = some ns) : ∃ l, v = .ref l ∧ (SqL K H l (ns.map V.int) ∨ SqT K H l (ns.map V.int)) := by
  cases r with
  | @tup a vs ds hx r =>
    rw [← ints_rep r h]
    exact ⟨a, rfl, .inr (w.sqT hx)⟩
  | @lst a vs ds hx r =>
    rw [← ints_rep r h]
    exact ⟨a, rfl, .inl (.inl (.inl (w.sub _ _ hx)))⟩
  | _ => cases h
section
variable {S : Sx} {ρ : List Sl} {ta : TE} {ra : M D}
theorem se_lenSet (h : SE S ta ρ ra) : SE S (tLenSet S.K ta) ρ (ra >>= lenSet) := fun σ H W H0 Q e w q => by
  refine h.go e w q (fun _ z => z) fun d v W1 H1 q1 s1 r1 e1 => ?_
  obtain ⟨ns, hn, q2⟩ := ofO_run q1
  obtain ⟨l, rfl, hl⟩ := numsOf_rep s1.ok r1 hn
  exact ⟨l, ns, rfl, hl, q2.1, q2.2 _ W1 H1 s1 (.int _)⟩
/-! sorted(set(x)), x a tuple of numbers -/
theorem putZ_perm (x : Int) : ∀ r, (putZ x r).Perm (x :: r)
  | [] => .refl _
  | y :: r => by
    rw [putZ]
    split
    · exact .refl _
    · exact ((putZ_perm x r).cons y).trans (.swap x y r)
theorem sortZ_perm : ∀ r, (sortZ r).Perm r
  | [] => .refl _
  | x :: r => (putZ_perm x _).trans ((sortZ_perm r).cons x)
theorem putZ_sorted (x : Int) : ∀ r : List Int, r.Pairwise (· ≤ ·) → (putZ x r).Pairwise (· ≤ ·)
  | [], _ => List.pairwise_singleton _ _
  | y :: r, h => by
    have h' := List.pairwise_cons.mp h
    rw [putZ]
    split
    · rename_i c
      refine List.pairwise_cons.mpr ⟨fun z hz => ?_, h⟩
      rcases List.mem_cons.mp hz with rfl | m
      · omega
      · have := h'.1 z m
        omega
    · rename_i c
      refine List.pairwise_cons.mpr ⟨fun z hz => ?_, putZ_sorted x r h'.2⟩
      rcases List.mem_cons.mp ((putZ_perm x r).mem_iff.mp hz) with rfl | m
      · omega
      · exact h'.1 z m
theorem sortZ_sorted : ∀ r : List Int, (sortZ r).Pairwise (· ≤ ·)
  | [] => List.Pairwise.nil
  | x :: r => putZ_sorted x _ (sortZ_sorted r)
theorem sortZ_of {ns ms : List Int} (h1 : ns.Pairwise (· < ·)) (h2 : ms.Nodup) (h : ∀ k, k ∈ ns ↔ k ∈ ms) : ns = sortZ ms := by
  have nd : ns.Nodup := h1.imp fun h => by omega
  have p : ns.Perm (sortZ ms) := ((List.perm_ext_iff_of_nodup nd h2).mpr h).trans (sortZ_perm ms).symm
  exact p.eq_of_pairwise (le := (· ≤ ·)) (fun a b _ _ x y => by omega) (h1.imp fun h => by omega) (sortZ_sorted ms)
theorem reps_ints {K : PySem.W.Frag} {W : Wd} : ∀ ns : List Int, Reps K W (ns.map V.int) (ns.map D.int)
  | [] => .nil
  | n :: r => .cons (.int n) (reps_ints r)
theorem so_sortSet {w : World} (h : SE S ta ρ ra) : SO S (tCB (rSortedSet w) (tCons (tCB (rSetN S.K w) (tCons ta tNil)) tNil)) ρ (ra >>= sortSet) := fun σ H W H0 Q e wk q => by
  refine h.go e wk q (fun _ z => z) fun d v W1 H1 q1 s1 r1 e1 => ?_
  cases r1 with
  | @tup a vs ds hx r =>
    obtain ⟨ns, hn, ⟨q2, q3⟩, q4⟩ := ofO_run q1
    have ev := ints_rep r hn
    refine ⟨a, ns, rfl, by rw [← ev]; exact s1.ok.sqT hx, q2, fun b S' hb hS => ?_⟩
    refine ⟨b, S', _, rfl, upd_same, q3, fun ms p h1 h2 h3 hp => ?_⟩
    have e2 : ms = sortZ (ddI ns) := sortZ_of h1 (ddI_ok ns).1 fun k => by rw [h2, hS, (ddI_ok ns).2]
    subst e2
    have s2 := Step.raw s1.ok (o := SetO w b S' (ddI ns).length) hb
    have s3 := Step.raw s2.ok (o := .lst ((sortZ (ddI ns)).map V.int)) hp
    have np := nopen s2.ok hp
    exact q4 p _ W1 _ ((s1.trans wk s2).trans wk s3) (s1.free0 wk (s2.free0 s1.ok hp)) upd_same np.1 np.2 (reps_ints _)
  | _ => exact (show False from q1).elim
end
section
variable {S : Sx} {ρ : List Sl} {ta : TE} {ra : M D}
/-! ### str of a number -/
theorem cs_strI {K : PySem.W.Frag} : CaS K (fun xs H Q => ∃ i, xs = [.int i] ∧ i.natAbs.log2 < 1920 ∧ Q (.str (toString i)) H) (f1 D.strI) := by
  intro W H vs ds Q E w rs h
  obtain ⟨d, rfl, h⟩ := f1_run h
  obtain ⟨v, rfl, r⟩ := rs.of1
  cases r with
  | int i => exact ⟨i, rfl, h.1, post_here w h.2 (.str _)⟩
  | _ => exact (show False from h).elim
theorem scal_reps {K : PySem.W.Frag} {W W' : Wd} : ∀ {vs : List V} {ds : List D}, (∀ d ∈ ds, d.scal) → Reps K W vs ds → Reps K W' vs ds
  | _, _, _, .nil => .nil
  | _, _, h, .cons a r => .cons (scal_rep (h _ List.mem_cons_self) a) (scal_reps (fun d hd => h d (List.mem_cons_of_mem _ hd)) r)
/-- a new list of plain things, made while a list of one's own is read -/
theorem so_lend {t : TE} {r : M (List D)} {i : Nat} {ds : List D} (h : ρ[i]? = some (.own ds)) (s : SO S t (ρ.set i (.val (.lst ds))) r) : SO S t ρ (r >>= fun xs => guard (∀ d ∈ xs, d.scal) >>= fun _ => pure xs) := fun σ H W H0 Q e w q => by
  obtain ⟨W1, e1, w1, old, back⟩ := lent e w h
  refine s σ H W1 H0 Q e1 w1 (r.mono (fun xs hd a vs W' H' st h0 g1 g2 g3 rp => ?_) (fun x hx cv dx W' H' st rp => xpost_lend w old back st hx rp) q)
  exact hd.2 a vs W H' (back W' H' st) h0 g1 (nopen w h0).1 (nopen w h0).2 (scal_reps hd.1 rp)
end
/-! ### a def that has another name at the top -/
def DfA (K : PySem.W.Frag) (mg : Str → Option Value) (x y : Str) (st : Stmt) (ps : List Str) : Prop := ∃ f fd, L2.Fun K y y st f fd ∧ mg x = some (.ref f) ∧ Binds K fd ps [] ∧ ∀ (s : Shared) (us : List Value), us.length = ps.length → BindsTo s fd ⟨us, []⟩ (ps.zip us)
section
variable {P : Program} {w : World} {K : PySem.W.Frag} {mg : Str → Option Value} {base : Heap}
theorem dfA_mk {h : Heap} {x y : Str} {st : Stmt} {ps : List Str} {f : Addr} {oc : Value} {od an : Option Addr} {osl : Array (Option Value)} {kV doc pm cdv ct : Value} (X : K.In h) (G : h.Ns mainGlobals mg)
    (a : PySem.W.nsIn K mainGlobals x = some (some (.ref f)))
    (l : K.lookup f = some ⟨oc, od, .func (PySem.W.fnOf y y (defArgs st) (defBody st) (defScope st) .none kV doc pm an cdv ct), osl⟩)
    (c : PySem.W.codeIn K cdv y = true) (k : PySem.W.keepIn K (.ref f) = true)
    (b : ∀ (kV doc pm : Value) (an : Option Addr) (cdv ct : Value) (us : List Value), us.length = ps.length → bindArgs (PySem.W.fnOf y y (defArgs st) (defBody st) (defScope st) .none kV doc pm an cdv ct) ⟨us, []⟩ = pure (ps.zip us)) : DfA K mg x y st ps := by
  have F := fun_mk l c k
  exact ⟨f, _, F, PySem.W.mg_of X G a, F.binds b, fun _ us hl => .of_eq (b kV doc pm an cdv ct us hl)⟩
theorem cdA_of {qg : Bool} {x y : Str} {st : Stmt} {N ps : List Str} {k : Nat} (own : Bool) {F : List D → M (Fl Unit Empty)} (d : DfA K mg x y st ps) (sc : FnScope N ps (defScope st))
    (hbody : ∀ (f : Addr) (cdv : Value) (A : Around) (outer : List Env) (s : Shared) (H : Hp) (E : XK),
      Room k (A.deeper (PyProof.Rows.envOfC y (defScope st) s.heap.objs.size f cdv)) → (qg = true → (A.deeper (PyProof.Rows.envOfC y (defScope st) s.heap.objs.size f cdv)).guards = some []) →
        ∃ t, PSs (cxOf (L2.CX P w) P w K mg base N y (defScope st) f cdv A outer s H E) (defBody st) t ∧
          ∀ ds, ds.length = ps.length → SS ⟨K, mg, E⟩ own t (startS N.length ds) (enc0 N.length) noE (F ds)) :
    Cd qg P w K mg base x (k + 1) ps (spD K mg own ps.length (fun ds => endB own (F ds))) := by
  obtain ⟨f, fd, Fn, g, b, _⟩ := d
  exact ⟨f, fd, g, Fn.kp, b, g_of own Fn sc fun cdv A outer s H E _ => hbody f cdv A outer s H E⟩
end
end Ev

namespace Ev
open PySem PySem.Spec L2
variable [Tb]
/-! ### x or y, by truth -/
section
variable {S : Sx} {ρ : List Sl} {ta tb : TE} {ra rb : M D}
theorem tru_rep {K : PySem.W.Frag} {W : Wd} {H : Hp} (w : WOk W H) {v : V} {d : D} {k : Bool} (r : Rep K W v d) (h : d.tru = some k) : TruV K v H k := by
  cases r with
  | non => cases h; rfl
  | bl b => cases h; rfl
  | int i => cases h; rfl
  | str x => cases h
  | tup hx rs =>
    cases h
    refine .inr (.inl ⟨_, w.sqT hx, ?_⟩)
    cases rs <;> rfl
  | lst hx rs =>
    cases h
    refine .inl ⟨_, .inl (.inl (w.sub _ _ hx)), ?_⟩
    cases rs <;> rfl
  | dct _ _ => cases h
  | pen _ => cases h
  | scr _ => cases h
  | fn _ => cases h
  | raw _ => cases h
theorem se_orT (h : SE S ta ρ ra) (h2 : SE S tb ρ rb) : SE S (tOrT S.K ta tb) ρ (orT ra rb) := fun σ H W H0 Q en w q => by
  refine h.go en w q (fun _ z => z) fun d v W1 H1 q1 s1 r1 e1 => ?_
  change (match d.tru with | some k => if k then pure d else rb | none => fail : M D).run _ _ at q1
  rcases e : d.tru with _ | k
  · rw [e] at q1
    exact (show False from q1).elim
  rw [e] at q1
  have hk := e
  refine ⟨k, tru_rep s1.ok r1 hk, ?_⟩
  cases k with
  | false => exact iteF (h2.go e1 s1.ok q1 (fun _ z => z.after w s1) fun d v W2 H2 q2 s2 r2 _ => q2 v W2 H2 (s1.trans w s2) r2)
  | true => exact iteT (q1 _ W1 H1 s1 r1)
end
/-! ### a list backward -/
section
variable {S : Sx} {ρ : List Sl} {ra : M D} {ta : TE}
theorem se_revL (h : SE S ta ρ ra) : SE S (tRevL S.K ta) ρ (ra >>= revLM) := fun σ H W H0 Q e w q => by
  refine h.go e w q (fun _ z => z) fun d v W1 H1 q1 s1 r1 e1 => ?_
  cases r1 with
  | @lst a vs ds hx r => exact ⟨a, vs, rfl, .inl (.inl (s1.ok.sub _ _ hx)), post_lst s1.ok (Post.after w s1 q1) r.reverse⟩
  | _ => exact (show False from q1).elim
end
end Ev

namespace Ev
open PySem PySem.Spec L2 PySem.W
variable [Tb]
/-! ### min of tuples of numbers: one of them -/
theorem alike_ints : ∀ a b : List Int, alikeAll (D.pys (a.map D.int)) (D.pys (b.map D.int)) = true
  | [], b => by simp [D.pys, alikeAll]
  | _ :: _, [] => by simp [D.pys, alikeAll]
  | x :: a, y :: b => by simp [D.pys, D.py, alikeAll, alike, alike_ints a b]
theorem pys_tups (ls : List (List Int)) : D.pys (ls.map fun l => D.tup (l.map D.int)) = ls.map fun l => PyData.tuple (D.pys (l.map D.int)) := by
  induction ls with
  | nil => simp [D.pys]
  | cons l r ih => simp [D.pys, D.py, ih]
theorem depth_ints (l : List Int) : PyData.depthAll (D.pys (l.map D.int)) = 0 := by
  induction l with
  | nil => simp [D.pys, PyData.depthAll]
  | cons x r ih => simp [D.pys, D.py, PyData.depthAll, PyData.depth, ih]
theorem depth_tups (ls : List (List Int)) : PyData.depthAll (D.pys (ls.map fun l => D.tup (l.map D.int))) ≤ 1 := by
  induction ls with
  | nil => simp [D.pys, PyData.depthAll]
  | cons x r ih =>
    rw [List.map_cons, D.pys, D.py, PyData.depthAll, PyData.depth, depth_ints]
    omega
theorem plain_ints (l : List Int) : D.plains true (l.map D.int) = true := by
  rw [D.plains_all, List.all_eq_true]
  intro x hx
  obtain ⟨i, _, rfl⟩ := List.mem_map.mp hx
  rfl
def rMinT (K : PySem.W.Frag) : List V → Hp → VK → Prop := fun vs H Q => ∃ a us W ls, vs = [.ref a] ∧ SqL K H a us ∧ WOk W H ∧ Reps K W us (ls.map fun l : List Int => D.tup (l.map D.int)) ∧ ls ≠ [] ∧ ∀ u ∈ us, Q u H
theorem call_minT {X : Cx} {K : PySem.W.Frag} (hK : X.K = K) (hc : X.calm = true) (hu : X.A.units + 64 < cLine) : CallR X (.builtin "min") (rMinT K) := by
  subst hK
  intro pins s σ H vs us Q I r h
  obtain ⟨a, ws, W, ls, rfl, hs, w, rp, hne, q⟩ := h
  obtain ⟨its, rv, hl, hz⟩ := I.list hs
  obtain ⟨u, rfl, ru⟩ := vals1 r
  obtain rfl : u = Value.ref a := ru
  have hp : D.plains true (ls.map fun l => D.tup (l.map D.int)) = true := by
    rw [D.plains_all, List.all_eq_true]
    intro x hx
    obtain ⟨l, _, rfl⟩ := List.mem_map.mp hx
    rw [D.plain]
    exact plain_ints l
  obtain ⟨as, rs, _⟩ := Reps.reads I w rp rv hp
  have hd := depth_tups ls
  have ha : AlikeAll (D.pys (ls.map fun l => D.tup (l.map D.int))) := by
    rw [pys_tups]
    refine ⟨fun x hx y hy => ?_, fun x hx => ?_⟩
    · obtain ⟨l, _, rfl⟩ := List.mem_map.mp hx
      obtain ⟨m, _, rfl⟩ := List.mem_map.mp hy
      rw [alike]
      exact alike_ints l m
    · obtain ⟨l, _, rfl⟩ := List.mem_map.mp hx
      exact fun z => by cases z
  cases ls with
  | nil => exact absurd rfl hne
  | cons l0 lr =>
    rw [List.map_cons, D.pys] at rs hd ha
    refine min_list_data (I.ok.hd hc) hl.isList (by simpa using rs) ha (by omega) fun i v h' tk bs hi _ hk => ?_
    have hi' : its[i]? = some v := by simpa using hi
    have hlt := (List.getElem?_eq_some_iff.mp hi').1
    have hw : ws[i]? = some (ws[i]'(by rw [rv.length]; exact hlt)) := List.getElem?_eq_getElem _
    obtain ⟨u', e1, r1⟩ := rv.get hw
    rw [hi'] at e1
    cases e1
    exact ⟨_, H, I.kept hk, r1, q _ (List.getElem_mem _)⟩
theorem numsL_tups {xs : List D} {ls : List (List Int)} (h : numsL xs = some ls) : xs = ls.map fun l => D.tup (l.map D.int) := by
  have key : ∀ (xs : List D) (a : List Int), intsL xs = some a → xs = a.map D.int := by
    intro xs
    induction xs with
    | nil => intro a h; cases h; rfl
    | cons x xs ih =>
      intro a h
      cases x with
      | int i =>
        rw [intsL, Option.map_eq_some_iff] at h
        obtain ⟨b, hb, rfl⟩ := h
        rw [ih b hb]
        rfl
      | _ => exact absurd h (by simp [intsL])
  induction xs generalizing ls with
  | nil => cases h; rfl
  | cons x r ih =>
    rw [numsL, Option.bind_eq_some_iff] at h
    obtain ⟨a, e1, e2⟩ := h
    rw [Option.map_eq_some_iff] at e2
    obtain ⟨t, e3, rfl⟩ := e2
    rw [List.map_cons, ← ih e3]
    cases x with
    | tup xs => rw [key xs a e1]
    | _ => cases e1
theorem cs_minT {K : PySem.W.Frag} : CaS K (rMinT K) (f1 D.minT) := by
  intro W H vs ds Q E w rs h
  obtain ⟨d, rfl, h⟩ := f1_run h
  obtain ⟨v, rfl, r⟩ := rs.of1
  cases r with
  | @lst a vs ds hx r =>
    obtain ⟨⟨ls, e, hne⟩, q⟩ := h
    have e2 := numsL_tups e
    subst e2
    refine ⟨a, vs, W, ls, rfl, .inl (.inl (w.sub _ _ hx)), w, r, hne, fun u hu => ?_⟩
    obtain ⟨i, hi⟩ := List.mem_iff_getElem?.mp hu
    obtain ⟨d, e1, r1⟩ := r.get' hi
    exact post_here w (q d (List.mem_of_getElem? e1)) r1
  | _ => exact (show False from h).elim
/-! ### sorted of a tuple of numbers -/
section
open PyProof.Rows
variable {prog : Program} {w : World} {A : Around} {E : Value → Shared → Prop} {s : Shared}
theorem collect_tup {l : Addr} {vs : List Value} {Q : List Value → Shared → Prop} (hl : s.heap.IsTuple l vs.toArray)
    (h : Q vs { s with heap := (s.heap.push (seqObj "list" #[] 0)).update s.heap.objs.size (Obj.mapSeq (· ++ vs.toArray)) }) (hsz : vs.length ≤ sizeLine) :
    wpAny (model prog w) A (collect (.ref l)) Q E s := by
  obtain ⟨o, ho, hc, n, hd⟩ := id hl
  unfold collect
  refine wpAny_bind (wpAny_runValue (codeAny_builtin entry_proto_collect' ?_))
  show wpAny _ _ (do again (.builtin "list.__iadd__" ⟨[← newList [], .ref l], []⟩)) _ _ s
  refine wpAny_bind (wpAny_newList (wpAny_pure ⟨Code.quiet_builtin _ (by decide +kernel), codeAny_builtin entry_list_iadd' ?_⟩))
  show wpAny _ _ (Builtin.List.listExtendWith (.ref s.heap.objs.size) (.ref l) (.ref s.heap.objs.size)) _ _ { s with heap := s.heap.push (seqObj "list" #[] 0) }
  unfold Builtin.List.listExtendWith
  have ho' : (s.heap.push (seqObj "list" #[] 0)).get? l = some o := Heap.get?_push_of_some _ ho
  refine wpAny_bind (wpAny_typeOf (T := "tuple") ⟨o, ho', hc⟩ ?_)
  have ht : (Value.type "tuple" == Value.type "tuple") = true := by rfl
  rw [if_pos (by rw [ht]; simp)]
  refine wpAny_bind (listItems_at ho' hd ?_)
  refine wpAny_bind (listItems_at (xs := #[]) (n := 0) (Heap.get?_push_size _ rfl) rfl ?_)
  rw [if_neg (by simp)]
  refine wpAny_bind (listUpdate_at (xs := #[]) (n := 0) (Heap.get?_push_size _ rfl) rfl ?_ (Nat.zero_le _) (by show (#[] ++ vs.toArray).size ≤ sizeLine + 1; simp only [Array.size_append, List.size_toArray, List.length_nil]; omega))
  refine wpAny_pure ?_
  show wpAny (model prog w) A (do
      let o ← load s.heap.objs.size
      match o.data with
      | .seq xs _ => pure xs.toList
      | _ => unsupported "internal:collect") Q E { s with heap := (s.heap.push (seqObj "list" #[] 0)).update s.heap.objs.size (Obj.mapSeq (· ++ vs.toArray)) }
  refine wpAny_bind (wpAny_load (get?_update_seq (Heap.get?_push_size _ rfl) _) ?_)
  show wpAny _ _ (pure ((#[] : Array Value) ++ vs.toArray).toList) Q E _
  rw [show ((#[] : Array Value) ++ vs.toArray).toList = vs by simp]
  exact wpAny_pure h
theorem sorted_tup {l : Addr} {vs : List Value} {ltv : Value → Value → Bool} {Q : Value → Shared → Prop} (O : SrtO.Swo ltv) (hl : s.heap.IsTuple l vs.toArray) (hz : vs.length ≤ sizeLine)
    (hS : 2 ≤ vs.length → ∀ (h₁ : Heap) (a : Addr), h₁.get? a = some (seqObj "list" vs.toArray 0) → (∀ b o, s.heap.get? b = some o → b ≠ a ∧ h₁.get? b = some o) → SrtO.SortableO prog w A.in1.in1 { s with heap := h₁ } a vs ltv)
    (h : ∀ out : List Value, SrtO.Srtd ltv out → SrtO.Stb ltv out vs → Q (.ref (s.heap.objs.size + 1)) { s with heap := sortedAll s.heap vs out.toArray }) :
    wpAny (model prog w) A (call (.builtin "sorted") [.ref l]) Q E s := by
  refine Calls.call_function_entry kind_sorted plain_sorted entry_sorted (args_sorted1 _) ?_
  unfold Builtin.«sorted»
  refine wpAny_bind (m := checkCount "sorted" 1 1 _) (wpAny_pure ?_)
  refine wpAny_bind (collect_tup hl ?_ hz)
  refine wpAny_bind (wpAny_newList ?_ hz)
  have hsz : ((s.heap.push (seqObj "list" #[] 0)).update s.heap.objs.size (Obj.mapSeq (· ++ vs.toArray))).objs.size = s.heap.objs.size + 1 := by
    rw [Heap.size_update, size_push']
  have hoL : (((s.heap.push (seqObj "list" #[] 0)).update s.heap.objs.size (Obj.mapSeq (· ++ vs.toArray))).push (seqObj "list" vs.toArray 0)).get? (s.heap.objs.size + 1) = some (seqObj "list" vs.toArray 0) := by
    rw [← hsz]; exact Heap.get?_push_size _ rfl
  have keep : ∀ b o, s.heap.get? b = some o → b ≠ s.heap.objs.size + 1 ∧ (((s.heap.push (seqObj "list" #[] 0)).update s.heap.objs.size (Obj.mapSeq (· ++ vs.toArray))).push (seqObj "list" vs.toArray 0)).get? b = some o := fun b o q => by
    have hlt : b < s.heap.objs.size := Heap.lt_size q
    refine ⟨Nat.ne_of_lt (Nat.lt_succ_of_lt hlt), Heap.get?_push_of_some _ ?_⟩
    rw [Heap.get?_update_ne _ _ _ _ (Nat.ne_of_lt hlt)]
    exact Heap.get?_push_of_some _ q
  show wpAny _ _ _ _ _ { s with heap := ((s.heap.push (seqObj "list" #[] 0)).update s.heap.objs.size (Obj.mapSeq (· ++ vs.toArray))).push (seqObj "list" vs.toArray 0) }
  rw [hsz]
  refine wpAny_bind (wpAny_holding (wpAny_call_entry slot_list_sort ⟨_, hoL, rfl⟩ entry_list_sort (SrtO.list_sort_ord O hoL hz (fun h2 => hS h2 _ _ hoL keep) fun out hs hb => ⟨_, rfl, ?_⟩) (args_list_sort _)))
  exact wpAny_pure ⟨_, rfl, h out hs hb⟩
end
def rSortTI (K : PySem.W.Frag) : List V → Hp → VK → Prop := fun vs H Q => ∃ (a : Addr) (ns : List Int), vs = [V.ref a] ∧ SqT K H a (ns.map V.int) ∧ ∀ p, H p = none → Q (.ref p) (upd H p (.lst ((sortZ ns).map V.int)))
theorem sortZ_eq {ns ms : List Int} (h1 : ms.Perm ns) (h2 : ms.Pairwise (· ≤ ·)) : ms = sortZ ns :=
  (h1.trans (sortZ_perm ns).symm).eq_of_pairwise (le := (· ≤ ·)) (fun a b _ _ x y => by omega) h2 (sortZ_sorted ns)
theorem call_sortTI {X : Cx} : CallR X (.builtin "sorted") (rSortTI X.K) := by
  intro pins s σ H vs us Q I r h
  obtain ⟨a, ns, rfl, hs, q⟩ := h
  obtain ⟨its, rv, hl, hz⟩ := I.tuple hs
  obtain ⟨u, rfl, ru⟩ := vals1 r
  obtain rfl : u = Value.ref a := ru
  have hi := rv.ints
  have hz' : its.length ≤ sizeLine := by rw [← rv.length]; exact hz
  refine sorted_tup SrtO.swo_int hl hz' (fun h2 h₁ a' _ _ => SrtO.ints_sortable hi h2) fun out h1 h2 => ?_
  obtain ⟨k1, k2, k3⟩ := SrtO.ints_out hi h1 h2
  obtain ⟨ep, he'⟩ := PyProof.Rows.sortedAll_at s.heap its out.toArray
  have hlen : ((out.map SrtO.iv).map V.int).length ≤ sizeLine := by
    rw [List.length_map, k2.length_eq]
    rw [List.length_map] at hz
    exact hz
  refine ⟨.ref _, upd H (s.heap.objs.size + 1) (.lst ((out.map SrtO.iv).map V.int)), I.laid (t' := s.toks) (fun _ _ => PyProof.Rows.sortedAll_old) (Nat.le_succ _) ⟨hlen, out, ep, vals_of_ints k1, he'⟩, rfl, ?_⟩
  rw [sortZ_eq k2 k3]
  exact q _ (I.hok.fresh (Nat.le_succ _))
def rSortA (K : PySem.W.Frag) : List V → Hp → VK → Prop := fun vs H Q => rSortN K vs H Q ∨ rSortTI K vs H Q
theorem call_sortA {X : Cx} {K : PySem.W.Frag} (hK : X.K = K) : CallR X (.builtin "sorted") (rSortA K) := by
  intro pins s σ H vs us Q I r h
  rcases h with h | h
  · exact call_sortK hK pins s σ H vs us Q I r h
  · subst hK
    exact call_sortTI pins s σ H vs us Q I r h
theorem ints_reps {K : PySem.W.Frag} {W : Wd} : ∀ ns : List Int, Reps K W (ns.map V.int) (ns.map D.int)
  | [] => .nil
  | i :: r => .cons (.int i) (ints_reps r)
theorem co_sortA {K : PySem.W.Frag} : CaO K (rSortA K) (fo1 D.sortA) := by
  intro W H vs ds Q E w rs h
  obtain ⟨d, rfl, h⟩ := fo1_run h
  cases d with
  | tup xs =>
    obtain ⟨v, rfl, r⟩ := rs.of1
    cases r with
    | @tup a us ds hx r =>
      obtain ⟨ns, e, q⟩ := ofO_run h
      have ev := ints_rep r e
      refine .inr ⟨a, ns, rfl, by rw [← ev]; exact w.sqT hx, fun p hp => post_own w q (ints_reps _) p hp⟩
  | lst xs => exact .inl (co_sort W H vs [.lst xs] Q E w rs h)
  | _ => exact (show False from h).elim
end Ev

namespace Ev
open PySem PySem.Spec L2 PySem.W
variable [Tb]
/-! ### min of alike data -/
def rMinG (K : PySem.W.Frag) : List V → Hp → VK → Prop := fun vs H Q => ∃ a us W ds x r, vs = [.ref a] ∧ SqL K H a us ∧ WOk W H ∧ Reps K W us ds ∧ D.pys ds = x :: r ∧ AlikeAll (x :: r) ∧ PyData.depthAll (x :: r) ≤ 60 ∧ D.plains true ds = true ∧ ∀ (i : Nat) (u : V) (d : D), us[i]? = some u → ds[i]? = some d → d.py = minD x r → Q u H
theorem call_minG {X : Cx} {K : PySem.W.Frag} (hK : X.K = K) (hc : X.calm = true) (hu : X.A.units + 64 < cLine) : CallR X (.builtin "min") (rMinG K) := by
  subst hK
  intro pins s σ H vs us Q I r h
  obtain ⟨a, ws, W, ds, x, rr, rfl, hs, w, rp, hpy, ha, hd, hp, q⟩ := h
  obtain ⟨its, rv, hl, hz⟩ := I.list hs
  obtain ⟨u, rfl, ru⟩ := vals1 r
  obtain rfl : u = Value.ref a := ru
  obtain ⟨as, rs, _⟩ := Reps.reads I w rp rv hp
  rw [hpy] at rs
  refine min_list_data (I.ok.hd hc) hl.isList (by simpa using rs) ha (by omega) fun i v h' tk bs hi hr hk => ?_
  have hi' : its[i]? = some v := by simpa using hi
  have hlt := (List.getElem?_eq_some_iff.mp hi').1
  have hw : ws[i]? = some (ws[i]'(by rw [rv.length]; exact hlt)) := List.getElem?_eq_getElem _
  obtain ⟨u', e1, r1⟩ := rv.get hw
  rw [hi'] at e1
  cases e1
  obtain ⟨d, e2, _⟩ := rp.get' hw
  obtain ⟨cs, g1, g2, _⟩ := readsAll_at rs i v hi'
  have e3 : (x :: rr).getD i .none = d.py := by
    rw [← hpy, D.pys_map, List.getD_eq_getElem?_getD, List.getElem?_map, e2]
    rfl
  rw [e3] at g1
  have e4 := (Reads.unique (reads_keeps hk g1) _ _ hr).1
  exact ⟨_, H, I.kept hk, r1, q i _ d hw e2 e4⟩
theorem cs_minG {K : PySem.W.Frag} : CaS K (rMinG K) (f1 D.minG) := by
  intro W H vs ds Q E w rs h
  obtain ⟨d, rfl, h⟩ := f1_run h
  obtain ⟨v, rfl, r⟩ := rs.of1
  cases r with
  | @lst a vs ds hx r =>
    obtain ⟨x, rr, e1, e2, e3, e4, q⟩ := h
    refine ⟨a, vs, W, ds, x, rr, rfl, .inl (.inl (w.sub _ _ hx)), w, r, e1, e2, e3, e4, fun i u d hu hd e => ?_⟩
    obtain ⟨d', f1, f2⟩ := r.get' hu
    rw [hd] at f1
    cases f1
    exact post_here w (q d (List.mem_of_getElem? hd) e) f2
  | _ => exact (show False from h).elim
/-! ### bits -/
theorem os_shl {K : PySem.W.Frag} : OpS K (rI CPow fun i j => .int (i * 2 ^ j.toNat)) D.shl := by
  intro W H x y dx dy Q E w rx ry h
  cases rx with
  | int i => cases ry with
    | int j => exact ⟨i, j, rfl, rfl, h.1, post_here w h.2 (.int _)⟩
    | _ => exact (show False from h).elim
  | _ => exact (show False from h).elim
theorem os_shr {K : PySem.W.Frag} : OpS K (rI (fun _ j => 0 ≤ j) fun i j => .int (i / 2 ^ j.toNat)) D.shr := by
  intro W H x y dx dy Q E w rx ry h
  cases rx with
  | int i => cases ry with
    | int j => exact ⟨i, j, rfl, rfl, h.1, post_here w h.2 (.int _)⟩
    | _ => exact (show False from h).elim
  | _ => exact (show False from h).elim
theorem bitAnd_nat {i j : Int} (h : 0 ≤ i) (h' : 0 ≤ j) : Builtin.bitAnd i j = ((i.toNat &&& j.toNat : Nat) : Int) := by
  simp only [Builtin.bitAnd, h, h', decide_true]
theorem os_and {K : PySem.W.Frag} : OpS K (rI0 fun i j => .int (Builtin.bitAnd i j)) D.band := by
  intro W H x y dx dy Q E w rx ry h
  cases rx with
  | int i => cases ry with
    | int j =>
      refine ⟨i, j, rfl, rfl, ?_⟩
      show Q (.int (Builtin.bitAnd i j)) H
      rw [bitAnd_nat h.1.1 h.1.2]
      exact post_here w h.2 (.int _)
    | _ => exact (show False from h).elim
  | _ => exact (show False from h).elim
end Ev

namespace Ev
open PySem PySem.Spec PyProof.Rows L2
variable [Tb]

/-! ### a lambda is made: a table grows, a code object is new -/
def TurnsT (H H1 : Hp) : Prop := H1 = H ∨ ∃ (B N : Addr) (q : Str) (ps : Array Value), (∃ ps0, H B = some (.tbl ps0)) ∧ H N = none ∧ H1 = upd (upd H B (.tbl ps)) N (LamX.CodeO N q)
theorem step_turns {W : Wd} {H H1 : Hp} (w : WOk W H) (h : TurnsT H H1) (t : LamX.Tabs Tb.T H1) : Step W H W H1 := by
  rcases h with rfl | ⟨B, N, q, ps, ⟨ps0, hB⟩, hN, rfl⟩
  · exact Step.refl w
  · obtain ⟨b1, q0, b2⟩ := w.tb B ps0 hB
    have nBN : B ≠ N := ne_of_none hB hN
    have far : ∀ b u, H b = some u → W.N b ≠ some TabAny → upd (upd H B (.tbl ps)) N (LamX.CodeO N q) b = some u := fun b u e n => by
      rw [upd_ne (ne_of_none e hN), upd_ne (fun z => n (by rw [z]; exact b1))]
      exact e
    have pB : W.P B = none := (w.pen B _ b1).1
    refine ⟨Le.refl W, ⟨w.kin, fun b u e => far b u (w.sub b u e) (fun z => ?_), fun b φ e => ?_, t, fun b ps' e => ?_⟩, fun b u e n => far b u e (fun z => by rw [n] at z; cases z), fun _ _ => rfl, fun _ _ => rfl⟩
    · rw [(w.pen b _ z).1] at e
      cases e
    · obtain ⟨p1, o, p2, p3⟩ := w.pen b φ e
      refine ⟨p1, ?_⟩
      by_cases hb : b = B
      · subst hb
        rw [b1] at e
        cases e
        exact ⟨_, by rw [upd_ne nBN, upd_same], _, rfl⟩
      · exact ⟨o, by rw [upd_ne (ne_of_none p2 hN), upd_ne hb]; exact p2, p3⟩
    · by_cases hb : b = N
      · subst hb
        rw [upd_same] at e
        exact absurd (Option.some.inj e) (LamX.codeO_ne ps')
      · rw [upd_ne hb] at e
        by_cases hb2 : b = B
        · subst hb2
          exact ⟨b1, q0, b2⟩
        · rw [upd_ne hb2] at e
          exact w.tb b ps' e
section
variable {X : Cx} {pins : List (Addr × Obj)} {σ : L2.St} {H : Hp} {s : Shared}
/-- the making, with what it changes told in full -/
theorem make_lam {T : List (Addr × Str)} {c B : Addr} {pa : Arguments} {bo : Expr} {sc : Scope} {pos : Pos} {E Q : Value → Shared → Prop} (I : L2.Inv X pins σ H s) (tB : LamX.TabB X.base X.mg c B) (hcode : X.env.code = .ref c)
    (hm : (B, X.env.qual ++ "<lambda>") ∈ T) (hu : ∀ p ∈ T, p.1 = B → p.2 = X.env.qual ++ "<lambda>") (hT : LamX.Tabs T H) (hdef : defaultsOf pa X.env = ([], [])) (hfree : ∀ y ∈ sc.names, y.2 = .free → ∃ c, X.env.cells.lookup y.1 = some c)
    (h : ∀ (f N : Addr) (pm ct : Value) (H1 : Hp) (s' : Shared), L2.Inv X pins σ H1 s' → TurnsT H H1 → LamX.Tabs T H1 →
      s'.heap.get? f = some (PySem.W.kla_obj "<lambda>" (X.env.qual ++ "<lambda>") pa bo sc (cloFrom X.env.cells sc.names []) pm N ct) → H1 f = none → f ∉ frs X.stack → H1 N = some (LamX.CodeO N (X.env.qual ++ "<lambda>")) → Q (.ref f) s') :
    wpAny (model X.prog X.w) X.A (eval (.Lambda pa bo sc pos) X.env) Q E s := by
  obtain ⟨ps, hB, triples, named⟩ := hT _ hm
  have hB0 : s.heap.get? B = some { cls := .none, data := .fields ps } := I.hok B _ hB
  have outside : ∀ f, s.heap.objs.size ≤ f → f ∉ frs X.stack := by
    intro f hf z
    cases List.mem_cons.mp (I.stkSub _ z) with
    | inl e => exact absurd (Nat.lt_of_lt_of_le I.lt (by rw [← e]; exact hf)) (Nat.lt_irrefl _)
    | inr e => exact I.nofs hf e
  apply PySem.W.kla_eval hdef
  match hc : codeAmong pos ps.toList with
  | some cv =>
    obtain ⟨N, rfl, hco⟩ := named pos cv hc
    apply PySem.W.kla_makeFunctionHit (mg := X.mg) (c := c) (P := B) (ps := ps) (closure_ok hfree) I.ok.glob (I.mod.glob.keeps I.bk) hcode (tB.code.keeps I.bk) hB0 triples hc (tB.bm.keeps I.bk)
    intro ct h' tk hx hsz
    exact h h'.objs.size N ((X.mg "__name__").getD .none) ct H _ (I.kept fun b o e => Heap.get?_push_of_some _ (hx b o e)) (.inl rfl) hT (Heap.get?_push_size _ rfl) (I.hok.fresh hsz) (outside _ hsz) hco
  | none =>
    apply PySem.W.kla_makeFunction (mg := X.mg) (c := c) (P := B) (ps := ps) (closure_ok hfree) I.ok.glob (I.mod.glob.keeps I.bk) hcode (tB.code.keeps I.bk) hB0 triples hc tB.gP (tB.bm.keeps I.bk)
    intro N ct h' tk hx hge hlt hrec htb
    obtain ⟨N', oc, vs, t, eN, hoc, hd, hv⟩ := hrec
    cases eN
    have nN : H N = none := I.hok.fresh hge
    have nBN : B ≠ N := ne_of_none hB nN
    have size_le : s.heap.objs.size ≤ h'.objs.size := Nat.le_trans hge (Nat.le_of_lt hlt)
    let lamO := PySem.W.kla_obj "<lambda>" (X.env.qual ++ "<lambda>") pa bo sc (cloFrom X.env.cells sc.names []) ((X.mg "__name__").getD .none) N ct
    have J := LamX.inv_table (t' := tk) (more := #[rawInt pos.line, rawInt pos.col, .ref N]) (h' := h'.push lamO) I hB (fun b o hb e => Heap.get?_push_of_some _ (hx b o hb e)) (Heap.get?_push_of_some _ htb) hge
      ⟨oc, vs, t, Heap.get?_push_of_some _ hoc, hd, hv⟩
    have stay : ∀ b o, H b = some o → b ≠ B → upd (upd H B (.tbl (ps ++ #[rawInt pos.line, rawInt pos.col, .ref N]))) N (LamX.CodeO N (X.env.qual ++ "<lambda>")) b = some o := by
      intro b o e nb
      rw [upd_ne (ne_of_none e nN), upd_ne nb]
      exact e
    have listed : (ps ++ #[rawInt pos.line, rawInt pos.col, .ref N]).toList = ps.toList ++ [rawInt pos.line, rawInt pos.col, .ref N] := by simp
    refine h h'.objs.size N ((X.mg "__name__").getD .none) ct _ _ J (.inr ⟨B, N, _, _, ⟨ps, hB⟩, nN, rfl⟩) (fun p hp => ?_) (Heap.get?_push_size _ rfl) ?_ (outside _ size_le) upd_same
    · have coded : ∀ c0 q0, H c0 = some (LamX.CodeO c0 q0) → c0 ≠ B := fun c0 q0 e z => by
        rw [z, hB] at e
        exact LamX.codeO_ne ps (Option.some.inj e).symm
      by_cases hb : p.1 = B
      · rw [hu p hp hb, hb]
        refine ⟨_, by rw [upd_ne nBN, upd_same], by rw [listed]; exact PySem.TriplesOk_snoc _ _ _ _ triples, ?_⟩
        intro p' cv hcv
        rw [listed] at hcv
        cases LamX.among_app _ triples hcv with
        | inl z =>
          obtain ⟨c0, e1, e2⟩ := named p' cv z
          exact ⟨c0, e1, stay _ _ e2 (coded _ _ e2)⟩
        | inr z => exact ⟨N, z, upd_same⟩
      · obtain ⟨ps', a1, a2, a3⟩ := hT p hp
        refine ⟨ps', stay _ _ a1 hb, a2, ?_⟩
        intro p' cv hcv
        obtain ⟨c0, e1, e2⟩ := a3 p' cv hcv
        exact ⟨c0, e1, stay _ _ e2 (coded _ _ e2)⟩
    · have n1 : h'.objs.size ≠ N := Nat.ne_of_gt hlt
      have n2 : h'.objs.size ≠ B := Nat.ne_of_gt (Nat.lt_of_lt_of_le (Heap.lt_size hB0) size_le)
      rw [upd_ne n1, upd_ne n2]
      exact I.hok.fresh size_le
end
/-- x(lambda: body): what is read of it -/
def tLm (TT : (XK → Hp → VK → Prop) → Hp → VK → Prop) (t : XK → TE) : TE := fun σ H Q => LamX.Tabs Tb.T H ∧ ∀ H1, TurnsT H H1 → LamX.Tabs Tb.T H1 → TT (fun E H' Q' => t E σ H' Q') H1 Q
/-- the def x takes a lambda and reads it as TT says -/
def Gv (P : Program) (w : World) (K : PySem.W.Frag) (mg : Str → Option Value) (base : Heap) (x : Str) (TT : (XK → Hp → VK → Prop) → Hp → VK → Prop) : Prop :=
  ∀ (X : Cx) {c B : Addr} {k : Nat} {pa : Arguments} {bo : Expr} {sc : Scope} {t : XK → TE} {p lpos pos : Pos}, X.prog = P → X.w = w → X.K = K → X.mg = mg → X.base = base → Gl X x → LamX.TabB X.base X.mg c B → X.env.code = .ref c →
    (B, X.env.qual ++ "<lambda>") ∈ Tb.T → (∀ p ∈ Tb.T, p.1 = B → p.2 = X.env.qual ++ "<lambda>") → Room (k + 4) X.A → LamX.LamS X.env.scope sc → defaultsOf pa X.env = ([], []) →
    (∀ (q : Str) (cl : List (Str × Addr)) (pm cv ctv : Value), bindArgs (PySem.W.kla_fn "<lambda>" q pa bo sc cl pm cv ctv) ⟨[], []⟩ = pure []) →
    (∀ (A : Around) (outer : List Env) (s : Shared) (H : Hp) (E : XK) (f N : Addr), Room k (A.deeper (LamX.lamEnv X sc s.heap.objs.size f N)) → PE (LamX.lamCx X A outer s H E sc f N) bo (t E)) →
    PE X (.Call (.Name x p) [.Lambda pa bo sc lpos] [] pos) (tLm TT t)
/-- what is asked of the body of such a def: it never raises -/
def GivesR (P : Program) (w : World) (K : PySem.W.Frag) (mg : Str → Option Value) (base : Heap) (Ng : List Str) (x : Str) (sg : Scope) (bg : List Stmt) (a : Str) (TT : (XK → Hp → VK → Prop) → Hp → VK → Prop) : Prop :=
  ∀ (X : Cx) (g : Addr) (cdg : Value) (q : Str) (s : Shared) (H0 : Hp), X.prog = P → X.w = w → X.K = K → X.mg = mg → X.base = base → Room 3 (X.A.deeper (envOfC x sg s.heap.objs.size g cdg)) →
    ∀ (f N : Addr) (Q : VK) (tl : XK → Hp → VK → Prop),
      (∀ (W : WX) (pn : List (Addr × Obj)) (xe : Value → Shared → Prop) (E : XK) (p1 p2 : Pos), Takes ((cxOf C8.CX0 X.prog X.w X.K X.mg X.base Ng x sg g cdg X.A X.stack s H0 C8.E0).tr pn xe) W → (∀ cls d σ' H', E cls d H' → W cls d σ' H') →
        PE ((cxOf C8.CX0 X.prog X.w X.K X.mg X.base Ng x sg g cdg X.A X.stack s H0 C8.E0).tr pn xe) (.Call (.Name a p1) [] [] p2) (fun σZ HZ Q => σZ[0]? = some (some (.ref f)) ∧ HZ N = some (LamX.CodeO N q) ∧ tl E HZ Q)) →
      H0 N = some (LamX.CodeO N q) → TT tl H0 Q →
      ∃ t, PSs (cxOf C8.CX0 X.prog X.w X.K X.mg X.base Ng x sg g cdg X.A X.stack s H0 C8.E0).nox bg t ∧ t { nx := fun _ H' => Q .non H', rt := Q } (L2.start Ng [.ref f]) H0
theorem gv_of {P : Program} {w : World} {K : PySem.W.Frag} {mg : Str → Option Value} {base : Heap} {x a : Str} {st : Stmt} {Ng : List Str} {TT : (XK → Hp → VK → Prop) → Hp → VK → Prop} (d : Df K mg x st [a]) (sc : FnScope Ng [a] (defScope st)) (hNg : Ng[0]? = some a) (hva : Vis (defScope st) a)
    (G : GivesR P w K mg base Ng x (defScope st) (defBody st) a TT) (hdb : (x == ("__debug__" : Str)) = false := by decide) (hd : (a == ("__debug__" : Str)) = false := by decide) (hcd : (a == ("__classdict__" : Str)) = false := by decide) : Gv P w K mg base x TT := by
  intro X c B k pa bo scl t p lpos pos hP hw hK hmg hbase hgl tB hcode hmT hu hr L hdef hbind hbody
  subst hP hw hK hmg hbase
  obtain ⟨g, fd, Fn, hm, hb, _⟩ := d
  obtain ⟨oc, od, kV, doc, pm, an, cdv, ct, osl, rfl, lk, hcg⟩ := Fn.ex
  constructor
  intro pins s σ H Q I h
  obtain ⟨hT, h⟩ := h
  apply wpAny_Call_Name_kw
  refine ld_glob I hgl hm (PySem.W.callWith_K (h₀ := X.base) I.ok.mod.kin Fn.kp ?_ (by rfl) (by rfl)) hdb
  show wpAny _ _ (spliced ((false, eval (.Lambda pa bo scl lpos) X.env) :: backTo pos (starEach [] X.env))) _ _ s
  apply Calls.spliced_cons
  apply make_lam I tB hcode hmT hu hT hdef (L.has I.ok)
  intro f N pm' ctv H1 s' J turns T1 hf hfn hfr hco
  refine Calls.spliced_nil ⟨J.kIn, ?_⟩
  apply wpAny_call
  have ran : codeAny (model X.prog X.w) X.A (.call (.ref g) ⟨[.ref f], []⟩) (CR C8.CX0 X.stack X.prog X.w H1 s' Q C8.E0) s' := by
    apply LamX.run_ofS (N := Ng) (ps := [a]) (us := [.ref f]) (vs := [.ref f]) (k := k + 3) lk hcg sc hr J.env0 (hb s' [.ref f] J.kIn rfl) (.cons rfl .nil) rfl
    intro hr'
    obtain ⟨t', ht', hq'⟩ := G X g cdv (X.env.qual ++ "<lambda>") s' H1 rfl rfl rfl rfl rfl (hr'.mono (by omega)) f N Q (fun E H' Q' => t E σ H' Q')
      (fun W pn xe E p1 p2 tk hW => LamX.pe_act (k := k) (i := 0) J L hf hfn hfr (hbind _ _ _ _ _) tk hW (hr'.mono (by omega)) (fun A outer s H hr2 => hbody A outer s H E f N hr2) hNg hva hd hcd) hco (h H1 turns T1)
    exact ⟨t', ht'.nox, hq'⟩
  refine codeAny_mono ran ?_
  intro r s2 hq
  match r, hq with
  | .error e, hq => exact (show False from hq).elim
  | .ok (.ret u), hq => exact J.after hq
  | .ok .next, hq => exact False.elim hq
  | .ok .brk, hq => exact False.elim hq
  | .ok .cont, hq => exact False.elim hq
end Ev

namespace Ev
open PySem PySem.Spec PyProof.Rows L2
variable [Tb]

/-! ### count and index of truths -/
section
variable {X : Cx} {K : PySem.W.Frag}
def rCntB (K : PySem.W.Frag) : V → List V → Hp → VK → Prop := fun x xs H Q => ∃ (p : Addr) (bs : List Bool) (b : Bool), x = .ref p ∧ xs = [.bl b] ∧ SqL K H p (bs.map V.bl) ∧ Q (.int (bs.count b : Nat)) H
theorem flat_bools (bs : List Bool) : (bs.map V.bl).all flatV = true := by
  rw [List.all_map, List.all_eq_true]
  exact fun _ _ => rfl
theorem countP_bools {b : Bool} : ∀ {us : List Value} {bs : List Bool}, Vals (bs.map V.bl) us → us.countP (eqU (.bl b)) = bs.count b
  | [], [], _ => rfl
  | [], _ :: _, h => nomatch h
  | _ :: _, [], h => nomatch h
  | u :: us, c :: bs, .cons r t => by
    rw [List.countP_cons, List.count_cons, countP_bools t, eqU_of r rfl] <;> rfl
theorem mt_countB (hK : X.K = K) : MtR X "list.count" (rCntB K) := by
  subst hK
  intro pins s σ H x xs v us Q I rx rxs h
  obtain ⟨p, bs, b, rfl, rfl, hs, q⟩ := h
  cases rx
  obtain ⟨u, rfl, ru⟩ := rxs.one
  obtain ⟨its, rv, ⟨⟨cls, dd, data, sl⟩, n, ho, hc, hdn, hd⟩, hlen⟩ := I.list hs
  simp only at hc hd
  subst hc hd
  refine call_meets PySem.F.slot_list_count ⟨_, ho, rfl⟩ PySem.F.entry_list_count (PySem.F.args_list_count_2 _ _)
    (SeqAt.list_countAt p its.toArray n dd sl u (eqU (.bl b))) ⟨ho, fun y hy => mem_eqAt ru rfl rv (flat_bools bs) y (by simpa using hy), .int (bs.count b : Nat), H, I.tok _, ⟨s.toks, ?_⟩, q⟩
  have e : its.toArray.toList.countP (eqU (.bl b)) = bs.count b := countP_bools rv
  show Value.int ((its.toArray.toList.countP (eqU (.bl b)) : Nat) : Int) s.toks = _
  rw [e]
theorem mt_indexK (hK : X.K = K) : MtR X "list.index" (rIndex K) := by subst hK; exact mt_index
theorem me_countB : MeS K (rCntB K) cntB := by
  intro W H a us xs vs ds Q E w ha rx rs h
  match ds, rs, h with
  | [d], rs, h =>
    obtain ⟨v, rfl, r⟩ := rs.of1
    cases r with
    | bl b =>
      obtain ⟨bs, e, q⟩ := ofO_run h
      exact ⟨a, bs, b, rfl, rfl, by rw [← bools_rep rx e]; exact .inl (.inl (w.sub _ _ ha)), post_here w q (.int _)⟩
    | _ => exact (show False from h).elim
  | [], _, h => exact (show False from h).elim
  | d :: e :: t, _, h => cases d <;> exact (show False from h).elim
theorem me_indexB : MeS K (rIndex K) idxB := by
  intro W H a us xs vs ds Q E w ha rx rs h
  match ds, rs, h with
  | [d], rs, h =>
    obtain ⟨v, rfl, r⟩ := rs.of1
    cases r with
    | bl b =>
      obtain ⟨bs, e, h⟩ := ofO_run h
      obtain ⟨j, e2, q⟩ := ofO_run h
      have eu := bools_rep rx e
      subst eu
      obtain ⟨h1, h2, h3⟩ := List.findIdx?_eq_some_iff_getElem.mp e2
      refine ⟨a, _, .bl b, j, .bl bs[j], rfl, rfl, .inl (.inl (w.sub _ _ ha)), rfl, flat_bools bs, by rw [List.getElem?_map, List.getElem?_eq_getElem h1]; rfl, h2, fun m z' hm hz => ?_, post_here w q (.int _)⟩
      rw [List.getElem?_map, List.getElem?_eq_getElem (Nat.lt_trans hm h1)] at hz
      cases hz
      have := h3 m hm
      exact Bool.eq_false_iff.mpr this
    | _ => exact (show False from h).elim
  | [], _, h => exact (show False from h).elim
  | d :: e :: t, _, h => cases d <;> exact (show False from h).elim
end

/-! ### defs that are called in an except suite, with what is caught -/
section
variable (P : Program) (w : World) (K : PySem.W.Frag) (mg : Str → Option Value) (base : Heap)
structure Hk (k : Nat) (f : Addr) (fd : FuncData) (ps : List Str) (sp : Addr → Value → List V → Hp → VK → Prop) : Prop where
  len : ∀ a cls vs H Q, sp a cls vs H Q → vs.length = ps.length
  run : ∀ (A : Around) (outer : List Env) (s : Shared) (H : Hp) (args : Args) (us : List Value) (vs : List V) (Q : VK) (p : Addr × Obj) (cls : Value) (dd : Option Addr),
    L2H.RoomH k A → L2H.PinOk outer H s p → Zc cls dd p.2 → (∀ d, dd = some d → ∃ od, s.heap.get? d = some od) → (∃ fs, p.2.data = .fields fs) → Env0 P w K mg base A outer s H → BindsTo s fd args (ps.zip us) → Vals vs us → sp p.1 cls vs H Q →
      codeAny (model P w) A (.call (.ref f) args) (CR C8.CX0 outer P w H s Q C8.E0) s
end
section
variable {P : Program} {w : World} {K : PySem.W.Frag} {mg : Str → Option Value} {base : Heap}
theorem h_fn {x qual : Str} {st : Stmt} {f : Addr} {fd : FuncData} {N ps : List Str} {k : Nat} {sp : Addr → Value → List V → Hp → VK → Prop} (F : L2.Fun K x qual st f fd) (sc : FnScope N ps (defScope st)) (len : ∀ a cls vs H Q, sp a cls vs H Q → vs.length = ps.length)
    (hbody : ∀ (cdv : Value) (A : Around) (outer : List Env) (s : Shared) (H : Hp) (vs : List V) (Q : VK) (p : Addr × Obj) (cls : Value) (dd : Option Addr), L2H.RoomH k (A.deeper (envOfC qual (defScope st) s.heap.objs.size f cdv)) → Zc cls dd p.2 → (∀ d, dd = some d → ∃ od, s.heap.get? d = some od) → (∃ fs, p.2.data = .fields fs) → sp p.1 cls vs H Q →
        ∃ t, PSs (L2H.cxH C8.CX0 P w K mg base N qual (defScope st) f cdv A outer s H C8.E0 p) (defBody st) t ∧ t { nx := fun _ H' => Q .non H', rt := Q } (L2.start N vs) H) :
    Hk P w K mg base (k + 1) f fd ps sp := by
  obtain ⟨oc, od, kV, doc, pm, an, cdv, ct, osl, rfl, lk, hcd⟩ := F.ex
  constructor
  · exact len
  intro A outer s H args us vs Q p cls dd hr hpin hz hdd hf e0 hb r hsp
  have KX : K.In s.heap := e0.mod.kin.keeps (fun b o e => (e0.bs b o e).1)
  have hkind : ∀ y ∈ ps.zip us, (defScope st).names.lookup y.1 = some .local ∨ ((defScope st).names.lookup y.1 = some .cell ∧ ((cellsFrom (s.heap.objs.size + 1) (defScope st).names []).lookup y.1).isSome = true) := by
    rintro ⟨n, v⟩ hy
    cases sc.par n (List.of_mem_zip hy).1 with
    | inl q => exact .inl q
    | inr q => exact .inr ⟨q, PySem.W.cellsFrom_some _ _ _ (.inl q)⟩
  apply codeAny_call_function hr.depth (KX _ _ lk) rfl sc.co sc.gen rfl (PySem.W.codeRec_of KX hcd)
  apply hb
  apply wpAny_newFunctionEnv_cells sc.kind hkind
  rintro env rfl s1 x1
  obtain ⟨t, ht, hq⟩ := hbody cdv A outer s H vs Q p cls dd (hr.deeper _) hz hdd hf hsp
  have I : L2.Inv (L2H.cxH C8.CX0 P w K mg base N qual (defScope st) f cdv A outer s H C8.E0 p) [] (L2.start N vs) H s1 :=
    L2H.inv_startH sc hpin e0 (len _ _ _ _ _ hsp) r x1
  have lim : s.heap.NoLimit := e0.mod.nolimit.keeps (fun b o e => (e0.bs b o e).1)
  refine ⟨lim.keeps x1.toInCall.keep, codeAny_func (wpAny_mono (ht.run [] s1 (L2.start N vs) H _ I hq) ?_ (fun _ _ z => z))⟩
  intro fl s' hs
  match fl, hs with
  | .ret u, ⟨v, σ', H', J, rv, q⟩ => exact ⟨v, H', J.os, J.bare, J.base, J.hok, rv, q⟩
  | .next, ⟨σ', H', J, q⟩ => exact ⟨V.non, H', J.os, J.bare, J.base, J.hok, rfl, q⟩
  | .brk, ⟨_, _, _, q⟩ => exact q.elim
  | .cont, ⟨_, _, _, q⟩ => exact q.elim
end
section
variable {X : Cx} {k : Nat} {f a : Addr} {oe : Obj} {cls : Value} {dd : Option Addr} {fd : FuncData} {ps : List Str} {sp : Addr → Value → List V → Hp → VK → Prop} {x : Str} {p pos : Pos} {e : Expr} {es : List Expr} {t : TA}
def tCallH (sp : Addr → Value → List V → Hp → VK → Prop) (a : Addr) (cls : Value) (dd : Option Addr) (t : TA) : TE := fun σ H Q => t σ H fun vs H1 => sp a cls vs H1 Q ∧ ∀ d, dd = some d → ∃ fs, H1 d = some (.xd fs)
/-- its call -/
theorem pe_hk (G : Hk X.prog X.w X.K X.mg X.base k f fd ps sp) (hr : L2H.RoomH k X.A) (hp : (a, oe) ∈ X.pn) (hz : Zc cls dd oe) (hf : ∃ fs, oe.data = .fields fs) (hgl : Gl X x) (hm : X.mg x = some (.ref f)) (hk : PySem.W.keepIn X.K (.ref f) = true) (hb : Binds X.K fd ps [])
    (ha : PA X (e :: es) t) (hdb : (x == ("__debug__" : Str)) = false := by decide) (he : starEach (e :: es) X.env = (false, eval e X.env) :: starEach es X.env := by rfl) (hpl : (backTo pos (starEach es X.env)).any (·.1) = false := by rfl) :
    PE X (.Call (.Name x p) (e :: es) [] pos) (tCallH sp a cls dd t) := by
  constructor
  intro pins s σ H Q I h
  apply wpAny_Call_Name_kw
  refine ld_glob I hgl hm (PySem.W.callWith_K (h₀ := X.base) I.ok.mod.kin hk (thn (ha.run pos pins s σ H _ I h) ?_) he hpl) hdb
  rintro us s1 ⟨vs, H1, J, r, q, qd⟩
  have hl : (us ++ []).length = ps.length := by
    rw [List.append_nil, ← r.length]
    exact G.len _ _ _ _ _ q
  have hdd : ∀ d, dd = some d → ∃ od, s1.heap.get? d = some od := fun d e => by
    obtain ⟨fs, e2⟩ := qd d e
    have hx : ObjOk X.prog X.w H1 s1.heap d (.xd fs) := J.hok d _ e2
    obtain ⟨mA, hns, _⟩ := hx
    obtain ⟨od, ho, _⟩ := lookIn_ns hns
    exact ⟨od, ho⟩
  have b2 := hb s1 us J.kIn hl
  rw [List.append_nil] at b2
  obtain ⟨p1, p2, p3, p4, p5⟩ := J.pin (a, oe) (List.mem_append_left _ hp)
  have pin : L2H.PinOk X.stack H1 s1 (a, oe) := ⟨p1, p2, fun z => by
    cases List.mem_cons.mp (J.stkSub a z) with
    | inl y => exact p3 y
    | inr y => exact p4 y, p5⟩
  refine ⟨J.kIn, wpAny_call (codeAny_mono (G.run X.A X.stack s1 H1 ⟨us, []⟩ us vs Q (a, oe) cls dd hr pin hz hdd hf J.env0 b2 r q) ?_)⟩
  intro r' s' hq
  match r', hq with
  | .error e, hq => exact (show False from hq).elim
  | .ok (.ret u), hq => exact J.after hq
  | .ok .next, hq => exact False.elim hq
  | .ok .brk, hq => exact False.elim hq
  | .ok .cont, hq => exact False.elim hq
/-- isinstance of what is caught, anywhere where it is held -/
theorem call_isH {D : Addr} (C : ExcC X.K D) (hz : Zc (.ref D) dd oe) (hdd : ∀ d, dd = some d → ∃ od, X.s_0.heap.get? d = some od) (hex : X.ex = []) (hf : ∃ fs, oe.data = .fields fs) (hp : (a, oe) ∈ X.pn) : CallR X (.builtin "isinstance") (rIsE X.K D a) := by
  intro pins s σ H xs us Q I r h
  obtain ⟨c, cv, b, rfl, hcv, e, q⟩ := h
  match us, r with
  | [_, _], .cons rx (.cons rt .nil) =>
    cases rx
    have ec := hcv _ rt
    subst ec
    obtain ⟨fs, hv⟩ := hf
    have at_ : ∃ od, PySem.W.InstAt s.heap a oe D od := by
      have hget := (I.pin (a, oe) (List.mem_append_left _ hp)).1
      have nc : PySem.W.notCls oe = true := by
        unfold PySem.W.notCls
        rw [hv]
      cases dd with
      | none => exact ⟨none, hget, hz.1, nc, by rw [hz.2]; trivial⟩
      | some d =>
        obtain ⟨od, ho⟩ := hdd d rfl
        obtain ⟨o2, ho2⟩ := I.base.there d od ho (by rw [hex]; exact fun z => nomatch z)
        exact ⟨some o2, hget, hz.1, nc, by rw [hz.2]; exact ho2⟩
    obtain ⟨od, at_⟩ := at_
    have hcl : (PySem.W.clsIn X.K D).isSome = true := by
      have h0 := C.hd
      unfold PySem.W.hasDictIn at h0
      cases h1 : PySem.W.clsIn X.K D with
      | none => rw [h1] at h0; exact h0
      | some _ => rfl
    exact PySem.W.kia_one (PySem.W.kitx_exc hcl C.hg C.hk C.hs C.ha C.hn C.ht C.hm) I.kIn at_ e (fun z => nomatch z) fun tk => ⟨.bl b, H, I.kept (t' := tk) fun _ _ z => z, rfl, q⟩
end
theorem L2H_units {k : Nat} {A : Around} (r : L2H.RoomH k A) : A.units + 64 < cLine := by
  have := r.un
  omega
/-! ### classes of errors -/
/-- what is known of the error class x, at C: how it stands to the classes ns -/
structure Kc (K : PySem.W.Frag) (mg : Str → Option Value) (ns : List Str) (x : Str) (C : Addr) : Prop where
  g : mg x = some (.ref C)
  c : ExcC K C
  own : ∀ n ∈ ns, ∀ N, mg n = some (.ref N) → PySem.W.kitOne K (.ref C) (.ref N) = some (decide (x = n))
  ve : PySem.W.kitOne K (.ref C) (.type "ValueError") = some true
  top : ∀ T, mg "HueError" = some (.ref T) → PySem.W.exmOne K (.ref C) (.ref T) = some true
def Kcs (K : PySem.W.Frag) (mg : Str → Option Value) (ns xs : List Str) : Prop := ∀ x ∈ xs, ∃ C, Kc K mg ns x C
def spK (K : PySem.W.Frag) (mg : Str → Option Value) (xs : List Str) (F : Str → List D → M D) : Addr → Value → List V → Hp → VK → Prop := fun a cls vs H Q =>
  ∃ W x C, WOk W H ∧ vs = [.ref a] ∧ x ∈ xs ∧ mg x = some (.ref C) ∧ cls = .ref C ∧ (F x [.opq (2 * a + 1)]).run (fun d => ∀ W' H' v, Step W H W' H' → Rep K W' v d → Q v H') (fun _ => False)
/-- what is called by the name y within a suite -/
def CdH (P : Program) (w : World) (K : PySem.W.Frag) (mg : Str → Option Value) (base : Heap) (y : Str) (k : Nat) (ps : List Str) (sp : Addr → Value → List V → Hp → VK → Prop) : Prop :=
  ∃ f fd, mg y = some (.ref f) ∧ PySem.W.keepIn K (.ref f) = true ∧ Binds K fd ps [] ∧ Hk P w K mg base k f fd ps sp
section
variable {P : Program} {w : World} {K : PySem.W.Frag} {mg : Str → Option Value} {base : Heap}
theorem cdH_of {y p : Str} {st : Stmt} {N : List Str} {k : Nat} {ns xs : List Str} {F : Str → List D → M (Fl Unit Empty)} (d : Df K mg y st [p]) (sc : FnScope N [p] (defScope st)) (kc : Kcs K mg ns xs)
    (hbody : ∀ (f : Addr) (cdv : Value) (A : Around) (outer : List Env) (s : Shared) (H : Hp) (e : Addr × Obj) (x : Str) (C : Addr), ∀ dd : Option Addr, L2H.RoomH k (A.deeper (envOfC y (defScope st) s.heap.objs.size f cdv)) → Kc K mg ns x C → Zc (.ref C) dd e.2 → (∀ d, dd = some d → ∃ od, s.heap.get? d = some od) → (∃ fs, e.2.data = .fields fs) →
      ∃ t, PSs (L2H.cxH C8.CX0 P w K mg base N y (defScope st) f cdv A outer s H C8.E0 e) (defBody st) t ∧
        SS ⟨K, mg, C8.E0⟩ false t (startS N.length [.opq (2 * e.1 + 1)]) (enc0 N.length) noE (F x [.opq (2 * e.1 + 1)])) :
    CdH P w K mg base y (k + 1) [p] (spK K mg xs fun x ds => endB false (F x ds)) := by
  obtain ⟨f, fd, Fn, g, b, _⟩ := d
  refine ⟨f, fd, g, Fn.kp, b, h_fn Fn sc ?_ ?_⟩
  · rintro a cls vs H Q ⟨W, x, C, _, rfl, _⟩
    rfl
  · rintro cdv A outer s H vs Q e cls dd hr hz hdd hf ⟨W, x, C, wk, rfl, hx, hC, rfl, q⟩
    obtain ⟨C', kx⟩ := kc x hx
    have eC := kx.g
    rw [hC] at eC
    cases eC
    obtain ⟨t, p, sem⟩ := hbody f cdv A outer s H e x C dd hr kx hz hdd hf
    refine ⟨t, p, sem W W H W H (L2.start N [.ref e.1]) _ wk ⟨env_start (.cons (.raw e.1) .nil), wk, Step.refl wk, Le.refl W⟩ ((F x _).mono (fun fl hfl => ?_) (fun _ z => z.elim) q)⟩
    cases fl with
    | nx _ => exact fun W' H' σ n => hfl W' H' .non n.st .non
    | rt d => exact hfl
    | bk e => exact e.elim
    | ct e => exact e.elim
end
section
variable {X : Cx} {k j : Nat} {a : Addr} {oe : Obj} {cls : Value} {dd : Option Addr} {ps : List Str} {sp : Addr → Value → List V → Hp → VK → Prop} {x : Str} {p pos : Pos} {e : Expr} {es : List Expr} {t : TA}
theorem pe_cdH (c : CdH X.prog X.w X.K X.mg X.base x j ps sp) (hr : L2H.RoomH k X.A) (hjk : j ≤ k) (hp : (a, oe) ∈ X.pn) (hz : Zc cls dd oe) (hf : ∃ fs, oe.data = .fields fs) (hgl : Gl X x) (ha : PA X (e :: es) t)
    (hdb : (x == ("__debug__" : Str)) = false := by decide) (he : starEach (e :: es) X.env = (false, eval e X.env) :: starEach es X.env := by rfl) (hpl : (backTo pos (starEach es X.env)).any (·.1) = false := by rfl) :
    PE X (.Call (.Name x p) (e :: es) [] pos) (tCallH sp a cls dd t) := by
  obtain ⟨f, fd, g, kp, b, G⟩ := c
  exact pe_hk ⟨G.len, fun A outer s H args us vs Q p cls dd hr => G.run A outer s H args us vs Q p cls dd (hr.mono hjk)⟩ hr hp hz hf hgl g kp b ha hdb he hpl
theorem call_isHK {K : PySem.W.Frag} {D : Addr} (hK : X.K = K) (C : ExcC K D) (hz : Zc (.ref D) dd oe) (hdd : ∀ d, dd = some d → ∃ od, X.s_0.heap.get? d = some od) (hex : X.ex = []) (hf : ∃ fs, oe.data = .fields fs) (hp : (a, oe) ∈ X.pn) : CallR X (.builtin "isinstance") (rIsE K D a) := by
  subst hK
  exact call_isH C hz hdd hex hf hp
end
section
variable {S : Sx} {ρ : List Sl}
theorem raw_rep {K : PySem.W.Frag} {W : Wd} {v : V} {a : Addr} (r : Rep K W v (.opq (2 * a + 1))) : v = .ref a := by
  generalize hd : D.opq (2 * a + 1) = d at r
  cases r with
  | fn i => exact absurd (D.opq.inj hd) (by omega)
  | raw b =>
    have e : 2 * b + 1 = 2 * a + 1 := (D.opq.inj hd).symm
    exact congrArg V.ref (Nat.eq_of_mul_eq_mul_left (by decide) (Nat.succ.inj e))
  | _ => cases hd
theorem se_isH {i : Nat} {a C : Addr} {c : V} {cv : Value} {b : Bool} (h : ρ[i]? = some (.val (.opq (2 * a + 1)))) (hcv : ∀ u, RelV c u → u = cv) (e : PySem.W.kitOne S.K (.ref C) cv = some b) : SE S (tCB (rIsE S.K C a) (tCons (tVar i) (tCons (tC c) tNil))) ρ (pure (.bl b)) := fun σ H W H0 Q en w q => by
  obtain ⟨v, hv, rv⟩ := en.dat i _ h
  have ev := raw_rep rv
  subst ev
  exact ⟨_, hv, c, cv, b, rfl, hcv, e, q _ _ _ (Step.refl w) (.bl b)⟩
end
/-! ### try: return call() / except HueError as e: return kind(e) -/
def TTgot (K : PySem.W.Frag) (mg : Str → Option Value) (xs : List Str) (F : Str → List D → M D) : (XK → Hp → VK → Prop) → Hp → VK → Prop := fun tl H Q =>
  tl (fun cls d H' => (∀ x, d = some x → ∃ fs, H' x = some (.xd fs)) ∧ ∃ W x C, WOk W H' ∧ x ∈ xs ∧ mg x = some (.ref C) ∧ cls = .ref C ∧ ∀ a : Addr, (F x [.opq (2 * a + 1)]).run (fun dd => ∀ W'' H'' v, Step W H' W'' H'' → Rep K W'' v dd → Q v H'') (fun _ => False)) H Q
section
variable {S : Sx} {ρ : List Sl} {r : M D} {t : XK → TE} {xs : List Str} {F : Str → List D → M D}
theorem se_got (h : ∀ E, SE ⟨S.K, S.mg, E⟩ (t E) ρ r) : SE S (tLm (TTgot S.K S.mg xs F) t) ρ (gotM xs F r) := fun σ H W H0 Q en w q => by
  refine ⟨w.tab, fun H1 tn t1 => ?_⟩
  have st := step_turns w tn t1
  refine h _ σ H1 W H0 Q (en.step st) st.ok (r.mono (fun d hd => hd.after w st) (fun e he => ?_) q)
  rintro cv dx W' H' s' ⟨C, hC, rfl, hx⟩
  obtain ⟨e2, e3⟩ := he
  refine ⟨fun x ex => ?_, W', e.cls, C, s'.ok, e2, hC, rfl, fun a => (F _ _).mono (fun dd hd W'' H'' v s'' rv => hd v W'' H'' ((st.trans w s').trans w s'') rv) (fun _ z => z) (e3 a)⟩
  subst ex
  cases ea : e.args with
  | none =>
    rw [ea] at hx
    cases hx
  | some mn =>
    rw [ea] at hx
    obtain ⟨d, fs, e4, e5, _⟩ := hx
    cases e4
    exact ⟨fs, s'.ok.sub _ _ e5⟩
end
section
variable {P : Program} {w : World} {K : PySem.W.Frag} {mg : Str → Option Value} {base : Heap}
theorem got_gv {x kd a e : Str} {st : Stmt} {ns xs : List Str} {F : Str → List D → M D} {j : Nat} {p1 p2 p3 p4 p5 p6 p7 p8 p9 p10 : Pos} {pk : Str} {CS : Addr} (d : Df K mg x st [a]) (sc : FnScope [a, e] [a] (defScope st)) (kc : Kcs K mg ns xs) (hCS : mg "HueError" = some (.ref CS))
    (ck : CdH P w K mg base kd 1 [pk] (spK K mg xs F)) (hj : j = 0)
    (hb : defBody st = [.Try [.Return (some (.Call (.Name a p1) [] [] p2)) p3] [.ExceptHandler (some (.Name "HueError" p4)) (some e) [.Return (some (.Call (.Name kd p5) [.Name e p6] [] p7)) p8] p9] [] [] p10])
    (hva : Vis (defScope st) a) (hge : (defScope st).names.lookup ("HueError" : Str) = some NameKind.globalImplicit) (hgk : (defScope st).names.lookup kd = some NameKind.globalImplicit) (hle : (defScope st).names.lookup e = some NameKind.local)
    (hdb : (x == ("__debug__" : Str)) = false := by decide) (hda : (a == ("__debug__" : Str)) = false := by decide) (hca : (a == ("__classdict__" : Str)) = false := by decide) (hdk : (kd == ("__debug__" : Str)) = false := by decide)
    (hde : (e == ("__debug__" : Str)) = false := by decide) (hce : (e == ("__classdict__" : Str)) = false := by decide) : Gv P w K mg base x (TTgot K mg xs F) := by
  refine gv_of d sc rfl hva ?_ hdb hda hca
  rw [hb]
  intro X g cdg q s H0 hP hw hK hmg hbase hr f N Q tl act hN h
  subst hP hw hK hmg hbase
  refine ⟨_, pss_one (ps_try_as (X := (cxOf C8.CX0 X.prog X.w X.K X.mg X.base [a, e] x (defScope st) g cdg X.A X.stack s H0 C8.E0).nox) (i := 1) (c := .ref CS) (Wout := fun _ _ _ _ => False)
      (tb := fun W D σ H => ∃ Ech : XK, (∀ cls d σ' H', Ech cls d H' → W cls d σ' H') ∧ σ[0]? = some (some (.ref f)) ∧ H N = some (LamX.CodeO N q) ∧ tl Ech H D.rt)
      (ts := fun b cls d D σ H => (∀ x, d = some x → ∃ fs, H x = some (.xd fs)) ∧ (σ.length = 2 → σ[1]? = some (some (.ref b))) ∧ spK X.K X.mg xs F b cls [.ref b] H D.rt)
      rfl rfl sc.nd rfl hle ⟨hge, by decide, .inl hCS⟩ LamX.takes0 (fun W pn xe tk _ => ?_) (fun b oe cls dd pn hz hf => ?_)), ?_⟩
  · constructor
    intro pins s' σ H' D I h'
    obtain ⟨Ech, hW, h1, h2, h3⟩ := h'
    exact (pss_one (ps_ret (act W pn xe Ech p1 p2 tk hW))).run pins s' σ H' D I ⟨h1, h2, h3⟩
  · constructor
    intro pins s' σ H' D I h'
    obtain ⟨h0, h1, h2⟩ := h'
    have hl : σ.length = 2 := I.len
    have pv : PE ((cxOf C8.CX0 X.prog X.w X.K X.mg X.base [a, e] x (defScope st) g cdg X.A X.stack s H0 C8.E0).nox.suite b ((b, oe) :: pn)) (.Name e p6) (tVar 1) := pe_var (i := 1) rfl (.inl hle) hde hce
    have pc : PE ((cxOf C8.CX0 X.prog X.w X.K X.mg X.base [a, e] x (defScope st) g cdg X.A X.stack s H0 C8.E0).nox.suite b ((b, oe) :: pn)) (.Call (.Name kd p5) [.Name e p6] [] p7) (tCallH (spK X.K X.mg xs F) b cls dd (tCons (tVar 1) tNil)) :=
      pe_cdH (k := 3) ck ⟨hr.dp, hr.un⟩ (by decide) List.mem_cons_self hz hf hgk (pa_cons pv pa_nil) hdk
    exact (pss_one (ps_ret pc)).run pins s' σ H' D I ⟨_, h1 hl, h2, h0⟩
  · refine ⟨fun cls d H' => (∀ x, d = some x → ∃ fs, H' x = some (.xd fs)) ∧ ∃ W x C, WOk W H' ∧ x ∈ xs ∧ X.mg x = some (.ref C) ∧ cls = .ref C ∧ ∀ a : Addr, (F x [.opq (2 * a + 1)]).run (fun dd => ∀ W'' H'' v, Step W H' W'' H'' → Rep X.K W'' v dd → Q v H'') (fun _ => False), ?_, rfl, hN, h⟩
    rintro cls d σ' H' ⟨h0, W, y, C, wk, hy, hC, rfl, hF⟩
    obtain ⟨C', ky⟩ := kc y hy
    have eC := ky.g
    rw [hC] at eC
    cases eC
    refine ⟨true, ky.top CS hCS, fun _ b _ => ⟨h0, fun hl => ?_, W, y, C, wk, rfl, hy, hC, rfl, hF b⟩, fun z => nomatch z⟩
    rw [List.length_set] at hl
    exact List.getElem?_set_self (by omega)
theorem pe_gv {X : Cx} {x : Str} {TT : (XK → Hp → VK → Prop) → Hp → VK → Prop} {c B : Addr} {k : Nat} {pa : Arguments} {bo : Expr} {sc : Scope} {t : XK → TE} {p lpos pos : Pos} (G : Gv X.prog X.w X.K X.mg X.base x TT) (hgl : Gl X x) (tB : LamX.TabB X.base X.mg c B) (hcode : X.env.code = .ref c)
    (hmT : (B, X.env.qual ++ "<lambda>") ∈ Tb.T) (hu : ∀ p ∈ Tb.T, p.1 = B → p.2 = X.env.qual ++ "<lambda>") (hr : Room (k + 4) X.A) (L : LamX.LamS X.env.scope sc) (hdef : defaultsOf pa X.env = ([], []))
    (hbind : ∀ (q : Str) (cl : List (Str × Addr)) (pm cv ctv : Value), bindArgs (PySem.W.kla_fn "<lambda>" q pa bo sc cl pm cv ctv) ⟨[], []⟩ = pure [])
    (hbody : ∀ (A : Around) (outer : List Env) (s : Shared) (H : Hp) (E : XK) (f N : Addr), Room k (A.deeper (LamX.lamEnv X sc s.heap.objs.size f N)) → PE (LamX.lamCx X A outer s H E sc f N) bo (t E)) :
    PE X (.Call (.Name x p) [.Lambda pa bo sc lpos] [] pos) (tLm TT t) := G X rfl rfl rfl rfl rfl hgl tB hcode hmT hu hr L hdef hbind hbody
/-- a def that makes lambdas: its code object is known -/
def DfC (K : PySem.W.Frag) (mg : Str → Option Value) (x : Str) (st : Stmt) (ps : List Str) (c : Addr) : Prop := ∃ f fd, L2.Fun K x x st f fd ∧ mg x = some (.ref f) ∧ Binds K fd ps [] ∧ fd.code = .ref c
theorem cdC_of {qg : Bool} {x : Str} {st : Stmt} {N ps : List Str} {k : Nat} {c : Addr} (own : Bool) {F : List D → M (Fl Unit Empty)} (d : DfC K mg x st ps c) (sc : FnScope N ps (defScope st))
    (hbody : ∀ (f : Addr) (A : Around) (outer : List Env) (s : Shared) (H : Hp) (E : XK),
      Room k (A.deeper (envOfC x (defScope st) s.heap.objs.size f (.ref c))) → (qg = true → (A.deeper (envOfC x (defScope st) s.heap.objs.size f (.ref c))).guards = some []) →
        ∃ t, PSs (cxOf (L2.CX P w) P w K mg base N x (defScope st) f (.ref c) A outer s H E) (defBody st) t ∧
          ∀ ds, ds.length = ps.length → SS ⟨K, mg, E⟩ own t (startS N.length ds) (enc0 N.length) noE (F ds)) :
    Cd qg P w K mg base x (k + 1) ps (spD K mg own ps.length (fun ds => endB own (F ds))) := by
  obtain ⟨f, fd, Fn, g, b, hc⟩ := d
  refine ⟨f, fd, g, Fn.kp, b, g_of own Fn sc fun cdv A outer s H E hcd => ?_⟩
  rw [hc] at hcd
  subst hcd
  exact hbody f A outer s H E
/-- .. with its code's value -/
theorem dfE_mk {h : Heap} {x : Str} {st : Stmt} {ps : List Str} {f : Addr} {oc : Value} {od an : Option Addr} {osl : Array (Option Value)} {kV doc pm cdv ct : Value} (X : K.In h) (G : h.Ns mainGlobals mg)
    (a : PySem.W.nsIn K mainGlobals x = some (some (.ref f)))
    (l : K.lookup f = some ⟨oc, od, .func (PySem.W.fnOf x x (defArgs st) (defBody st) (defScope st) .none kV doc pm an cdv ct), osl⟩)
    (c : PySem.W.codeIn K cdv x = true) (k : PySem.W.keepIn K (.ref f) = true)
    (b : ∀ (kV doc pm : Value) (an : Option Addr) (cdv ct : Value) (us : List Value), us.length = ps.length → bindArgs (PySem.W.fnOf x x (defArgs st) (defBody st) (defScope st) .none kV doc pm an cdv ct) ⟨us, []⟩ = pure (ps.zip us)) :
    ∃ f fd, L2.Fun K x x st f fd ∧ mg x = some (.ref f) ∧ Binds K fd ps [] ∧ (∀ (s : Shared) (us : List Value), us.length = ps.length → BindsTo s fd ⟨us, []⟩ (ps.zip us)) ∧ fd.code = cdv :=
  have F := fun_mk l c k
  ⟨f, _, F, PySem.W.mg_of X G a, F.binds b, fun _ us hl => .of_eq (b kV doc pm an cdv ct us hl), rfl⟩
theorem dfC_of {x : Str} {st : Stmt} {ps : List Str} {cdv : Value} {c : Addr} (d : ∃ f fd, L2.Fun K x x st f fd ∧ mg x = some (.ref f) ∧ Binds K fd ps [] ∧ (∀ (s : Shared) (us : List Value), us.length = ps.length → BindsTo s fd ⟨us, []⟩ (ps.zip us)) ∧ fd.code = cdv) (h : cdv = .ref c) : DfC K mg x st ps c := by
  obtain ⟨f, fd, F, g, b, _, e⟩ := d
  exact ⟨f, fd, F, g, b, e.trans h⟩
abbrev lamQ (x : Str) : Str := x ++ ".<locals>." ++ "<lambda>"
def tabP (o : Obj) : Option Addr := match o.data with
  | .fields vs => (match (vs[11]? : Option Value) with
    | some (.ref B) => some B
    | _ => none)
  | _ => none
def isClsO (o : Obj) : Bool := match o.data with
  | .cls _ => true
  | _ => false
theorem tb_uniq : ∀ {T : List (Addr × Str)} {B : Addr} {q : Str}, (T.map (·.1)).Nodup → (B, q) ∈ T → ∀ p ∈ T, p.1 = B → p.2 = q
  | [], _, _, _, h => nomatch h
  | x :: r, B, q, nd, h => by
    intro p hp e
    rw [List.map_cons, List.nodup_cons] at nd
    rcases List.mem_cons.mp h with rfl | h2
    · rcases List.mem_cons.mp hp with rfl | hp
      · rfl
      · exact absurd (List.mem_map.mpr ⟨p, hp, e⟩) nd.1
    · rcases List.mem_cons.mp hp with rfl | hp
      · exact (nd.1 (List.mem_map.mpr ⟨(B, q), h2, e.symm⟩)).elim
      · exact tb_uniq nd.2 h2 p hp e
theorem kc_mk {ns : List Str} {x : Str} {C T : Addr} (g : mg x = some (.ref C)) (c : ExcC K C)
    (own : ∀ n ∈ ns, ∃ N o, mg n = some (.ref N) ∧ K.lookup N = some o ∧ isClsO o = true ∧ PySem.W.typeIn K (.ref N) = some (.type "type") ∧ PySem.W.subIn K (.ref C) (.ref N) = some (decide (x = n)))
    (self : PySem.W.subIn K (.ref C) (.ref C) = some true) (ve : PySem.W.subIn K (.ref C) (.type "ValueError") = some true)
    (gT : mg "HueError" = some (.ref T)) (bT : PySem.W.subIn K (.ref T) (.type "BaseException") = some true) (dT : PySem.W.hasDictIn K T = true) (tT : PySem.W.typeIn K (.ref T) = some (.type "type")) (sT : PySem.W.subIn K (.ref C) (.ref T) = some true) : Kc K mg ns x C where
  g := g
  c := c
  own := fun n hn N hN => by
    obtain ⟨N', o, g2, lk, io, ty, su⟩ := own n hn
    rw [hN] at g2
    cases g2
    unfold PySem.W.kitOne
    by_cases e : (Value.ref C == Value.ref N) = true
    · rw [if_pos e]
      have e2 : C = N := Value.ref.inj (beq_iff_eq.mp e)
      subst e2
      rw [self] at su
      exact su
    · rw [if_neg e]
      have hc : (PySem.W.clsIn K N).isSome = true := by
        unfold PySem.W.clsIn
        rw [lk]
        obtain ⟨a, b, d, sl⟩ := o
        cases d <;> first | rfl | exact absurd (show false = true from io) (by decide)
      show (if ((PySem.W.clsIn K N).isSome && PySem.W.typeIn K (.ref N) == some (.type "type")) = true then PySem.W.subIn K (.ref C) (.ref N) else none) = _
      rw [hc, ty, if_pos (by rfl)]
      exact su
  ve := by
    unfold PySem.W.kitOne
    rw [if_neg (fun z => by cases (beq_iff_eq.mp z))]
    show (if PySem.W.kitMeta "ValueError" = true then PySem.W.subIn K (.ref C) (.type "ValueError") else none) = some true
    rw [if_pos (by decide +kernel)]
    exact ve
  top := fun T' h => by
    rw [gT] at h
    cases h
    exact PySem.W.exm_ref bT dT tT sT
theorem pass_lam {X : Cx} {A : Around} {outer : List Env} {s : Shared} {H : Hp} {E : XK} {sc : Scope} {f N : Addr} : Passes (L2.CX X.prog X.w) (LamX.lamCx X A outer s H E sc f N) E :=
  passes_call (takes_of (E := E) rfl rfl rfl rfl) fun _ _ _ _ z => z
/-- a call within a lambda's body -/
theorem pe_cdl {X : Cx} {A : Around} {outer : List Env} {s : Shared} {H : Hp} {E : XK} {sc : Scope} {f N : Addr} {qg : Bool} {k j : Nat} {ps : List Str} {sp : Sp} {x : Str} {p pos : Pos} {e : Expr} {es : List Expr} {t : TA} (c : Cd qg X.prog X.w X.K X.mg X.base x j ps sp) (hr : Room k (A.deeper (LamX.lamEnv X sc s.heap.objs.size f N)))
    (hg : qg = true → (A.deeper (LamX.lamEnv X sc s.heap.objs.size f N)).guards = some []) (ha : PA (LamX.lamCx X A outer s H E sc f N) (e :: es) t) (hjk : j ≤ k := by decide) (hgl : Gl (LamX.lamCx X A outer s H E sc f N) x := by exact rfl)
    (hdb : (x == ("__debug__" : Str)) = false := by decide) (he : starEach (e :: es) (LamX.lamCx X A outer s H E sc f N).env = (false, eval e (LamX.lamCx X A outer s H E sc f N).env) :: starEach es (LamX.lamCx X A outer s H E sc f N).env := by rfl) (hpl : (backTo pos (starEach es (LamX.lamCx X A outer s H E sc f N).env)).any (·.1) = false := by rfl) :
    PE (LamX.lamCx X A outer s H E sc f N) (.Call (.Name x p) (e :: es) [] pos) (tCallG sp E t) :=
  pe_cd (X := LamX.lamCx X A outer s H E sc f N) c hr hg (pass_lam (X := X)) ha hjk hgl hdb he hpl
end
/-! ### try: call() / except HueError as e: w = kind(e); return (w, e.many, e.most) if w == "great" else w / return "told" -/
def TTsaid (K : PySem.W.Frag) (mg : Str → Option Value) (xs : List Str) (F : Str → List D → M D) : (XK → Hp → VK → Prop) → Hp → VK → Prop := fun tl H Q =>
  tl (fun cls d H' => (∀ x, d = some x → ∃ fs, H' x = some (.xd fs)) ∧ ∃ W x C, WOk W H' ∧ x ∈ xs ∧ mg x = some (.ref C) ∧ cls = .ref C ∧ ∀ a : Addr, (F x [.opq (2 * a + 1)]).run (fun dd => ∃ w : Str, dd = .str w ∧
    ((w ≠ "great" ∧ ∀ W'' H'' v, Step W H' W'' H'' → Rep K W'' v dd → Q v H'') ∨
      (w = "great" ∧ x = "TooGreat" ∧ ∃ (i j : Int) (dx : Addr) (fs : List (Str × V)), d = some dx ∧ W.P dx = some (.xd fs) ∧ fs.lookup ("many" : Str) = some (V.int i) ∧ fs.lookup ("most" : Str) = some (V.int j) ∧ ∀ W'' H'' v, Step W H' W'' H'' → Rep K W'' v (.tup [.str "great", .int i, .int j]) → Q v H''))) (fun _ => False)) H fun _ H' => Q (.str "told") H'
section
variable {S : Sx} {ρ : List Sl} {r : M D} {t : XK → TE} {xs : List Str} {F : Str → List D → M D}
theorem xrep_dict {mg : Str → Option Value} {e : Exn} {C : Addr} {d : Option Addr} {W : Wd} {H : Hp} (w : WOk W H) (hx : match e.args with
    | none => d = none
    | some (m, n) => ∃ (dx : Addr) (fs : List (Str × V)), d = some dx ∧ W.P dx = some (.xd fs) ∧ fs.lookup ("many" : Str) = some (V.int m) ∧ fs.lookup ("most" : Str) = some (V.int n)) : ∀ x, d = some x → ∃ fs, H x = some (.xd fs) := fun x ex => by
  subst ex
  cases ea : e.args with
  | none =>
    rw [ea] at hx
    cases hx
  | some mn =>
    rw [ea] at hx
    obtain ⟨d, fs, e4, e5, _⟩ := hx
    cases e4
    exact ⟨fs, w.sub _ _ e5⟩
theorem se_said (h : ∀ E, SE ⟨S.K, S.mg, E⟩ (t E) ρ r) : SE S (tLm (TTsaid S.K S.mg xs F) t) ρ (saidM xs F r) := fun σ H W H0 Q en w q => by
  refine ⟨w.tab, fun H1 tn t1 => ?_⟩
  have st := step_turns w tn t1
  refine h _ σ H1 W H0 _ (en.step st) st.ok (r.mono (fun d hd => ?_) (fun e he => ?_) q)
  · intro v W' H' s' _
    exact hd _ _ _ (st.trans w s') (.str _)
  · rintro cv dx W' H' s' ⟨C, hC, rfl, hx⟩
    obtain ⟨e2, e3⟩ := he
    refine ⟨xrep_dict (mg := S.mg) (C := C) s'.ok hx, W', e.cls, C, s'.ok, e2, hC, rfl, fun a => (F _ _).mono (fun dd ⟨w1, hd1, hd2⟩ => ⟨w1, hd1, hd2.imp (fun z => ⟨z.1, fun W'' H'' v s'' rv => z.2 v W'' H'' ((st.trans w s').trans w s'') rv⟩) (fun ⟨i, j, z1, z2, z3, z4⟩ => ?_)⟩) (fun _ z => z) (e3 a)⟩
    rw [z3] at hx
    obtain ⟨d, fs, f1, f2, f3, f4⟩ := hx
    exact ⟨z1, z2, i, j, d, fs, f1, f2, f3, f4, fun W'' H'' v s'' rv => z4 v W'' H'' ((st.trans w s').trans w s'') rv⟩
end
section
variable {P : Program} {w : World} {K : PySem.W.Frag} {mg : Str → Option Value} {base : Heap}
theorem said_gr {x kd a e wn : Str} {st : Stmt} {ns xs : List Str} {F : Str → List D → M D} {j1 j2 j3 : Nat} {p1 p2 p3 p4 p5 p6 p7 p8 p9 p10 p11 p12 p13 p14 p15 p16 p17 p18 p19 p20 p21 p22 p23 p24 p25 : Pos} {pk : Str} {CS G : Addr} (d : Df K mg x st [a]) (sc : FnScope [a, e, wn] [a] (defScope st)) (kc : Kcs K mg ns xs) (hCS : mg "HueError" = some (.ref CS))
    (ck : CdH P w K mg base kd 1 [pk] (spK K mg xs F)) (hG : mg "TooGreat" = some (.ref G)) (xf : XfC K G) (hm1 : PySem.W.findIn K (.ref G) "many" = some none) (hm2 : PySem.W.findIn K (.ref G) "most" = some none)
    (hb : defBody st = [.Try [.Expr (.Call (.Name a p1) [] [] p2) p3] [.ExceptHandler (some (.Name "HueError" p4)) (some e) [.Assign [.Name wn p5] (.Call (.Name kd p6) [.Name e p7] [] p8) p9,
      .Return (some (.IfExp (.Compare (.Name wn p10) [.Eq] [.Constant (.str "great") j1 p11] p12) (.Tuple [.Name wn p13, .Attribute (.Name e p14) "many" p15, .Attribute (.Name e p16) "most" p17] j3 p18) (.Name wn p19) p20)) p21] p22] [] [] p23, .Return (some (.Constant (.str "told") j2 p24)) p25])
    (hva : Vis (defScope st) a) (hge : (defScope st).names.lookup ("HueError" : Str) = some NameKind.globalImplicit) (hgk : (defScope st).names.lookup kd = some NameKind.globalImplicit) (hle : (defScope st).names.lookup e = some NameKind.local) (hlw : (defScope st).names.lookup wn = some NameKind.local)
    (hdb : (x == ("__debug__" : Str)) = false := by decide) (hda : (a == ("__debug__" : Str)) = false := by decide) (hca : (a == ("__classdict__" : Str)) = false := by decide) (hdk : (kd == ("__debug__" : Str)) = false := by decide)
    (hde : (e == ("__debug__" : Str)) = false := by decide) (hce : (e == ("__classdict__" : Str)) = false := by decide) (hdw : (wn == ("__debug__" : Str)) = false := by decide) (hcw : (wn == ("__classdict__" : Str)) = false := by decide) : GivesR P w K mg base [a, e, wn] x (defScope st) (defBody st) a (TTsaid K mg xs F) := by
  rw [hb]
  intro X g cdg q s H0 hP hw hK hmg hbase hr f N Q tl act hN h
  subst hP hw hK hmg hbase
  refine ⟨_, pss_cons (ps_try_as (X := (cxOf C8.CX0 X.prog X.w X.K X.mg X.base [a, e, wn] x (defScope st) g cdg X.A X.stack s H0 C8.E0).nox) (i := 1) (c := .ref CS) (Wout := fun _ _ _ _ => False)
      (tb := fun W D σ H => ∃ Ech : XK, (∀ cls d σ' H', Ech cls d H' → W cls d σ' H') ∧ σ[0]? = some (some (.ref f)) ∧ H N = some (LamX.CodeO N q) ∧ tl Ech H fun _ H' => D.nx σ H')
      (ts := fun b cls d D σ H => (∀ x, d = some x → ∃ fs, H x = some (.xd fs)) ∧ (σ.length = 3 → σ[1]? = some (some (.ref b))) ∧ spK X.K X.mg xs F b cls [.ref b] H fun v H' => ∃ w : Str, v = .str w ∧ ((w ≠ "great" ∧ D.rt (.str w) H') ∨
        (w = "great" ∧ cls = .ref G ∧ ∃ (i j : Int) (dx : Addr) (fs : List (Str × V)), d = some dx ∧ H' dx = some (.xd fs) ∧ fs.lookup ("many" : Str) = some (V.int i) ∧ fs.lookup ("most" : Str) = some (V.int j) ∧ NewT H' [.str "great", .int i, .int j] D.rt)))
      rfl rfl sc.nd rfl hle ⟨hge, by decide, .inl hCS⟩ LamX.takes0 (fun W pn xe tk _ => ?_) (fun b oe cls dd pn hz hf => ?_)) (pss_one (ps_ret pe_str)), ?_⟩
  · constructor
    intro pins s' σ H' D I h'
    obtain ⟨Ech, hW, h1, h2, h3⟩ := h'
    exact (pss_one (ps_expr (act W pn xe Ech p1 p2 tk hW))).run pins s' σ H' D I ⟨h1, h2, h3⟩
  · constructor
    intro pins s' σ H' D I h'
    obtain ⟨h0, h1, h2⟩ := h'
    have hl : σ.length = 3 := I.len
    have pv1 : ∀ p, PE ((cxOf C8.CX0 X.prog X.w X.K X.mg X.base [a, e, wn] x (defScope st) g cdg X.A X.stack s H0 C8.E0).nox.suite b ((b, oe) :: pn)) (.Name e p) (tVar 1) := fun p => pe_var (i := 1) rfl (.inl hle) hde hce
    have pv2 : ∀ p, PE ((cxOf C8.CX0 X.prog X.w X.K X.mg X.base [a, e, wn] x (defScope st) g cdg X.A X.stack s H0 C8.E0).nox.suite b ((b, oe) :: pn)) (.Name wn p) (tVar 2) := fun p => pe_var (i := 2) rfl (.inl hlw) hdw hcw
    have pc : PE ((cxOf C8.CX0 X.prog X.w X.K X.mg X.base [a, e, wn] x (defScope st) g cdg X.A X.stack s H0 C8.E0).nox.suite b ((b, oe) :: pn)) (.Call (.Name kd p6) [.Name e p7] [] p8) (tCallH (spK X.K X.mg xs F) b cls dd (tCons (tVar 1) tNil)) :=
      pe_cdH (k := 3) ck ⟨hr.dp, hr.un⟩ (by decide) List.mem_cons_self hz hf hgk (pa_cons (pv1 _) pa_nil) hdk
    have body : PSs ((cxOf C8.CX0 X.prog X.w X.K X.mg X.base [a, e, wn] x (defScope st) g cdg X.A X.stack s H0 C8.E0).nox.suite b ((b, oe) :: pn)) [.Assign [.Name wn p5] (.Call (.Name kd p6) [.Name e p7] [] p8) p9,
      .Return (some (.IfExp (.Compare (.Name wn p10) [.Eq] [.Constant (.str "great") j1 p11] p12) (.Tuple [.Name wn p13, .Attribute (.Name e p14) "many" p15, .Attribute (.Name e p16) "most" p17] j3 p18) (.Name wn p19) p20)) p21] _ :=
      pss_cons (ps_set (i := 2) sc.nd rfl (.inl hlw) pc) (pss_one (ps_ret (pe_ifExp (pt_cmpR op_eq (pv2 p10) pe_str (nomark _)) (pe_tupB (pa_cons (pv2 p13) (pa_cons (pe_xf (n := "many") xf hm1 hz hf (pv1 p14)) (pa_cons (pe_xf (n := "most") xf hm2 hz hf (pv1 p16)) pa_nil)))) (pv2 p19))))
    refine body.run pins s' σ H' D I ⟨_, h1 hl, ?_, h0⟩
    obtain ⟨W, y, C, wk, e1, hy, hC, ec, hF⟩ := h2
    refine ⟨W, y, C, wk, e1, hy, hC, ec, (F y _).mono (fun dd2 hd W' H'' v st rv => ?_) (fun _ z => z) hF⟩
    obtain ⟨w, rfl, ⟨ne, fin⟩ | ⟨rfl, ecl, i, j, dx, fs, f1, f2, f3, f4, fin⟩⟩ := hd W' H'' v st rv
    · refine ⟨_, List.getElem?_set_self (by omega), rfl, _, rfl, ?_⟩
      rw [show decide (V.str w = V.str "great") = false from decide_eq_false fun z => ne (V.str.inj z)]
      exact ⟨_, List.getElem?_set_self (by omega), fin⟩
    · refine ⟨_, List.getElem?_set_self (by omega), rfl, _, rfl, ?_⟩
      rw [show decide (V.str "great" = V.str "great") = true from decide_eq_true rfl]
      have g1 : (σ.set 2 (some (V.str "great")))[1]? = some (some (.ref b)) := by rw [List.getElem?_set_ne (by decide)]; exact h1 hl
      exact ⟨_, List.getElem?_set_self (by omega), ⟨_, g1, rfl, ecl, dx, fs, _, f1, f2, f3, ⟨_, g1, rfl, ecl, dx, fs, _, f1, f2, f4, Nat.le_of_lt (small1000 (Nat.le_of_ble_eq_true rfl)), fun p ob hp ho => fin p ob hp ho⟩⟩⟩
  · refine ⟨fun cls d H' => (∀ x, d = some x → ∃ fs, H' x = some (.xd fs)) ∧ ∃ W x C, WOk W H' ∧ x ∈ xs ∧ X.mg x = some (.ref C) ∧ cls = .ref C ∧ ∀ a : Addr, (F x [.opq (2 * a + 1)]).run (fun dd => ∃ w : Str, dd = .str w ∧
      ((w ≠ "great" ∧ ∀ W'' H'' v, Step W H' W'' H'' → Rep X.K W'' v dd → Q v H'') ∨
        (w = "great" ∧ x = "TooGreat" ∧ ∃ (i j : Int) (dx : Addr) (fs : List (Str × V)), d = some dx ∧ W.P dx = some (.xd fs) ∧ fs.lookup ("many" : Str) = some (V.int i) ∧ fs.lookup ("most" : Str) = some (V.int j) ∧ ∀ W'' H'' v, Step W H' W'' H'' → Rep X.K W'' v (.tup [.str "great", .int i, .int j]) → Q v H''))) (fun _ => False), ?_, rfl, hN, h⟩
    rintro cls d σ' H' ⟨h0, W, y, C, wk, hy, hC, rfl, hF⟩
    obtain ⟨C', ky⟩ := kc y hy
    have eC := ky.g
    rw [hC] at eC
    cases eC
    refine ⟨true, ky.top CS hCS, fun _ b _ => ⟨h0, fun hl => ?_, W, y, C, wk, rfl, hy, hC, rfl, (F y _).mono (fun dd hd W'' H'' v st rv => ?_) (fun _ z => z) (hF b)⟩, fun z => nomatch z⟩
    · rw [List.length_set] at hl
      exact List.getElem?_set_self (by omega)
    · obtain ⟨w, rfl, ⟨ne, q⟩ | ⟨rfl, ey, i, j, dx, fs, f1, f2, f3, f4, q⟩⟩ := hd
      · have q2 := q W'' H'' v st rv
        cases rv
        exact ⟨w, rfl, .inl ⟨ne, q2⟩⟩
      · cases rv
        refine ⟨_, rfl, .inr ⟨rfl, ?_, i, j, dx, fs, f1, st.ok.sub _ _ (st.le.p _ _ f2), f3, f4, fun p ob hp ho => ?_⟩⟩
        · subst ey
          rw [hG] at hC
          cases hC
          rfl
        · have sd := Step.dat (o := .frz ob (.tup [.str "great", .int i, .int j])) st.ok hp
          exact q _ _ _ (st.trans wk sd) (.tup (.inl ⟨ob, upd_same, ho⟩) (.cons (.str _) (.cons (.int _) (.cons (.int _) .nil))))
theorem said_gv {x kd a e wn : Str} {st : Stmt} {ns xs : List Str} {F : Str → List D → M D} {j1 j2 j3 : Nat} {p1 p2 p3 p4 p5 p6 p7 p8 p9 p10 p11 p12 p13 p14 p15 p16 p17 p18 p19 p20 p21 p22 p23 p24 p25 : Pos} {pk : Str} {CS G : Addr} (d : Df K mg x st [a]) (sc : FnScope [a, e, wn] [a] (defScope st)) (kc : Kcs K mg ns xs) (hCS : mg "HueError" = some (.ref CS))
    (ck : CdH P w K mg base kd 1 [pk] (spK K mg xs F)) (hG : mg "TooGreat" = some (.ref G)) (xf : XfC K G) (hm1 : PySem.W.findIn K (.ref G) "many" = some none) (hm2 : PySem.W.findIn K (.ref G) "most" = some none)
    (hb : defBody st = [.Try [.Expr (.Call (.Name a p1) [] [] p2) p3] [.ExceptHandler (some (.Name "HueError" p4)) (some e) [.Assign [.Name wn p5] (.Call (.Name kd p6) [.Name e p7] [] p8) p9,
      .Return (some (.IfExp (.Compare (.Name wn p10) [.Eq] [.Constant (.str "great") j1 p11] p12) (.Tuple [.Name wn p13, .Attribute (.Name e p14) "many" p15, .Attribute (.Name e p16) "most" p17] j3 p18) (.Name wn p19) p20)) p21] p22] [] [] p23, .Return (some (.Constant (.str "told") j2 p24)) p25])
    (hva : Vis (defScope st) a) (hge : (defScope st).names.lookup ("HueError" : Str) = some NameKind.globalImplicit) (hgk : (defScope st).names.lookup kd = some NameKind.globalImplicit) (hle : (defScope st).names.lookup e = some NameKind.local) (hlw : (defScope st).names.lookup wn = some NameKind.local)
    (hdb : (x == ("__debug__" : Str)) = false := by decide) (hda : (a == ("__debug__" : Str)) = false := by decide) (hca : (a == ("__classdict__" : Str)) = false := by decide) (hdk : (kd == ("__debug__" : Str)) = false := by decide)
    (hde : (e == ("__debug__" : Str)) = false := by decide) (hce : (e == ("__classdict__" : Str)) = false := by decide) (hdw : (wn == ("__debug__" : Str)) = false := by decide) (hcw : (wn == ("__classdict__" : Str)) = false := by decide) : Gv P w K mg base x (TTsaid K mg xs F) :=
  gv_of d sc rfl hva (said_gr d sc kc hCS ck hG xf hm1 hm2 hb hva hge hgk hle hlw hdb hda hca hdk hde hce hdw hcw) hdb hda hca
end
/-! ### tuples of numbers that stand in the module -/
def valInts : List Value → Option (List Int)
  | [] => some []
  | .int i _ :: r => (valInts r).map (i :: ·)
  | _ :: _ => none
def tupInts (o : Obj) : Option (List Int) := match o with
  | ⟨.type "tuple", none, .seq vs _, _⟩ => if vs.size ≤ 1000 then valInts vs.toList else none
  | _ => none
def GTup (K : PySem.W.Frag) (a : Addr) (ns : List Int) : Prop := ∃ o, K.lookup a = some o ∧ tupInts o = some ns
theorem valInts_vals : ∀ {vs : List Value} {ns : List Int}, valInts vs = some ns → Vals (ns.map V.int) vs
  | [], _, h => by
    cases h
    exact .nil
  | v :: r, ns, h => by
    cases v with
    | int i t =>
      rw [valInts, Option.map_eq_some_iff] at h
      obtain ⟨ms, e, rfl⟩ := h
      exact .cons ⟨t, rfl⟩ (valInts_vals e)
    | _ => cases h
theorem gtup_sq {K : PySem.W.Frag} {a : Addr} {ns : List Int} {H : Hp} (h : GTup K a ns) : BqT K H a (ns.map V.int) := by
  obtain ⟨o, lk, e⟩ := h
  unfold tupInts at e
  split at e
  · rename_i vs n sl
    split at e
    · rename_i hz
      have r := valInts_vals e
      exact .inr ⟨_, vs, _, lk, rfl, rfl, rfl, Nat.le_trans hz (by decide), r⟩
    · cases e
  · cases e
section
variable {S : Sx} {ρ : List Sl}
theorem se_gtup {a : Addr} {ns : List Int} (h : GTup S.K a ns) : SE S (tC (.ref a)) ρ (pure (.tup (ns.map D.int))) := fun σ H W H0 Q en w q => by
  exact q _ _ _ (Step.refl w) (.tup (gtup_sq h) (reps_ints ns))
end
end Ev

namespace Ev
open PySem PySem.Spec PyProof.Rows L2
variable [Tb]
/-! ### methods of tuples -/
section
variable {X : Cx} {pins : List (Addr × Obj)} {σ : L2.St} {H : Hp} {s : Shared}
theorem bqT_at {a : Addr} {xs : List V} (I : L2.Inv X pins σ H s) (h : BqT X.K H a xs) : s.TypeIs (.ref a) "tuple" ∧ ∀ b, Value.ref a = .ref b → ∃ ob, s.heap.get? b = some ob ∧ ob.dict = none := by
  rcases h with ⟨o, h, e⟩ | ⟨o, its, n, h1, h2, h3, _⟩
  · obtain ⟨g, _, iv, _, ⟨o2, g2, c2, _⟩⟩ := (show ObjOk X.prog X.w H s.heap a (.frz o (.tup xs)) from I.hok a _ h)
    rw [g] at g2
    cases g2
    exact ⟨⟨o, g, c2⟩, fun b eb => by cases eb; exact ⟨o, g, e⟩⟩
  · exact ⟨⟨o, I.kIn a o h1, h2⟩, fun b eb => by cases eb; exact ⟨o, I.kIn _ o h1, h3⟩⟩
end
def tBMT (K : PySem.W.Frag) (r : V → List V → Hp → VK → Prop) (to : TE) (t : TA) : TE := fun σ H Q => to σ H fun x H1 => (∃ a xs, x = .ref a ∧ BqT K H1 a xs) ∧ t σ H1 fun xs H2 => r x xs H2 Q
theorem pe_bmT {X : Cx} {K : PySem.W.Frag} {o e : Expr} {es : List Expr} {to : TE} {t : TA} {name : Str} {apos cpos : Pos} {id : String} {r : V → List V → Hp → VK → Prop} (hK : X.K = K) (slot : Slot "tuple" name id) (hty : typeOf (.builtin id) = pure (.type "method_descriptor")) (hm : MtR X id r) (ho : PE X o to) (ha : PA X (e :: es) t)
    (hb : attributeBase o name X.env (eval o X.env) = eval o X.env := by rfl)
    (hf : ((backTo cpos (starEach (e :: es) X.env)).all (fun x => !x.1) && (backToKw cpos (keywordEach [] X.env)).all (fun x => x.1.isSome) && decide ((e :: es).length + ([] : List Keyword).length + (if ([] : List Keyword).isEmpty then 0 else 1) < 30)) = true := by rfl)
    (hl : (apos.endLine == cpos.line) = true := by rfl) (hs : starEach (e :: es) X.env = (false, eval e X.env) :: starEach es X.env := by rfl) (hp : (backTo cpos (starEach es X.env)).any (·.1) = false := by rfl) :
    PE X (.Call (.Attribute o name apos) (e :: es) [] cpos) (tBMT K r to t) := by
  subst hK
  constructor
  intro pins s σ H Q I h
  refine wpAny_Call_method_late hb hf hl rfl (thn (ho.run pins s σ H _ I h) ?_)
  rintro v s1 ⟨x, H1, J, rx, ⟨a, xs, rfl, bq⟩, q⟩
  cases rx
  obtain ⟨h1, h2⟩ := bqT_at J bq
  refine ⟨"tuple", id, PySem.F.plainAttrs_tuple, slot, hty, h1, h2, ?_⟩
  have run := ha.run cpos pins s1 σ H1 _ J q
  rw [hs] at run ⊢
  refine Calls.callWith_builtin (by show (false || (backTo cpos (starEach es X.env)).any (·.1)) = false; rw [hp]; rfl) (Calls.evalArgs_plain (thn run ?_))
  rintro us s2 ⟨vs, H2, J2, rs, q2⟩
  exact hm pins s2 σ H2 (.ref a) vs (.ref a) us Q J2 rfl rs q2
section
variable {X : Cx} {K : PySem.W.Frag}
theorem countP_ints {k : Int} {t : Tok} : ∀ {us : List Value} {ns : List Int}, Vals (ns.map V.int) us → us.countP (eqU (.int k)) = ns.count k
  | [], [], _ => rfl
  | [], _ :: _, h => nomatch h
  | _ :: _, [], h => nomatch h
  | u :: us, c :: ns, .cons r tl => by
    obtain ⟨t', rfl⟩ := r
    rw [List.countP_cons, List.count_cons, countP_ints (t := t) tl]
    rfl
theorem flat_ints (ns : List Int) : (ns.map V.int).all flatV = true := by
  rw [List.all_map, List.all_eq_true]
  exact fun _ _ => rfl
def rCntT (K : PySem.W.Frag) : V → List V → Hp → VK → Prop := fun x xs H Q => ∃ (p : Addr) (ns : List Int) (k : Int), x = .ref p ∧ xs = [.int k] ∧ SqT K H p (ns.map V.int) ∧ Q (.int (ns.count k : Nat)) H
theorem mt_tcount (hK : X.K = K) : MtR X "tuple.count" (rCntT K) := by
  subst hK
  rintro pins s σ H x xs v us Q I rx rxs ⟨p, ns, k, rfl, rfl, hs, q⟩
  cases rx
  obtain ⟨u, rfl, ru⟩ := rxs.one
  obtain ⟨t, rfl⟩ := ru
  obtain ⟨its, rv, ⟨⟨cls, dd, data, sl⟩, ho, hc, n, hd⟩, _⟩ := I.tuple hs
  simp only at hc hd
  subst hc hd
  refine call_meets PySem.F.slot_tuple_count ⟨_, ho, rfl⟩ PySem.F.entry_tuple_count (PySem.F.args_tuple_count_2 _ _)
    (SeqAt.tuple_countAt p its.toArray n dd sl (.int k t) (eqU (.int k))) ⟨ho, fun y hy => mem_eqAt (x := V.int k) ⟨t, rfl⟩ rfl rv (flat_ints ns) y (by simpa using hy), .int (ns.count k : Nat), H, I.tok _, ⟨s.toks, ?_⟩, q⟩
  have e : its.toArray.toList.countP (eqU (.int k)) = ns.count k := countP_ints (t := t) rv
  show Value.int ((its.toArray.toList.countP (eqU (.int k)) : Nat) : Int) s.toks = _
  rw [e]
def rIdxT (K : PySem.W.Frag) : V → List V → Hp → VK → Prop := fun x xs H Q => ∃ (p : Addr) (ns : List Int) (k : Int) (j : Nat), x = .ref p ∧ xs = [.int k] ∧ SqT K H p (ns.map V.int) ∧ ns[j]? = some k ∧ (∀ m, m < j → ns[m]? ≠ some k) ∧ Q (.int (j : Nat)) H
theorem mt_tindex (hK : X.K = K) : MtR X "tuple.index" (rIdxT K) := by
  subst hK
  rintro pins s σ H x xs v us Q I rx rxs ⟨p, ns, k, j, rfl, rfl, hs, hj, hno, q⟩
  cases rx
  obtain ⟨u, rfl, ru⟩ := rxs.one
  obtain ⟨t, rfl⟩ := ru
  obtain ⟨its, rv, ⟨⟨cls, dd, data, sl⟩, ho, hc, n, hd⟩, _⟩ := I.tuple hs
  simp only at hc hd
  subst hc hd
  have el : its.length = ns.length := by rw [← rv.length, List.length_map]
  have at' : ∀ (m : Nat) (z : Int), ns[m]? = some z → ∃ t', its[m]? = some (Value.int z t') := fun m z e => by
    obtain ⟨w, e1, t', e2⟩ := rv.get (i := m) (x := .int z) (by rw [List.getElem?_map, e]; rfl)
    subst e2
    exact ⟨t', e1⟩
  have jl : j < its.toArray.size := by
    rw [List.size_toArray, el]
    exact (List.getElem?_eq_some_iff.mp hj).1
  refine call_meets PySem.F.slot_tuple_index ⟨_, ho, rfl⟩ PySem.F.entry_tuple_index (PySem.F.args_tuple_index_2 _ _) (TI.tuple_indexAt p its.toArray n dd sl (.int k t) (eqU (.int k)) j jl ?_ ?_)
    ⟨ho, fun y hy => mem_eqAt (x := V.int k) ⟨t, rfl⟩ rfl rv (flat_ints ns) y (by simpa using hy), .int (j : Nat), H, I.tok _, ⟨s.toks, rfl⟩, q⟩
  · obtain ⟨t', e⟩ := at' j k hj
    have e2 : its.toArray[j] = Value.int k t' := by
      rw [List.getElem_toArray]
      exact (List.getElem?_eq_some_iff.mp e).2
    rw [e2]
    show (k == k) = true
    exact beq_self_eq_true k
  · intro m hm lt
    have hm' : m < ns.length := by rw [List.size_toArray, el] at hm; exact hm
    obtain ⟨t', e⟩ := at' m _ (List.getElem?_eq_getElem hm')
    have e2 : its.toArray[m] = Value.int ns[m] t' := by
      rw [List.getElem_toArray]
      exact (List.getElem?_eq_some_iff.mp e).2
    rw [e2]
    show (ns[m] == k) = false
    exact beq_eq_false_iff_ne.mpr fun z => hno m lt (by rw [List.getElem?_eq_getElem hm', z])
end
section
variable {S : Sx} {ρ : List Sl} {to : TE} {ta : TA} {ro : M D} {rs : List (M D)}
def TeS (K : PySem.W.Frag) (r : V → List V → Hp → VK → Prop) (f : List D → List D → M D) : Prop :=
  ∀ W H a us xs vs ds Q (E : Exn → Prop), WOk W H → BqT K W.P a us → Reps K W us xs → Reps K W vs ds → (f xs ds).run (Post K Q W H) E → r (.ref a) vs H Q
theorem se_tmet {r : V → List V → Hp → VK → Prop} {f : List D → List D → M D} (hf : TeS S.K r f) (h : SE S to ρ ro) (h2 : SA S ta ρ rs) : SE S (tBMT S.K r to ta) ρ (tupMet f ro rs) := fun σ H W H0 Q e w q => by
  refine h.go e w q (fun _ z => z) fun d v W1 H1 q1 s1 r1 e1 => ?_
  cases r1 with
  | @tup a us xs hx rx =>
    refine ⟨⟨a, us, rfl, s1.ok.bqT hx⟩, ?_⟩
    refine h2.go e1 s1.ok q1 (fun _ z => z.after w s1) fun ds vs W2 H2 q2 s2 r2 e2 => ?_
    exact hf W2 H2 a us xs vs ds Q _ s2.ok (s2.le.bqT hx) (rx.mono s2.le) r2 ((f xs ds).mono (fun _ z => z.after w (s1.trans w s2)) (fun _ z => z) q2)
  | _ => exact (show False from q1).elim
theorem te_count {K : PySem.W.Frag} : TeS K (rCntT K) cntT := by
  intro W H a us xs vs ds Q E w ha rx rs h
  obtain ⟨ns, k, e, rfl, q⟩ := cntT_run h
  obtain ⟨v, rfl, r⟩ := rs.of1
  cases r
  exact ⟨a, ns, k, rfl, rfl, by rw [← ints_rep rx e]; exact w.sqT ha, post_here w q (.int _)⟩
theorem te_index {K : PySem.W.Frag} : TeS K (rIdxT K) idxT := by
  intro W H a us xs vs ds Q E w ha rx rs h
  obtain ⟨ns, k, j, e, rfl, e2, q⟩ := idxT_run h
  obtain ⟨v, rfl, r⟩ := rs.of1
  cases r
  obtain ⟨h1, h2, h3⟩ := List.findIdx?_eq_some_iff_getElem.mp e2
  refine ⟨a, ns, k, j, rfl, rfl, by rw [← ints_rep rx e]; exact w.sqT ha, ?_, fun m lt z => ?_, post_here w q (.int _)⟩
  · rw [List.getElem?_eq_getElem h1]
    exact congrArg some (beq_iff_eq.mp h2)
  · have hm : m < ns.length := Nat.lt_trans lt h1
    rw [List.getElem?_eq_getElem hm] at z
    have := h3 m lt
    rw [Option.some.inj z] at this
    exact this (beq_self_eq_true k)
end
/-! ### in, of a tuple of any data -/
section
variable {X : Cx}
def rInT (neg : Bool) (K : PySem.W.Frag) : R2 := fun x y H Q => ∃ d ds, Dp K H x d ∧ Dp K H y (.tuple ds) ∧ SeqAt.shaped d = true ∧ SeqAt.shaped (.tuple ds) = true ∧ Q (.bl (if neg then !(ds.any fun z => PyData.eqv z d) else ds.any fun z => PyData.eqv z d)) H
theorem op_inT {K : PySem.W.Frag} {k : Nat} (hK : X.K = K) (hr : Room k X.A) : OpR X (compareOp .In) (rInT false K) := by
  subst hK
  rintro pins s σ H x y v u Q I rx ry ⟨d, ds, h1, h2, s1, s2, q⟩
  obtain ⟨as, r1⟩ := Dp.reads I d x v h1 rx
  obtain ⟨bs, r2⟩ := Dp.reads I (.tuple ds) y u h2 ry
  exact SeqAt.in_tuple_reads r2 r1 (SeqAt.canLay_of_shaped s2) (SeqAt.canLay_of_shaped s1) (room_in_shaped s1 (by have := hr.un; omega)) ⟨.bl _, H, I, rfl, q⟩
theorem op_notinT {K : PySem.W.Frag} {k : Nat} (hK : X.K = K) (hr : Room k X.A) : OpR X (compareOp .NotIn) (rInT true K) := by
  subst hK
  rintro pins s σ H x y v u Q I rx ry ⟨d, ds, h1, h2, s1, s2, q⟩
  obtain ⟨as, r1⟩ := Dp.reads I d x v h1 rx
  obtain ⟨bs, r2⟩ := Dp.reads I (.tuple ds) y u h2 ry
  exact SeqAt.notIn_tuple_reads r2 r1 (SeqAt.canLay_of_shaped s2) (SeqAt.canLay_of_shaped s1) (room_in_shaped s1 (by have := hr.un; omega)) ⟨.bl _, H, I, rfl, q⟩
end
section
variable {K : PySem.W.Frag}
theorem innG_run {neg : Bool} {W : Wd} {H : Hp} {x y : V} {dx dy : D} {Q : VK} {E : Exn → Prop} (w : WOk W H) (rx : Rep K W x dx) (ry : Rep K W y dy) (h : (D.innG neg dx dy).run (Post K Q W H) E) : rInT neg K x y H Q := by
  cases ry with
  | @tup a vs xs hx r =>
    obtain ⟨⟨c1, c2⟩, q⟩ := h
    obtain ⟨p1, s1⟩ := cmp_split c1
    obtain ⟨p2, s2⟩ := cmp_split c2
    refine ⟨dx.py, D.pys xs, rx.dp w p1, ?_, s1, ?_, ?_⟩
    · have := (Rep.tup (K := K) hx r).dp w p2
      rwa [D.py] at this
    · rwa [D.py] at s2
    · have e : ((D.pys xs).any fun z => PyData.eqv z dx.py) = xs.any fun z => z.eqv dx := by
        rw [D.pys_map, List.any_map]
        rfl
      rw [e]
      exact post_here w q (.bl _)
  | _ => exact (show False from h).elim
theorem os_inT : OpS K (rInT false K) (D.innG false) := fun W H x y dx dy Q E w rx ry h => innG_run w rx ry h
theorem os_notinT : OpS K (rInT true K) (D.innG true) := fun W H x y dx dy Q E w rx ry h => innG_run w rx ry h
end
end Ev

namespace Ev
open PySem PySem.Spec PyProof.Rows L2
variable [Tb]
/-! ### dicts of one's own -/
theorem units1 {u : Nat} (h : u + 64 < cLine) : u + 1 < cLine := by omega
section
variable {S : Sx} {own : Bool} {ρ : List Sl} {T L : Type} {enc : T → List Sl} {encL : L → List Sl} {tb : TS}
/-- an object of one's own, written -/
theorem Now.putOb {Wf W0 W : Wd} {H0 H : Hp} {σ : L2.St} (n : Now S Wf W0 H0 W H σ ρ) {i : Nat} {c c' : OwnC} {a : Addr} {o' : HO} (hi : ρ[i]? = some (.ob c)) (h1 : σ[i]? = some (some (.ref a))) (g3 : W.P a = none) (g4 : W.N a = none) (g5 : H0 a = none)
    (hs : Soft H a) (ho : ∀ ps, o' ≠ .tbl ps) (r : HoR S.K W (upd H a o') o' c') : Now S Wf W0 H0 W (upd H a o') σ (ρ.set i (.ob c')) := by
  have w1 : WOk W (upd H a o') := n.ok.putO g3 g4 hs ho
  refine ⟨⟨fun j d' hj => ?_, fun j es hj => ?_, fun j k es fs b hjk f1 f2 f3 => ?_, by rw [List.length_set, n.env.ln]⟩, w1, ⟨n.st.le, w1, fun b o e hnn => ?_, n.st.newP, n.st.newN⟩, n.fl⟩
  · exact n.env.dat j d' (getElem?_set_no hj (by intro z; cases z)).2
  · by_cases e : i = j
    · subst e
      rw [List.getElem?_set_self (List.getElem?_eq_some_iff.mp hi).1] at hj
      cases hj
      exact ⟨a, _, h1, upd_same, g3, g4, g5, r⟩
    · rw [List.getElem?_set_ne e] at hj
      obtain ⟨b, zs, f1, f2, f3⟩ := n.env.ow j es hj
      have nb : b ≠ a := fun z => by
        subst z
        exact n.env.ap i j _ _ b e hi hj h1 f1
      exact ⟨b, zs, f1, by rw [upd_ne nb]; exact f2, f3.1, f3.2.1, f3.2.2.1, f3.2.2.2.upd (hs)⟩
  · have get : ∀ {j : Nat} {es : OwnC}, (ρ.set i (.ob c'))[j]? = some (.ob es) → ∃ fs, ρ[j]? = some (.ob fs) := fun {j es} hj => by
      by_cases e : i = j
      · subst e; exact ⟨_, hi⟩
      · rw [List.getElem?_set_ne e] at hj; exact ⟨_, hj⟩
    obtain ⟨_, f1⟩ := get f1
    obtain ⟨_, f2⟩ := get f2
    exact n.env.ap j k _ _ b hjk f1 f2 f3
  · rw [upd_ne (ne_of_none e g5)]
    exact n.st.old b o e hnn
/-- x = {} -/
theorem ss_dnew {i : Nat} {m : M (Fl T L)} (hb : SS S own tb (ρ.set i (.odc [])) enc encL m) : SS S own (tSeq (tAsg tDNewK (gName i)) tb) ρ enc encL m := fun Wf W0 H0 W H σ D w n q => by
  show ∀ p, H p = none → _
  intro p hp
  have s1 := Step.raw n.ok (o := .dK []) hp
  refine hb Wf W0 H0 W _ _ D w ⟨(n.env.step s1).setOb i upd_same (nopen n.ok hp).1 (nopen n.ok hp).2 (n.st.free0 w hp) (.dct .nil) fun j es _ hj hs => ?_, s1.ok, n.st.trans w s1, n.fl.trans s1.le⟩ q
  obtain ⟨b, us, g1, g2, _⟩ := n.env.ow j es hj
  rw [g1] at hs
  cases hs
  rw [hp] at g2
  cases g2
theorem RepKv.anyk {K : PySem.W.Frag} {W : Wd} {k : Key} : ∀ {vs : List (Key × V)} {ds : List (Sum Int Str × Ev.D)}, RepKv K W vs ds → (vs.any fun kv => decide (kv.1 = k)) = (ds.any fun kv => decide (kv.1 = k))
  | _, _, .nil => rfl
  | _, _, .cons _ r => by rw [List.any_cons, List.any_cons, RepKv.anyk r]
theorem RepKv.append {K : PySem.W.Frag} {W : Wd} : ∀ {vs ws : List (Key × V)} {ds es : List (Sum Int Str × Ev.D)}, RepKv K W vs ds → RepKv K W ws es → RepKv K W (vs ++ ws) (ds ++ es)
  | _, _, _, _, .nil, s => s
  | _, _, _, _, .cons h r, s => .cons h (RepKv.append r s)
theorem RepKv.repl {K : PySem.W.Frag} {W : Wd} {k : Key} {v : V} {d : Ev.D} (h : Rep K W v d) : ∀ {vs : List (Key × V)} {ds : List (Sum Int Str × Ev.D)}, RepKv K W vs ds → RepKv K W (vs.map fun kv => if kv.1 = k then (kv.1, v) else kv) (ds.map fun kv => if kv.1 = k then (kv.1, d) else kv)
  | _, _, .nil => .nil
  | _, _, .cons (k := k0) g r => by
    rw [List.map_cons, List.map_cons]
    by_cases e : k0 = k
    · rw [if_pos e, if_pos e]
      exact .cons h (RepKv.repl h r)
    · rw [if_neg e, if_neg e]
      exact .cons g (RepKv.repl h r)
theorem RepKv.put {K : PySem.W.Frag} {W : Wd} {vs : List (Key × V)} {ds : List (Sum Int Str × Ev.D)} (r : RepKv K W vs ds) (k : Key) {v : V} {d : Ev.D} (h : Rep K W v d) : RepKv K W (putK vs k v) (putD ds k d) := by
  unfold putK putD
  rw [r.anyk]
  split
  · exact r.repl h
  · exact r.append (.cons h .nil)
theorem RepKv.snds {K : PySem.W.Frag} {W : Wd} : ∀ {vs : List (Key × V)} {ds : List (Sum Int Str × Ev.D)}, RepKv K W vs ds → Reps K W (vs.map (·.2)) (ds.map (·.2))
  | _, _, .nil => .nil
  | _, _, .cons h r => .cons h (RepKv.snds r)
/-- d[k] = e -/
theorem ss_dput {i : Nat} {te ti : TE} {ds : List (Sum Int Str × Ev.D)} {r ri : M Ev.D} {k : List (Sum Int Str × Ev.D) → M (Fl T L)} (hi : ρ[i]? = some (.odc ds)) (h : SE S te ρ r) (h2 : SE S ti ρ ri) (hb : ∀ es, SS S own tb (ρ.set i (.odc es)) enc encL (k es)) :
    SS S own (tSeq (tAsg te (gSub (tVar i) ti rSetD)) tb) ρ enc encL (dputM ds r ri k) := fun Wf W0 H0 W H σ D w n q => by
  refine h.go n.env n.ok q (xpost w n.st) fun d v W1 H1 q1 s1 r1 e1 => ?_
  have n1 := n.st.trans w s1
  obtain ⟨a, vs, h1, _⟩ := e1.owD i ds hi
  refine ⟨_, h1, ?_⟩
  refine h2.go e1 s1.ok q1 (fun x z => z.after w n1) fun dx vx W2 H2 q2 s2 r2 e2 => ?_
  have n2 := n1.trans w s2
  obtain ⟨b, kvs, g1, g2, g3, g4, g5, g6⟩ := e2.owD i ds hi
  rw [h1] at g1
  cases g1
  have nw : Now S Wf W0 H0 W2 H2 σ ρ := ⟨e2, s2.ok, n2, (n.fl.trans s1.le).trans s2.le⟩
  have fin : ∀ y : Key, vx = kV y → (guard (ds.length < line) >>= fun _ => k (putD ds y d)).run (FlPost S own Wf W0 H0 enc encL D) (XPost S W0 H0) → ∃ a' H', V.ref a = .ref a' ∧ DPut H2 a' vx v H' ∧ tb D σ H' := fun y ey q3 => by
    obtain ⟨hl, q4⟩ := q3
    subst ey
    refine ⟨a, _, rfl, DPut.k g2 (by rw [g6.length]; exact hl), ?_⟩
    exact hb _ Wf W0 H0 W2 _ σ D w (nw.putOb hi h1 g3 g4 g5 (soft_dct g2) (fun _ z => nomatch z) (.dct (g6.put y (r1.mono s2.le)))) q4
  rcases dkeyOf_run q2 with ⟨z, rfl, q3⟩ | ⟨z, rfl, q3⟩
  · exact fin (.inl z) r2.inj_int q3
  · exact fin (.inr z) r2.inj_str q3
end
/-! ### sorted, of what is collected -/
open Classical in
theorem sort_fin {X : Cx} {pins : List (Addr × Obj)} {s : Shared} {σ : L2.St} {H : Hp} {Q : VK} {src : Value} {xs : List V} {ls : List (List Int)} {R : V → List Int → Prop} (I : L2.Inv X pins σ H s) (hal : AlR R xs ls) (hR : ∀ x l, R x l → ∃ t, x = V.ref t ∧ SqT X.K H t (l.map V.int))
    (hne : ls.length < 2 ∨ ∀ l ∈ ls, l ≠ []) (hz : xs.length ≤ sizeLine) (q : ∀ ys p, AlR R ys (sortI ls) → H p = none → Q (.ref p) (upd H p (.lst ys)))
    (hc : ∀ Rr : List Value → Shared → Prop, (∀ s' its, (∀ b o, s.heap.get? b = some o → s'.heap.get? b = some o) → s.heap.objs.size ≤ s'.heap.objs.size → s'.gens = s.gens → s'.os = s.os → (∃ ys : List V, ys.Perm xs ∧ Vals ys its) → Rr its s') → wpAny (model X.prog X.w) X.A.in1 (collect src) Rr X.xe s) :
    wpAny (model X.prog X.w) X.A (call (.builtin "sorted") [src]) (fun u s' => ∃ x H', L2.Inv X pins σ H' s' ∧ RelV x u ∧ Q x H') X.xe s := by
  let k : V → List Int := fun v => if z : ∃ l, R v l then Classical.choose z else []
  have hk : ∀ x l, R x l → k x = l := fun x l h => by
    have z : ∃ l, R x l := ⟨l, h⟩
    have e : k x = Classical.choose z := dif_pos z
    obtain ⟨t, e1, h1⟩ := hR x l h
    obtain ⟨t', e2, h2⟩ := hR x _ (Classical.choose_spec z)
    rw [e1] at e2
    cases e2
    rw [e]
    exact int_map_inj (I.tuple_inj h2 h1)
  obtain ⟨ek, hx⟩ := hal.to_map hk
  refine Calls.call_function_entry kind_sorted plain_sorted entry_sorted (args_sorted1 _) ?_
  unfold Builtin.«sorted»
  refine wpAny_bind (m := checkCount "sorted" 1 1 _) (wpAny_pure ?_)
  refine wpAny_bind (hc _ fun s1 its k1 hz1 g1 o1 pr => ?_)
  obtain ⟨ys0, pm, rv⟩ := pr
  obtain ⟨e1, e2⟩ := refs_back rv fun x m => (hR x _ (hx x (pm.mem_iff.mp m))).imp fun t z => z.1
  have hl : its.length ≤ sizeLine := by rw [← rv.length, pm.length_eq]; exact hz
  refine wpAny_bind (wpAny_newList ?_ hl)
  have hoL : (s1.heap.push (seqObj "list" its.toArray 0)).get? s1.heap.objs.size = some (seqObj "list" its.toArray 0) := Heap.get?_push_size _ rfl
  have hN : 2 ≤ its.length → ∀ v ∈ its, IsNums (s1.heap.push (seqObj "list" its.toArray 0)) v (k (backV v)) ∧ k (backV v) ≠ [] := fun h2 v hv => by
    have hne : ∀ l ∈ ls, l ≠ [] := hne.elim (fun h => by rw [← ek, List.length_map, ← pm.length_eq, rv.length] at h; omega) id
    obtain ⟨t, rfl⟩ := e2 v hv
    have hm : V.ref t ∈ xs := pm.mem_iff.mp (by rw [e1]; exact List.mem_map.mpr ⟨_, hv, rfl⟩)
    obtain ⟨t', e, ht⟩ := hR _ _ (hx _ hm)
    cases e
    obtain ⟨us, r2, ⟨o, ho, hc, n, hd⟩, _⟩ := I.tuple ht
    exact ⟨⟨t, o, us.toArray, n, rfl, Heap.get?_push_of_some _ (k1 _ _ ho), hc, hd, r2.ints⟩, hne _ (by rw [← ek]; exact List.mem_map.mpr ⟨_, hm, rfl⟩)⟩
  show wpAny _ _ _ _ _ { s1 with heap := s1.heap.push (seqObj "list" its.toArray 0) }
  refine wpAny_bind (wpAny_holding (wpAny_call_entry slot_list_sort ⟨_, hoL, rfl⟩ entry_list_sort (SrtO.list_sort_ord (s := { s1 with heap := s1.heap.push (seqObj "list" its.toArray 0) }) (lexK_swo fun u => k (backV u)) hoL hl (fun h2 => ?_) fun out h1 h2 => ⟨_, rfl, ?_⟩) (args_list_sort _)))
  · refine nums_sortable (s := { s1 with heap := s1.heap.push (seqObj "list" its.toArray 0) }) (by omega) (fun v hm => hN h2 v hm) fun o e => ?_
    have e' : some o = some _ := e.symm.trans hoL
    cases e'
    exact fun c => absurd (Value.type.inj c) (by decide)
  refine wpAny_pure ⟨_, rfl, ?_⟩
  obtain ⟨ep, he'⟩ := PyProof.Rows.sortedHeap_at (vs := its) (out := out.toArray) hoL
  have h3 : ∀ u ∈ out, ∃ a, u = Value.ref a := fun u hu => e2 u (h2.perm.mem_iff.mp hu)
  have hp : (out.map backV).Perm xs := by
    refine List.Perm.trans ?_ pm
    rw [e1]
    exact h2.perm.map backV
  have hs2 : (out.map backV).map k = sortI ls := by
    refine sortI_eq ?_ (by rw [← ek]; exact hp.map k)
    rw [List.map_map]
    exact List.pairwise_map.mpr h1
  have hn : H s1.heap.objs.size = none := I.hok.fresh hz1
  have kk : ∀ b u, s.heap.get? b = some u → (sortedHeap (s1.heap.push (seqObj "list" its.toArray 0)) s1.heap.objs.size its out.toArray).get? b = some u := fun b u e => by
    have q := k1 b u e
    have hlt := Heap.lt_size q
    rw [PyProof.Rows.sortedHeap_old (Nat.ne_of_lt hlt) (by rw [size_push']; exact Nat.lt_succ_of_lt hlt)]
    exact Heap.get?_push_of_some _ q
  have hlen : (out.map backV).length ≤ sizeLine := by rw [hp.length_eq]; exact hz
  have J : L2.Inv X pins σ (upd H s1.heap.objs.size (.lst (out.map backV))) { s with heap := sortedHeap (s1.heap.push (seqObj "list" its.toArray 0)) s1.heap.objs.size its out.toArray, gens := s1.gens, drawn := s1.drawn, toks := s1.toks } :=
    I.call (ch := []) (Un.laid kk hz1 hn) (I.hok.laid kk hz1 ⟨hlen, out, ep, vals_back h3, he'⟩) (by rw [g1]; exact I.bare) (fun _ z => nomatch z)
  refine ⟨.ref _, _, ?_, rfl, q (out.map backV) _ ?_ hn⟩
  · have e : ({ s1 with heap := sortedHeap (s1.heap.push (seqObj "list" its.toArray 0)) s1.heap.objs.size its out.toArray } : Shared) = { s with heap := sortedHeap (s1.heap.push (seqObj "list" its.toArray 0)) s1.heap.objs.size its out.toArray, gens := s1.gens, drawn := s1.drawn, toks := s1.toks } := by
      cases s1
      cases s
      cases o1
      rfl
    rw [e]
    exact J
  · rw [← hs2]
    exact AlR.of_map fun y hy => hx y (hp.mem_iff.mp hy)
/-- sorted(o.values()), a dict of tuples of numbers -/
def tSortVals (K : PySem.W.Frag) (td : TE) : TE := fun σ H Q => td σ H fun x H1 => ∃ (a : Addr) (kvs : List (Key × V)) (ls : List (List Int)) (R : V → List Int → Prop), x = V.ref a ∧ H1 a = some (.dK kvs) ∧ AlR R (kvs.map (·.2)) ls ∧ (∀ x l, R x l → ∃ t, x = V.ref t ∧ SqT K H1 t (l.map V.int)) ∧ (ls.length < 2 ∨ ∀ l ∈ ls, l ≠ []) ∧
  ∀ ys p, AlR R ys (sortI ls) → H1 p = none → Q (.ref p) (upd H1 p (.lst ys))
theorem vals_of_items {Xp : Program} {w : World} {kvs : List (Key × V)} {vs : List (Key × Value)} (rel : KV kvs vs) : ∀ {acc : Array Value}, ItemsOf (fun i v => ∃ k, vs[i]? = some (k, v)) acc vs.length → Vals (kvs.map (·.2)) acc.toList := by
  intro acc h
  have e : acc.toList = vs.map (·.2) := by
    apply List.ext_getElem?
    intro i
    rw [List.getElem?_map]
    cases g : acc.toList[i]? with
    | none =>
      have : acc.toList.length ≤ i := List.getElem?_eq_none_iff.mp g
      rw [Array.length_toList, h.1] at this
      rw [List.getElem?_eq_none this]
      rfl
    | some v =>
      obtain ⟨k, hk⟩ := h.2 i v (by rw [← Array.getElem?_toList]; exact g)
      rw [hk]
      rfl
  rw [e]
  clear e h
  unfold KV at rel
  induction rel with
  | nil => exact .nil
  | cons h t ih => exact .cons h.2 ih
theorem pe_sortVals {X : Cx} {K : PySem.W.Frag} {o : Expr} {p pos apos mpos : Pos} {td : TE} (hK : X.K = K) (hc : X.calm = true) (hg : Gl X "sorted") (hm : X.mg "sorted" = none) (hd : PE X o td) (hbase : attributeBase o "values" X.env (eval o X.env) = eval o X.env := by rfl) (hline : (apos.endLine == mpos.line) = true := by rfl)
    (hse : starEach [Expr.Call (.Attribute o "values" apos) [] [] mpos] X.env = [(false, eval (Expr.Call (.Attribute o "values" apos) [] [] mpos) X.env)] := by rfl) :
    PE X (.Call (.Name "sorted" p) [.Call (.Attribute o "values" apos) [] [] mpos] [] pos) (tSortVals K td) := by
  subst hK
  refine ⟨fun pins s σ H Q I h => ?_⟩
  refine wpAny_Call_Name_kw (ld_blt I hg hm (u := .builtin "sorted") bt_sorted ?_ (by decide +kernel) (by decide +kernel))
  rw [hse]
  refine PySem.callWith_builtin1 (wpAny_Call_method0_late hbase hline (thn (hd.run pins s σ H _ I h) fun v s1 ⟨x, H1, I1, r1, a, kvs, ls, R, ex, ha, hal, hR, hne, q⟩ => ?_))
  subst ex
  obtain rfl : v = Value.ref a := r1
  obtain ⟨hz, hsys, vs, rel, dof⟩ := dk_of I1.hok ha
  obtain ⟨ep, dat⟩ := dof.dictAt
  have dat' := dat
  obtain ⟨ob, es, ho, ex, hdat, hko, hpr, hnd⟩ := dat'
  refine ⟨"dict", "dict.values", F.plainAttrs_dict, F.slot_dict_values, F.type_dict_values, ⟨ob, ho, ex.1⟩, fun b e => ?_, Calls.callWith_builtin rfl (PySem.evalArgs_none ?_)⟩
  · cases e
    exact ⟨ob, ho, ex.2.1⟩
  refine call_meetsIn F.slot_dict_values ⟨ob, ho, ex.1⟩ F.entry_dict_values (F.args_dict_values_1 _) (meets_dict_values (mixKind X.prog X.w) a hsys) ⟨⟨vs, dof⟩, ?_⟩
  have k1 : ∀ b u, s1.heap.get? b = some u → (s1.heap.push { cls := .type "dict_values", data := .fields #[.ref a] }).get? b = some u := fun b u e => Heap.get?_push_of_some _ e
  have dat1 : (s1.heap.push { cls := .type "dict_values", data := .fields #[.ref a] }).DictAt (mixKind X.prog X.w) a vs ep := dat.keep k1
  have I2 : L2.Inv X pins σ H1 { s1 with heap := s1.heap.push { cls := .type "dict_values", data := .fields #[.ref a] } } := I1.kept (t' := s1.toks) k1
  have hlv : kvs.length = vs.length := KV.length rel
  refine sort_fin I2 hal hR hne (by rw [List.length_map]; exact hz) q fun Rr hRr => ?_
  refine PySem.W.kdu_collect (A := X.A.in1) (PySem.W.kdl_values (knd := mixKind X.prog X.w) (kvs := vs) (ep := ep)) (I.ok.hd hc) ⟨⟨_, Heap.get?_push_size _ rfl, rfl, rfl⟩, dat1⟩ (by rw [← hlv]; exact hz) fun h' tk acc hk hacc => ?_
  refine hRr _ _ (fun b o e => hk b o e) ?_ rfl rfl ⟨_, .refl _, vals_of_items (Xp := X.prog) (w := X.w) rel hacc⟩
  have h1 := Heap.lt_size (hk s1.heap.objs.size _ (Heap.get?_push_size _ rfl))
  show (s1.heap.push _).objs.size ≤ _
  rw [Heap.size_push]
  exact h1
section
variable {S : Sx} {ρ : List Sl}
/-- sorted(x.values()), x a dict of one's own -/
theorem so_sortVals {i : Nat} {ds : List (Sum Int Str × D)} (h : ρ[i]? = some (.odc ds)) : SO S (tSortVals S.K (tVar i)) ρ (sortVals ds) := fun σ H W H0 Q e w q => by
  obtain ⟨a, kvs, g1, g2, g3, g4, g5, g6⟩ := e.owD i ds h
  refine ⟨_, g1, ?_⟩
  obtain ⟨ls, el, hne, q2⟩ := ofO_run q
  refine ⟨a, kvs, ls, _, rfl, g2, nums_rep g6.snds el, fun x l hr => ?_, hne, fun ys p hy hp => post_own w q2 hy.reps p hp⟩
  cases hr with
  | tup ht hr =>
    rw [ints_out hr] at ht
    exact ⟨_, rfl, w.sqT ht⟩
end
/-! ### sorted(set(x)), x a list of tuples of numbers -/
def rSortST (K : PySem.W.Frag) (P : Program) (w : World) : List V → Hp → VK → Prop := fun vs H Q => ∃ (a : Addr) (L : List (Addr × List Int)), vs = [V.ref a] ∧ H a = some (SetTO P w a L) ∧ (∀ p ∈ L, SqT K H p.1 (p.2.map V.int)) ∧
  ((L.map (·.2)).Nodup → (L.length < 2 ∨ ∀ p ∈ L, p.2 ≠ []) ∧
  ∀ (ys : List V) p, AlR (fun x l => ∃ t, x = .ref t ∧ (t, l) ∈ L) ys (sortI (L.map (·.2))) → H p = none → Q (.ref p) (upd H p (.lst ys)))
theorem call_sortSetT {X : Cx} {K : PySem.W.Frag} {P : Program} {w : World} (hK : X.K = K) (hP : X.prog = P) (hw : X.w = w) (hc : X.calm = true) : CallR X (.builtin "sorted") (rSortST K P w) := by
  subst hK hP hw
  intro pins s σ H vs us Q I r h
  obtain ⟨a, L, rfl, ha, hk, q⟩ := h
  have R0 : SetT0 X.prog X.w s.heap a L := (I.hok a _ ha).1
  obtain ⟨es, ep, t, R⟩ := R0.full fun p hp => I.isT (hk p hp)
  rw [Vals.ref1 r]
  obtain ⟨q1, q2⟩ := q R.nd
  obtain ⟨o, ho, hex, hd⟩ := R.ob
  have hfew := R.few
  have hsz := R.size
  have hes : es.toList.map (·.2) = L.map fun q => Value.ref q.1 := by
    rw [R.rows]
    unfold rowsOf
    rw [List.map_map] <;> rfl
  refine sort_fin (xs := L.map fun p => V.ref p.1) (ls := L.map (·.2)) (R := fun x l => ∃ t, x = .ref t ∧ (t, l) ∈ L) I ?_ (fun x l ⟨t, e, m⟩ => ⟨t, e, hk _ m⟩) ?_ (by rw [List.length_map, sizeLine_eq]; omega) q2 fun Rr hRr => ?_
  · have key : ∀ L' : List (Addr × List Int), (∀ p ∈ L', p ∈ L) → AlR (fun x l => ∃ t, x = V.ref t ∧ (t, l) ∈ L) (L'.map fun p => V.ref p.1) (L'.map (·.2)) := by
      intro L'
      induction L' with
      | nil => intro _; exact .nil
      | cons p r ih => exact fun hs => .cons ⟨p.1, rfl, hs p List.mem_cons_self⟩ (ih fun z hz => hs z (List.mem_cons_of_mem _ hz))
    exact key L fun _ h => h
  · rcases q1 with h | h
    · exact .inl (by rw [List.length_map]; exact h)
    · exact .inr fun l hl => by
        obtain ⟨p, hp, rfl⟩ := List.mem_map.mp hl
        exact h p hp
  · refine collect_set (A := X.A.in1) (I.ok.hd hc) ⟨o, ho, hex.1, hd⟩ R.fits (by unfold scanBound; omega) R.tab.ris R.led fun s1 vs k1 hz g1 o1 pm => ?_
    rw [hes] at pm
    refine hRr s1 vs k1 hz g1 o1 ⟨vs.map backV, ?_, ?_⟩
    · have e : (L.map fun p => V.ref p.1) = (L.map fun q => Value.ref q.1).map backV := by rw [List.map_map]; rfl
      rw [e]
      exact pm.map backV
    · exact vals_back fun u hu => by
        obtain ⟨p, _, e⟩ := List.mem_map.mp (pm.mem_iff.mp hu)
        exact ⟨_, e.symm⟩
theorem call_setOfT {X : Cx} {K : PySem.W.Frag} {P : Program} {w : World} (hK : X.K = K) (hP : X.prog = P) (hw : X.w = w) (hc : X.calm = true) (hu : X.A.units + 64 < cLine) : CallR X (.type "set") (rSetOfT K P w) := by
  subst hK hP hw
  exact cr_setOfT hc hu
theorem al_pairs {K : PySem.W.Frag} {W : Wd} : ∀ {vs : List V} {ls : List (List Int)}, AlR (fun x l => Rep K W x (.tup (l.map D.int))) vs ls → ∃ ks : List (Addr × List Int), vs = ks.map (fun p => V.ref p.1) ∧ ls = ks.map (·.2) ∧ ∀ p ∈ ks, Rep K W (.ref p.1) (.tup (p.2.map D.int))
  | _, _, .nil => ⟨[], rfl, rfl, fun _ h => nomatch h⟩
  | _, _, .cons (l := l) h r => by
    obtain ⟨ks, e1, e2, h3⟩ := al_pairs r
    subst e1 e2
    cases h with
    | @tup a us _ ht hr =>
      exact ⟨(a, l) :: ks, rfl, rfl, fun p hp => by
        rcases List.mem_cons.mp hp with rfl | hp
        · exact .tup ht hr
        · exact h3 p hp⟩
theorem AlR.imp {R R' : V → List Int → Prop} (f : ∀ x l, R x l → R' x l) : ∀ {xs : List V} {ls : List (List Int)}, AlR R xs ls → AlR R' xs ls
  | _, _, .nil => .nil
  | _, _, .cons h r => .cons (f _ _ h) (AlR.imp f r)
section
variable {S : Sx} {ρ : List Sl} {ta to te : TE} {ra ro re : M D}
theorem rep_sqT {K : PySem.W.Frag} {W : Wd} {H : Hp} (w : WOk W H) {a : Addr} {l : List Int} (h : Rep K W (.ref a) (.tup (l.map D.int))) : SqT K H a (l.map V.int) := by
  cases h with
  | tup ht hr =>
    rw [ints_out hr] at ht
    exact w.sqT ht
theorem so_sortSetT {P : Program} {w : World} (h : SE S ta ρ ra) : SO S (tCB (rSortST S.K P w) (tCons (tCB (rSetOfT S.K P w) (tCons ta tNil)) tNil)) ρ (ra >>= sortSetT) := fun σ H W H0 Q e wk q => by
  refine h.go e wk q (fun _ z => z) fun d v W1 H1 q1 s1 r1 e1 => ?_
  cases r1 with
  | @lst a vs ds hx r =>
    obtain ⟨ls, hn, ⟨q2, q3⟩, q4⟩ := ofO_run q1
    obtain ⟨ks, e1, e2, hks⟩ := al_pairs (nums_rep r hn)
    refine ⟨a, ks, rfl, by rw [← e1]; exact .inl (.inl (s1.ok.sub _ _ hx)), fun p hp => rep_sqT s1.ok (hks p hp), by rw [e2, List.length_map] at q2; exact q2, fun b L hb hL1 hL2 => ?_⟩
    have s2 := Step.raw s1.ok (o := SetTO P w b L) hb
    have hk2 : ∀ p ∈ L, Rep S.K W1 (.ref p.1) (.tup (p.2.map D.int)) := fun p hp => hks p (hL1 p hp)
    refine ⟨b, L, rfl, upd_same, fun p hp => rep_sqT s2.ok (hk2 p hp), fun nd => ?_⟩
    have pm : (L.map (·.2)).Perm (ddT ls) := (List.perm_ext_iff_of_nodup nd (ddT_nd ls)).mpr fun l => by
      rw [ddT_mem, e2]
      refine ⟨fun hl => ?_, fun hl => ?_⟩
      · obtain ⟨p, hp, rfl⟩ := List.mem_map.mp hl
        exact List.mem_map.mpr ⟨p, hL1 p hp, rfl⟩
      · obtain ⟨p, hp, rfl⟩ := List.mem_map.mp hl
        exact hL2 p hp
    have es : sortI (L.map (·.2)) = sortI (ddT ls) := sorted_uniq (sortI_sorted _) (sortI_sorted _) ((sortI_perm _).trans (pm.trans (sortI_perm _).symm))
    refine ⟨?_, fun ys p hy hp => ?_⟩
    · rcases q3 with h | h
      · exact .inl (by rw [← List.length_map (f := (·.2)), pm.length_eq]; exact h)
      · exact .inr fun p hp => h _ (by rw [e2]; exact List.mem_map.mpr ⟨p, hL1 p hp, rfl⟩)
    · rw [es] at hy
      have s3 := Step.raw s2.ok (o := .lst ys) hp
      have np := nopen s2.ok hp
      exact q4 p _ W1 _ ((s1.trans wk s2).trans wk s3) (s1.free0 wk (s2.free0 s1.ok hp)) upd_same np.1 np.2 (AlR.reps (AlR.imp (fun x l ⟨t, ex, m⟩ => by subst ex; exact hk2 _ m) hy))
  | _ => exact (show False from q1).elim
/-! ### sep.join(x) -/
def rJoin (K : PySem.W.Frag) : V → List V → Hp → VK → Prop := fun x xs H Q => ∃ a p, ∃ ys : List Str, x = .str a ∧ xs = [.ref p] ∧ (SqL K H p (ys.map V.str) ∨ SqT K H p (ys.map V.str)) ∧ (ys.map (·.length)).sum + ys.length * a.length ≤ 16777216 ∧ Q (.str (Txt.join a ys)) H
theorem pe_joinK {X : Cx} {K : PySem.W.Frag} {o e : Expr} {apos pos : Pos} (hK : X.K = K) (ho : PE X o to) (he : PE X e te) (hs : starEach [e] X.env = [(false, eval e X.env)] := by rfl) (hbase : attributeBase o "join" X.env (eval o X.env) = eval o X.env := by rfl) (hline : (apos.endLine == pos.line) = true := by rfl) :
    PE X (.Call (.Attribute o "join" apos) [e] [] pos) (tM1 (rJoin K) to te) := by
  subst hK
  exact pe_join ho he hs hbase hline
theorem strs_rep {K : PySem.W.Frag} {W : Wd} : ∀ {vs : List V} {ds : List D} {ys : List Str}, Reps K W vs ds → strsL ds = some ys → vs = ys.map V.str
  | _, _, ys, .nil, e => by
    cases e
    rfl
  | _, _, ys, .cons (d := d) h r, e => by
    cases d with
    | str x =>
      rw [strsL, Option.map_eq_some_iff] at e
      obtain ⟨zs, e1, rfl⟩ := e
      rw [List.map_cons, ← strs_rep r e1, h.inj_str]
    | _ => exact absurd e (by simp [strsL])
theorem se_join (ho : SE S to ρ ro) (he : SE S te ρ re) : SE S (tM1 (rJoin S.K) to te) ρ (joinM ro re) := fun σ H W H0 Q e w q => by
  refine ho.go e w q (fun _ z => z) fun d v W1 H1 q1 s1 r1 e1 => ?_
  cases d with
  | str a =>
    cases r1
    refine ⟨⟨a, rfl⟩, ?_⟩
    refine he.go e1 s1.ok q1 (fun x z => z.after w s1) fun d2 v2 W2 H2 q2 s2 r2 e2 => ?_
    have st := s1.trans w s2
    cases r2 with
    | @lst b vs ds hx r =>
      obtain ⟨ys, hy, hl, q3⟩ := ofO_run q2
      refine ⟨a, b, ys, rfl, rfl, .inl (by rw [← strs_rep r hy]; exact .inl (.inl (s2.ok.sub _ _ hx))), hl, ?_⟩
      rw [TL.join_eq]
      exact q3 _ W2 H2 st (.str _)
    | @tup b vs ds hx r =>
      obtain ⟨ys, hy, hl, q3⟩ := ofO_run q2
      refine ⟨a, b, ys, rfl, rfl, .inr (by rw [← strs_rep r hy]; exact s2.ok.sqT hx), hl, ?_⟩
      rw [TL.join_eq]
      exact q3 _ W2 H2 st (.str _)
    | _ => exact (show False from q2).elim
  | _ => exact (show False from q1).elim
end
/-! ### > of tuples of numbers -/
def rGtT (K : PySem.W.Frag) : R2 := fun x y H Q => ∃ (a b : Addr) (ns ms : List Int), x = .ref a ∧ y = .ref b ∧ SqT K H a (ns.map V.int) ∧ SqT K H b (ms.map V.int) ∧
  Q (.bl (Ob.lexAt (fun j => decide (ns.getD j 0 = ms.getD j 0)) (fun j => decide (ms.getD j 0 < ns.getD j 0)) (decide (ms.length < ns.length)) 0 (min ns.length ms.length))) H
theorem op_gtT {X : Cx} (hu : X.A.units < cLine) : OpR X (compareOp .Gt) (rGtT X.K) := by
  intro pins s σ H x y v u Q I rx ry h
  obtain ⟨a, b, ns, ms, rfl, rfl, ha, hb, q⟩ := h
  cases rx
  cases ry
  obtain ⟨its, r1, p1, _⟩ := I.tuple ha
  obtain ⟨its2, r2, p2, _⟩ := I.tuple hb
  have i1 : IntsAre its ns := Vals.ints r1
  have i2 : IntsAre its2 ms := Vals.ints r2
  have e1 : its.toArray.size = ns.length := by rw [List.size_toArray]; exact i1.length
  have e2 : its2.toArray.size = ms.length := by rw [List.size_toArray]; exact i2.length
  have at1 : ∀ j (h1 : j < its.toArray.size), ∃ t, its.toArray[j] = .int (ns.getD j 0) t := fun j h1 => PyProof.Rows.IntsAre.int_at i1 _ _ (by simp at h1; simp [h1])
  have at2 : ∀ j (h1 : j < its2.toArray.size), ∃ t, its2.toArray[j] = .int (ms.getD j 0) t := fun j h1 => PyProof.Rows.IntsAre.int_at i2 _ _ (by simp at h1; simp [h1])
  have R := Ob.RcOp.tuples_gt (A := X.A) (s := s) (e := fun j => decide (ns.getD j 0 = ms.getD j 0)) (r := fun j => decide (ms.getD j 0 < ns.getD j 0)) p1 p2 hu (fun j h1 h2 => by
    obtain ⟨t, et⟩ := at1 j h1
    obtain ⟨t', et'⟩ := at2 j h2
    rw [et, et']
    have z : (ns.getD j 0 == ms.getD j 0) = decide (ns.getD j 0 = ms.getD j 0) := by
      by_cases q : ns.getD j 0 = ms.getD j 0
      · rw [decide_eq_true q]; exact beq_iff_eq.mpr q
      · rw [decide_eq_false q]; exact beq_eq_false_iff_ne.mpr q
    rw [← z]
    exact SeqAt.EqAt.int_int _ _ _ _) (fun j h1 h2 _ => by
    obtain ⟨t, et⟩ := at1 j h1
    obtain ⟨t', et'⟩ := at2 j h2
    rw [et, et']
    exact Ob.RcOp.gt_int _ _ _ _)
  rw [e1, e2] at R
  have z : wpAny (model X.prog X.w) X.A (compareOp .Gt (.ref a) (.ref b)) (EP X pins σ Q) X.xe s := R X.prog X.w X.xe (EP X pins σ Q) ⟨.bl _, H, I, rfl, q⟩
  exact z
theorem lex_at_drop (ns ms : List Int) : ∀ (k i : Nat), i + k = min ns.length ms.length → Ob.lexAt (fun j => decide (ns.getD j 0 = ms.getD j 0)) (fun j => decide (ms.getD j 0 < ns.getD j 0)) (decide (ms.length < ns.length)) i k = lexI (ms.drop i) (ns.drop i)
  | 0, i, h => by
    rw [Ob.lexAt_zero]
    by_cases c : ms.length < ns.length
    · rw [decide_eq_true c, List.drop_eq_nil_of_le (as := ms) (by omega)]
      have : ns.drop i ≠ [] := fun e => by
        have := congrArg List.length e
        rw [List.length_drop, List.length_nil] at this
        omega
      cases hd : ns.drop i with
      | nil => exact absurd hd this
      | cons x r => rfl
    · rw [decide_eq_false c, List.drop_eq_nil_of_le (as := ns) (by omega)]
      cases ms.drop i <;> rfl
  | k + 1, i, h => by
    have h1 : i < ns.length := by omega
    have h2 : i < ms.length := by omega
    rw [Ob.lexAt_succ, lex_at_drop ns ms k (i + 1) (by omega), List.drop_eq_getElem_cons h1, List.drop_eq_getElem_cons h2, lexI]
    have g1 : ns.getD i 0 = ns[i] := by rw [List.getD_eq_getElem?_getD, List.getElem?_eq_getElem h1]; rfl
    have g2 : ms.getD i 0 = ms[i] := by rw [List.getD_eq_getElem?_getD, List.getElem?_eq_getElem h2]; rfl
    rw [g1, g2]
    by_cases c : ns[i] = ms[i]
    · rw [if_pos (decide_eq_true c), if_pos c.symm]
    · rw [if_neg (by rw [decide_eq_true_iff]; exact c), if_neg fun e => c e.symm]
def rGtA (K : PySem.W.Frag) : R2 := fun x y H Q => rI0 (fun i j => .bl (decide (j < i))) x y H Q ∨ rGtT K x y H Q
theorem op_gtA {X : Cx} {K : PySem.W.Frag} (hK : X.K = K) (hu : X.A.units + 64 < cLine) : OpR X (compareOp .Gt) (rGtA K) := by
  subst hK
  exact op_gt.or (op_gtT (by omega))
theorem ints_repT {K : PySem.W.Frag} {W : Wd} {vs : List V} {ds : List D} {ns : List Int} (r : Reps K W vs ds) (h : intsL ds = some ns) : vs = ns.map V.int := ints_rep r h
theorem os_gtA {K : PySem.W.Frag} : OpS K (rGtA K) D.gtA := fun W H x y dx dy Q E w rx ry h => by
  cases rx with
  | int i =>
    cases ry with
    | int j => exact .inl ⟨i, j, rfl, rfl, post_here w h (.bl _)⟩
    | _ => exact (show False from h).elim
  | @tup a vs xs hx r =>
    cases ry with
    | @tup b us ys hy r2 =>
      obtain ⟨ns, e1, h⟩ := ofO_run h
      obtain ⟨ms, e2, h⟩ := ofO_run h
      refine .inr ⟨a, b, ns, ms, rfl, rfl, by rw [← ints_repT r e1]; exact w.sqT hx, by rw [← ints_repT r2 e2]; exact w.sqT hy, ?_⟩
      rw [lex_at_drop ns ms _ 0 (by omega), List.drop_zero, List.drop_zero]
      exact post_here w h (.bl _)
    | _ => exact (show False from h).elim
  | _ => exact (show False from h).elim
end Ev

namespace Ev
open PySem PySem.Spec PyProof.Rows L2
variable [Tb]
/-! ### x = tuple([xs.pop(..) for ..]), xs a list of one's own -/
theorem EnvR.updOut {K : PySem.W.Frag} {W : Wd} {H H0 : Hp} {σ : L2.St} {ρ : List Sl} {D : Addr} {o : HO} (e : EnvR K W H H0 σ ρ) (hs : Soft H D) (h : ∀ (j : Nat) (c : OwnC), ρ[j]? = some (.ob c) → σ[j]? ≠ some (some (.ref D))) : EnvR K W (upd H D o) H0 σ ρ where
  dat := e.dat
  ow := fun j c hj => by
    obtain ⟨b, zs, f1, f2, f3⟩ := e.ow j c hj
    exact ⟨b, zs, f1, by rw [upd_ne (fun z => by subst z; exact h j c hj f1)]; exact f2, f3.1, f3.2.1, f3.2.2.1, f3.2.2.2.upd hs⟩
  ap := e.ap
  ln := e.ln
theorem seq_ixP {n k : Nat} {z : Int} (h : ixP n z = some k) : seqIndex? z n = some k := by
  unfold ixP at h
  unfold seqIndex?
  split at h
  · rename_i h0
    split at h
    · rename_i h1
      have e : (if z < 0 then z + (n : Int) else z) = z := if_neg (by omega)
      simp only [e]
      rw [if_pos (by simp only [Bool.and_eq_true, decide_eq_true_eq]; omega)]
      exact h
    · cases h
  · rename_i h0
    split at h
    · rename_i h1
      have e : (if z < 0 then z + (n : Int) else z) = z + n := if_pos (by omega)
      simp only [e]
      rw [if_pos (by simp only [Bool.and_eq_true, decide_eq_true_eq]; omega)]
      exact h
    · cases h
theorem wipeS_set {ρ : List Sl} {l : Nat} {c : Sl} : ∀ {vs : List Nat}, l ∉ vs → wipeS (ρ.set l c) vs = (wipeS ρ vs).set l c
  | [], _ => rfl
  | v :: vs, h => by
    have h1 : l ≠ v := fun e => h (by rw [e]; exact List.mem_cons_self)
    have h2 : l ∉ vs := fun e => h (List.mem_cons_of_mem _ e)
    show (wipeS (ρ.set l c) vs).set v .no = ((wipeS ρ vs).set v .no).set l c
    rw [wipeS_set h2, List.set_comm _ _ h1]
section
variable {S : Sx} {own : Bool} {ρ : List Sl} {T L : Type} {enc : T → List Sl} {encL : L → List Sl} {tb : TS}
theorem pops_core {l tj : Nat} {wi : TI} {td : TE} {vs : List Nat} {ds0 : List Ev.D} {rit : M (List Ev.D)} {rd : Ev.D → List Ev.D → M Ev.D} {Wf W0 W : Wd} {H0 H : Hp} {σ : L2.St} {Q : VK} {R : List Ev.D → Prop} (w : WOk W0 H0) (n : Now S Wf W0 H0 W H σ ρ) (hl : ρ[l]? = some (.own ds0)) (hi : SI S wi ρ rit) (hj : tj ∈ vs) (hlv : l ∉ vs)
    (hd : ∀ t ds, SE S.calm td (((wipeS ρ vs).set l (.own ds)).set tj (.val t)) (rd t ds)) (q : (rit >>= fun xs => nox (popsL rd xs ds0 [])).run R (XPost S W0 H0)) (fin : ∀ acc W' H' v, R acc → Now S Wf W0 H0 W' H' σ (ρ.set l .no) → Rep S.K W' v (.tup acc) → Q v H') :
    tCB (rTupB S.K) (tCons (tLc wi (gName tj) tYes (tBM S.K "list" rPopAt (tVar l) (tCons td tNil)) vs) tNil) σ H Q := by
  obtain ⟨a, us0, a1, _⟩ := n.env.owL l ds0 hl
  refine hi σ H W H0 _ n.env n.ok (rit.mono (fun xs hx J W1 H1 s1 wk => ?_) (xpost w n.st) q)
  intro D hD
  have hx : (popsL rd xs ds0 []).run R (fun _ => False) := hx
  have nx : ∀ {W' H'} (x : Exn), False → XPost S.calm W' H' x := fun _ z => z.elim
  have hrl : l < ρ.length := (List.getElem?_eq_some_iff.mp hl).1
  have n1 : Now S Wf W0 H0 W1 H1 σ ρ := n.step w s1
  have hD0 : H0 D = none := n1.st.free0 w hD
  have out : ∀ (j : Nat) (c : OwnC), ρ[j]? = some (.ob c) → σ[j]? ≠ some (some (.ref D)) := fun j c hc hs => by
    obtain ⟨b, zs, f1, f2, _⟩ := n1.env.ow j c hc
    rw [f1] at hs
    cases hs
    rw [hD] at f2
    cases f2
  have outl : ∀ (ds : List Ev.D) (j : Nat) (c : OwnC), (ρ.set l (.own ds))[j]? = some (.ob c) → σ[j]? ≠ some (some (.ref D)) := fun ds j c hc => by
    by_cases e : l = j
    · subst e
      exact out _ _ hl
    · rw [List.getElem?_set_ne e] at hc
      exact out j c hc
  have aD : D ≠ a := fun e => out l _ hl (by rw [e]; exact a1)
  let I : Nat → Hp → Prop := fun i H' => i ≤ xs.length ∧ ∃ W' ws acc ds, Now S Wf W0 H0 W' H' σ (ρ.set l (.own ds)) ∧ Le W1 W' ∧ H' D = some (.lst ws) ∧ W'.P D = none ∧ W'.N D = none ∧ Reps S.K W' ws acc ∧
    (popsL rd (xs.drop i) ds acc).run R (fun _ => False)
  refine ⟨fun i m H' => m = xs.length - i ∧ I i H', ⟨xs.length, by simp, Nat.zero_le _, W1, [], [], ds0, ?_, Le.refl W1, upd_same, (nopen s1.ok hD).1, (nopen s1.ok hD).2, .nil, hx⟩, ?_⟩
  · have e0 : ρ.set l (.own ds0) = ρ := by
      apply List.ext_getElem?
      intro i
      by_cases e : l = i
      · subst e
        rw [List.getElem?_set_self hrl, hl]
      · rw [List.getElem?_set_ne e]
    rw [e0]
    exact n1.step w (Step.raw s1.ok (o := .lst []) hD)
  rintro i m H' ⟨rfl, hle, W', ws, acc, ds, now, le1, hD', hP, hN, rs, hr⟩
  by_cases hlt : i < xs.length
  · refine .inr ⟨wk.go i W' H' le1 now.ok hlt, fun H'' => I (i + 1) H'', fun H'' hn => ⟨xs.length - (i + 1), by have := hn.1; omega, rfl, hn⟩, fun v H2 hy => ?_⟩
    obtain ⟨W2, s3, r3⟩ := wk.yld i xs[i] W' H' v H2 le1 now.ok (List.getElem?_eq_getElem hlt) hy
    rw [List.drop_eq_getElem_cons hlt] at hr
    have keep : ∀ {Wa Wb Ha Hb ws}, Step Wa Ha Wb Hb → Ha D = some (.lst ws) → Wa.P D = none → Wa.N D = none → Hb D = some (.lst ws) ∧ Wb.P D = none ∧ Wb.N D = none := fun {Wa Wb Ha Hb ws} s h1 h2 h3 => by
      have nn : Ha D ≠ none := by rw [h1]; intro z; cases z
      exact ⟨s.old D _ h1 h3, (s.newP D nn).trans h2, (s.newN D nn).trans h3⟩
    obtain ⟨k1, k2, k3⟩ := keep s3 hD' hP hN
    have n2 : Now S Wf W0 H0 W2 H2 σ (ρ.set l (.own ds)) := now.step w s3
    have e2 := n2.env.wipe vs
    rw [wipeS_set hlv] at e2
    have e3 := e2.setVal tj r3
    refine ⟨(wipe_same (js := [tj]) (List.length_set ..) (fun j hj2 => List.getElem?_set_ne fun z => hj2 (by rw [z]; exact List.mem_singleton.mpr rfl)) fun j hj2 => by rw [List.mem_singleton.mp hj2]; exact hj).trans (wipe_wipe σ vs), ?_⟩
    refine iteT (B := I (i + 1) H2) ?_
    have hlo : (((wipeS ρ vs).set l (.own ds)).set tj (.val xs[i]))[l]? = some (.own ds) := by
      rw [List.getElem?_set_ne fun z => hlv (by rw [← z]; exact hj), List.getElem?_set_self]
      have : ∀ vs : List Nat, (wipeS ρ vs).length = ρ.length := fun vs => by
        induction vs with
        | nil => rfl
        | cons v vs ih => show ((wipeS ρ vs).set v .no).length = _; rw [List.length_set, ih]
      rw [this]
      exact hrl
    obtain ⟨b, us2, b1, b2, _⟩ := e3.owL l ds hlo
    refine ⟨_, b1, .inl ⟨rfl, _, .inl (.inl b2)⟩, ?_⟩
    refine (hd xs[i] ds).go e3 s3.ok hr nx fun d u W4 H4 h3 s6 r6 e5 => ?_
    obtain ⟨b', us4, c1, c2, c3, c4, c5, c6⟩ := e5.owL l ds hlo
    rw [b1] at c1
    cases c1
    obtain ⟨z, ki, y, rfl, z1, z2, ek, ey, h4⟩ := popAt_run h3
    have ru : u = V.int z := r6.inj_int
    subst ru
    obtain ⟨yv, g1, g2⟩ := c6.get ey
    have n4 : Now S Wf W0 H0 W4 H4 σ (ρ.set l (.own ds)) := n2.step w s6
    have hls : (ρ.set l (.own ds))[l]? = some (.own ds) := List.getElem?_set_self hrl
    obtain ⟨a', _, a2, a3, _⟩ := n4.env.owL l ds hls
    rw [a1] at a2
    cases a2
    have eb : b = a := by
      obtain ⟨_, _, p1, p2, _⟩ := e2.owL l ds (by
        rw [List.getElem?_set_self]
        have : ∀ vs : List Nat, (wipeS ρ vs).length = ρ.length := fun vs => by
          induction vs with
          | nil => rfl
          | cons v vs ih => show ((wipeS ρ vs).set v .no).length = _; rw [List.length_set, ih]
        rw [this]
        exact hrl)
      have p3 : (L2.wipe σ vs)[l]? = σ[l]? := wipe_out hlv
      rw [List.getElem?_set_ne fun z => hlv (by rw [← z]; exact hj), p3, a1] at b1
      cases b1
      rfl
    subst eb
    refine ⟨b, us4, z, ki, yv, rfl, rfl, c2, z1, z2, by rw [c6.length]; exact seq_ixP ek, g1, ?_⟩
    obtain ⟨k4, k5, k6⟩ := keep s6 k1 k2 k3
    have n5 := n4.putOb (c' := .lst (ds.eraseIdx ki)) (o' := .lst (us4.eraseIdx ki)) hls a1 c3 c4 c5 (soft_lst c2) (fun _ z => nomatch z) (.lst ?_)
    · rw [List.set_set] at n5
      obtain ⟨hlen, h5⟩ := h4
      have rs4 : Reps S.K W4 ws acc := rs.mono (s3.le.trans s6.le)
      have kD : (upd H4 b (.lst (us4.eraseIdx ki))) D = some (.lst ws) := by rw [upd_ne aD]; exact k4
      refine ⟨ws, kD, by rw [rs4.length]; exact hlen, hlt, W4, ws ++ [yv], acc ++ [y], ds.eraseIdx ki, ?_, le1.trans (s3.le.trans s6.le), upd_same, k5, k6, rs4.append (.cons g2 .nil), h5⟩
      have w6 := n5.ok.put (us := ws ++ [yv]) k5 k6 kD
      exact ⟨n5.env.updOut (soft_lst kD) (outl _), w6, ⟨n5.st.le, w6, fun b' o ho hnn => by rw [upd_ne (ne_of_none ho hD0)]; exact n5.st.old b' o ho hnn, n5.st.newP, n5.st.newN⟩, n5.fl⟩
    · have key : ∀ {vs : List V} {ds : List Ev.D} (k : Nat), Reps S.K W4 vs ds → Reps S.K W4 (vs.eraseIdx k) (ds.eraseIdx k) := by
        intro vs ds k r
        induction ds generalizing vs k with
        | nil => cases r; exact .nil
        | cons d ds ih =>
          cases r with
          | cons h r =>
            cases k with
            | zero => exact r
            | succ k => exact .cons h (ih k r)
      exact key ki c6
  · have ei : i = xs.length := by omega
    subst ei
    rw [List.drop_length] at hr
    refine .inl ⟨wk.stop W' H' le1 now.ok, D, ws, rfl, .inl ⟨.inl (.inl hD'), fun p o hp ho => ?_⟩⟩
    have s7 := Step.dat now.ok (o := .frz o (.tup ws)) hp
    have n7 := now.step w s7
    refine fin acc _ _ _ hr ⟨?_, s7.ok, n7.st, n7.fl⟩ (.tup (.inl ⟨o, upd_same, ho⟩) (rs.mono s7.le))
    have e7 := n7.env.drop l
    rw [List.set_set] at e7
    exact e7
theorem ss_pops {x l tj : Nat} {wi : TI} {td : TE} {vs : List Nat} {ds0 : List Ev.D} {rit : M (List Ev.D)} {rd : Ev.D → List Ev.D → M Ev.D} {k : Ev.D → M (Fl T L)} (hl : ρ[l]? = some (.own ds0)) (hi : SI S wi ρ rit) (hj : tj ∈ vs) (hlv : l ∉ vs)
    (hd : ∀ t ds, SE S.calm td (((wipeS ρ vs).set l (.own ds)).set tj (.val t)) (rd t ds)) (hb : ∀ d, SS S own tb ((ρ.set l .no).set x (.val d)) enc encL (k d)) :
    SS S own (tSeq (tAsg (tCB (rTupB S.K) (tCons (tLc wi (gName tj) tYes (tBM S.K "list" rPopAt (tVar l) (tCons td tNil)) vs) tNil)) (gName x)) tb) ρ enc encL (popsM ds0 rit rd k) := fun Wf W0 H0 W H σ D0 w n q =>
  pops_core (R := fun acc => (k (.tup acc)).run (FlPost S own Wf W0 H0 enc encL D0) (XPost S W0 H0)) w n hl hi hj hlv hd q fun acc W' H' v hr n' rv =>
    hb (.tup acc) Wf W0 H0 _ _ _ D0 w ⟨n'.env.setVal x rv, n'.ok, n'.st, n'.fl⟩ hr
/-- .. handed back at once -/
theorem ss_popsr {l tj : Nat} {wi : TI} {td : TE} {vs : List Nat} {ds0 : List Ev.D} {rit : M (List Ev.D)} {rd : Ev.D → List Ev.D → M Ev.D} (hl : ρ[l]? = some (.own ds0)) (hi : SI S wi ρ rit) (hj : tj ∈ vs) (hlv : l ∉ vs)
    (hd : ∀ t ds, SE S.calm td (((wipeS ρ vs).set l (.own ds)).set tj (.val t)) (rd t ds)) :
    SS S false (tRet (tCB (rTupB S.K) (tCons (tLc wi (gName tj) tYes (tBM S.K "list" rPopAt (tVar l) (tCons td tNil)) vs) tNil))) ρ enc encL (popsM ds0 rit rd fun d => pure (.rt d)) := fun Wf W0 H0 W H σ D0 w n q =>
  pops_core (R := fun acc => (pure (.rt (.tup acc)) : M (Fl T L)).run (FlPost S false Wf W0 H0 enc encL D0) (XPost S W0 H0)) w n hl hi hj hlv hd q fun acc W' H' v hr n' rv => hr W' H' v n'.st rv
end
/-! ### tuple(range(..)) -/
def tTupRgB (te : L2.St → Hp → (Int → Int → Hp → Prop) → Prop) : TE := fun σ H Q => te σ H fun a b H1 => RgOk a b ∧ NewT H1 (rgV a b) Q
theorem pe_tupRgB {X : Cx} {e : Expr} {te : L2.St → Hp → (Int → Int → Hp → Prop) → Prop} {p pos : Pos} (hc : X.calm = true) (hg : Gl X "tuple") (hm : X.mg "tuple" = none) (he : PRg X e te) (na : starEach [e] X.env = (false, eval e X.env) :: starEach [] X.env := by rfl) : PE X (.Call (.Name "tuple" p) [e] [] pos) (tTupRgB te) := by
  refine ⟨fun pins s σ H Q I h => ?_⟩
  refine PyProof.Rows.Call_ (ld_blt I hg hm PyProof.Rows.boot_tuple (PyProof.Rows.callWith_type1 (PyProof.Rows.args_cons (thn (he pins s σ H _ I h) fun x s1 ⟨r, a, b, t, u, v, H1, ex, hr, I1, ok, q⟩ => PyProof.Rows.args_nil ?_) na) na))
  subst ex
  obtain ⟨b1, b2, b3, b4, b5⟩ := ok
  refine call_tuple_range (n := (b - a).toNat) (I1.ok.hd hc) hr (small_one b1 b2 b3 b4) (rangeSize_nat a b) b5 fun h' tk acc hk hi => ?_
  have I2 : L2.Inv X pins σ H1 { s1 with heap := h', toks := tk } := I1.kept hk
  have := ep_tupP (t' := tk) (n := 0) I2 (vals_rg hi) (by rw [rgV_length, sizeLine_eq]; omega) q
  rw [Array.toArray_toList] at this
  exact this
section
variable {S : Sx} {ρ : List Sl} {ra rb : M D} {ta tb : TE}
theorem se_trngB1 (h : SE S ta ρ ra) : SE S (tTupRgB (tRg1 ta)) ρ (trng1 ra) := fun σ H W H0 Q e w q => by
  refine h.go e w q (fun _ z => z) fun d v W1 H1 q1 s1 r1 e1 => ?_
  cases r1 with
  | int n => exact ⟨n, rfl, q1.1, post_tup s1.ok (q1.2.after w s1) (reps_rg 0 n)⟩
  | _ => exact (show False from q1).elim
theorem se_trngB2 (h : SE S ta ρ ra) (h2 : SE S tb ρ rb) : SE S (tTupRgB (tRg2 ta tb)) ρ (trng2 ra rb) := fun σ H W H0 Q e w q => by
  refine h.go e w q (fun _ z => z) fun d v W1 H1 q1 s1 r1 e1 => ?_
  refine h2.go e1 s1.ok q1 (fun _ z => z.after w s1) fun d2 v2 W2 H2 q2 s2 r2 e2 => ?_
  have s3 := s1.trans w s2
  cases r1 with
  | int m => cases r2 with
    | int n => exact ⟨m, n, rfl, rfl, q2.1, post_tup s2.ok (q2.2.after w s3) (reps_rg m n)⟩
    | _ => exact (show False from q2).elim
  | _ => exact (show False from q2).elim
end
/-! ### sorted, of a list of numbers -/
theorem call_sortIK {X : Cx} {K : PySem.W.Frag} (hK : X.K = K) : CallR X (.builtin "sorted") (rSortedI K) := by
  subst hK
  exact cr_sortedI
theorem co_sortZL {K : PySem.W.Frag} : CaO K (rSortedI K) (fo1 D.sortZL) := by
  intro W H vs ds Q E w rs h
  obtain ⟨d, rfl, h⟩ := fo1_run h
  cases d with
  | lst xs =>
    obtain ⟨v, rfl, r⟩ := rs.of1
    cases r with
    | @lst a us ds hx r =>
      obtain ⟨ns, e, q⟩ := ofO_run h
      have ev := ints_rep r e
      refine ⟨a, ns, rfl, by rw [← ev]; exact .inl (.inl (w.sub _ _ hx)), fun ns' p h1 h2 hp => ?_⟩
      rw [sortZ_eq h1 h2]
      exact post_own w q (ints_reps _) p hp
  | _ => exact (show False from h).elim
section
open PySem.W
/-! ### max and min of a tuple of numbers -/
theorem intsL_at : ∀ {ds : List D} {ns : List Int}, intsL ds = some ns → ds = ns.map D.int
  | [], ns, h => by cases h; rfl
  | d :: r, ns, h => by
    cases d with
    | int i =>
      rw [intsL] at h
      cases e : intsL r with
      | none => rw [e] at h; cases h
      | some m =>
        rw [e] at h
        cases h
        rw [List.map_cons, intsL_at e]
    | _ => cases h
theorem alike_nums (ns : List Int) : AlikeAll (ns.map PyData.int) := ⟨fun x hx y hy => by
  obtain ⟨i, _, rfl⟩ := List.mem_map.mp hx
  obtain ⟨j, _, rfl⟩ := List.mem_map.mp hy
  rfl, fun x hx => by
  obtain ⟨i, _, rfl⟩ := List.mem_map.mp hx
  simp⟩
theorem depth_nums (ns : List Int) : PyData.depthAll (ns.map PyData.int) ≤ 2 := by
  induction ns with
  | nil => simp [PyData.depthAll]
  | cons u r ih => rw [List.map_cons, PyData.depthAll, PyData.depth]; omega
def rMxT (K : PySem.W.Frag) (f : Int → List Int → Int) : List V → Hp → VK → Prop := fun vs H Q => ∃ a us W n ns, vs = [.ref a] ∧ SqT K H a us ∧ WOk W H ∧ Reps K W us ((n :: ns).map D.int) ∧ Q (.int (f n ns)) H
theorem pys_ints (ns : List Int) : D.pys (ns.map D.int) = ns.map PyData.int := by
  rw [D.pys_map, List.map_map]
  rfl
theorem plains_ints (k : Bool) (ns : List Int) : D.plains k (ns.map D.int) = true := by
  rw [D.plains_all, List.all_eq_true]
  intro x hx
  obtain ⟨i, _, rfl⟩ := List.mem_map.mp hx
  rfl
theorem call_maxT1 {X : Cx} {K : PySem.W.Frag} (hK : X.K = K) (hc : X.calm = true) (hu : X.A.units + 64 < cLine) : CallR X (.builtin "max") (rMxT K fun n ns => ns.foldl max n) := by
  subst hK
  intro pins s σ H vs us Q I r h
  obtain ⟨a, ws, W, n, ns, rfl, hs, w, rp, q⟩ := h
  obtain ⟨its, rv, hl, hz⟩ := I.tuple hs
  obtain ⟨u, rfl, ru⟩ := vals1 r
  obtain rfl : u = Value.ref a := ru
  obtain ⟨as, rs, _⟩ := Reps.reads I w rp rv (plains_ints _ _)
  rw [pys_ints, List.map_cons] at rs
  have hd := depth_nums (n :: ns)
  rw [List.map_cons] at hd
  refine max_tuple_data (I.ok.hd hc) (show s.heap.IsTuple a its.toArray from hl) (by simpa using rs) (by rw [← List.map_cons]; exact alike_nums _) (by omega) fun i v h' tk bs hi hr hk => ?_
  have hi' : its[i]? = some v := by simpa using hi
  have hlt := (List.getElem?_eq_some_iff.mp hi').1
  have hw : ws[i]? = some (ws[i]'(by rw [rv.length]; exact hlt)) := List.getElem?_eq_getElem _
  obtain ⟨u', e1, r1⟩ := rv.get hw
  rw [hi'] at e1
  cases e1
  obtain ⟨d, e2, rd⟩ := rp.get' hw
  obtain ⟨m, _, rfl⟩ := List.mem_map.mp (List.mem_of_getElem? e2)
  obtain ⟨cs, g1, g2, _⟩ := readsAll_at rs i v hi'
  have e3 : (PyData.int n :: ns.map PyData.int).getD i .none = .int m := by
    rw [List.getElem?_map] at e2
    rw [← List.map_cons, List.getD_eq_getElem?_getD, List.getElem?_map]
    cases z : (n :: ns)[i]? with
    | none => rw [z] at e2; cases e2
    | some k => rw [z] at e2; cases e2; rfl
  rw [e3] at g1
  have e4 := (Reads.unique (reads_keeps hk g1) _ _ hr).1
  rw [maxD_ints] at e4
  injection e4 with e4
  subst e4
  have hv : ∀ x : V, Rep X.K W x (.int (ns.foldl max n)) → x = .int (ns.foldl max n) := fun x h => by
    cases h
    rfl
  have hv := hv _ rd
  rw [hv] at r1
  exact ⟨_, H, I.kept hk, r1, q⟩
theorem call_minT1 {X : Cx} {K : PySem.W.Frag} (hK : X.K = K) (hc : X.calm = true) (hu : X.A.units + 64 < cLine) : CallR X (.builtin "min") (rMxT K fun n ns => ns.foldl min n) := by
  subst hK
  intro pins s σ H vs us Q I r h
  obtain ⟨a, ws, W, n, ns, rfl, hs, w, rp, q⟩ := h
  obtain ⟨its, rv, hl, hz⟩ := I.tuple hs
  obtain ⟨u, rfl, ru⟩ := vals1 r
  obtain rfl : u = Value.ref a := ru
  obtain ⟨as, rs, _⟩ := Reps.reads I w rp rv (plains_ints _ _)
  rw [pys_ints, List.map_cons] at rs
  have hd := depth_nums (n :: ns)
  rw [List.map_cons] at hd
  refine min_tuple_data (I.ok.hd hc) (show s.heap.IsTuple a its.toArray from hl) (by simpa using rs) (by rw [← List.map_cons]; exact alike_nums _) (by omega) fun i v h' tk bs hi hr hk => ?_
  have hi' : its[i]? = some v := by simpa using hi
  have hlt := (List.getElem?_eq_some_iff.mp hi').1
  have hw : ws[i]? = some (ws[i]'(by rw [rv.length]; exact hlt)) := List.getElem?_eq_getElem _
  obtain ⟨u', e1, r1⟩ := rv.get hw
  rw [hi'] at e1
  cases e1
  obtain ⟨d, e2, rd⟩ := rp.get' hw
  obtain ⟨m, _, rfl⟩ := List.mem_map.mp (List.mem_of_getElem? e2)
  obtain ⟨cs, g1, g2, _⟩ := readsAll_at rs i v hi'
  have e3 : (PyData.int n :: ns.map PyData.int).getD i .none = .int m := by
    rw [List.getElem?_map] at e2
    rw [← List.map_cons, List.getD_eq_getElem?_getD, List.getElem?_map]
    cases z : (n :: ns)[i]? with
    | none => rw [z] at e2; cases e2
    | some k => rw [z] at e2; cases e2; rfl
  rw [e3] at g1
  have e4 := (Reads.unique (reads_keeps hk g1) _ _ hr).1
  rw [minD_ints] at e4
  injection e4 with e4
  subst e4
  have hv : ∀ x : V, Rep X.K W x (.int (ns.foldl min n)) → x = .int (ns.foldl min n) := fun x h => by
    cases h
    rfl
  have hv := hv _ rd
  rw [hv] at r1
  exact ⟨_, H, I.kept hk, r1, q⟩
theorem rMxT_run {K : PySem.W.Frag} {f : Int → List Int → Int} {W : Wd} {H : Hp} {v : V} {d : D} {Q : VK} {E : Exn → Prop} {g : List Int → Option Int} (hg : ∀ n ns, g (n :: ns) = some (f n ns)) (hn : g [] = none) (w : WOk W H) (r : Rep K W v d)
    (h : (D.mxT g d).run (Post K Q W H) E) : rMxT K f [v] H Q := by
  cases r with
  | @tup a vs ds hx r =>
    obtain ⟨ns, e, h⟩ := ofO_run h
    obtain ⟨m, e2, q⟩ := ofO_run h
    have ed := intsL_at e
    cases ns with
    | nil => rw [hn] at e2; cases e2
    | cons x t =>
      rw [hg] at e2
      cases e2
      refine ⟨a, vs, W, x, t, rfl, w.sqT hx, w, ?_, post_here w q (.int _)⟩
      rw [← ed]
      exact r
  | _ => exact (show False from h).elim
theorem cs_maxT1 {K : PySem.W.Frag} : CaS K (rMxT K fun n ns => ns.foldl max n) (f1 D.maxT1) := by
  intro W H vs ds Q E w rs h
  obtain ⟨d, rfl, h2⟩ := f1_run h
  obtain ⟨v, rfl, r⟩ := rs.of1
  exact rMxT_run (g := maxI) (fun _ _ => rfl) rfl w r h2
theorem cs_minT1 {K : PySem.W.Frag} : CaS K (rMxT K fun n ns => ns.foldl min n) (f1 D.minT1) := by
  intro W H vs ds Q E w rs h
  obtain ⟨d, rfl, h2⟩ := f1_run h
  obtain ⟨v, rfl, r⟩ := rs.of1
  exact rMxT_run (g := minI) (fun _ _ => rfl) rfl w r h2
end
end Ev

namespace Ev
open PySem PySem.Spec PyProof.Rows L2
variable [Tb]
/-! ### raise TooGreat(many, most) -/
section
variable {X : Cx} {e : Expr} {es : List Expr} {ta : TA} {p1 p2 pos : Pos}
/-- B.__init__(self, ..), B an own class that has ValueError's -/
theorem pe_binit {pl : Sem Bool} {b : Str} {B : Addr} {mc : Value} (hg : Gl X b) (hm : X.mg b = some (.ref B)) (rd : ClX.CRead X.K B mc) (fi : PySem.W.findCls X.K (.ref B) mc "__init__" = some (.val (.builtin "ValueError.__init__"))) (ha : PA X (e :: es) ta) (hdb : (b == ("__debug__" : Str)) = false := by decide)
    (hc : eval (.Call (.Attribute (.Name b p1) "__init__" p2) (e :: es) [] pos) X.env = (do
      let cls ← eval (.Name b p1) X.env
      standAt p2.atName
      let (g, ahead) ← holding [cls] (getMethod cls "__init__" pl)
      callWith pos g ahead (backTo pos (starEach (e :: es) X.env)) (backToKw pos (keywordEach [] X.env))) := by rfl)
    (he : starEach (e :: es) X.env = (false, eval e X.env) :: starEach es X.env := by rfl) (hpl : (backTo pos (starEach es X.env)).any (·.1) = false := by rfl) :
    PE X (.Call (.Attribute (.Name b p1) "__init__" p2) (e :: es) [] pos) (tVeI X.K ta) := by
  constructor
  intro pins s σ H Q I h
  refine PySem.W.methodCall_KW (ld_glob I hg hm ?_ hdb) hc
  refine PySem.W.method_cls I.kIn rd.ga (PySem.W.cls_value I.kIn rd.rd fi (by rfl) ?_)
  show wpAny _ _ (callWith pos (Value.builtin "ValueError.__init__") [] (backTo pos (starEach (e :: es) X.env)) []) _ _ _
  refine PyProof.Rows.callWith_method1 (thn (ha.run pos pins _ σ H _ (I.tok _) h) ?_) he hpl
  rintro us s1 ⟨vs, H1, I1, r1, a, C, ws, rfl, hl, oc, ea, q⟩
  match us, r1 with
  | u0 :: ur, .cons ra rw' =>
    cases ra
    exact oinit_ok oc I1 ea (by rw [← Paired.length rw', sizeLine_eq]; omega) fun s' J => ⟨.non, H1, J, rfl, q⟩
end
def spToo (K : PySem.W.Frag) (C : Addr) : Sp := fun vs H Q _ => ∃ (a : Addr) (y1 y2 : V), vs = [.ref a, y1, y2] ∧ H a = some (exo a C none) ∧ ∀ dx, H dx = none → dx ≠ a → Q .non (upd (upd (upd H dx (exd dx [("many", y1)])) a (exo a C (some dx))) dx (exd dx [("most", y2), ("many", y1)]))
/-- what is known of the class TooGreat, at C -/
structure TgC (K : PySem.W.Frag) (C : Addr) : Prop where
  oc : OexC K C
  xf : XfC K C
  m1 : PySem.W.findIn K (.ref C) "many" = some none
  m2 : PySem.W.findIn K (.ref C) "most" = some none
  hd : PySem.W.hasDictIn K C = true
  su : PySem.W.subIn K (.ref C) (.ref C) = some true
def clsB : Stmt → List Stmt
  | .ClassDef (body := b) .. => b
  | _ => []
def isOex (C : Addr) (o : Obj) : Bool := match o with
  | ⟨.type "type", _, .cls cd, sl⟩ => (match cd.mro, sl.toList with
    | .ref C' :: bm, [_, _, _, _, some (.builtin n), _] => decide (C' = C) && (decide (n = "ValueError.__new__") && (!cd.hasDel && (cd.hasDict && HandSPX.refsVE bm)))
    | _, _ => false)
  | _ => false
theorem oex_cls {K : PySem.W.Frag} {C : Addr} {o : Obj} (h : isOex C o = true) (lk : K.lookup C = some o) :
    ∃ nm q N bs bm sn sub ab col dd k0 k1 k2 k3 k5, K.lookup C = some (excClassObj nm q C N bs bm true sn sub ab col dd k0 k1 k2 k3 k5 "ValueError.__new__") ∧ HandSPX.refsVE bm = true := by
  unfold isOex at h
  split at h
  · rename_i dd cd sl
    split at h
    · rename_i C' bm k0 k1 k2 k3 n k5 hm hs
      simp only [Bool.and_eq_true, decide_eq_true_iff, Bool.not_eq_true'] at h
      obtain ⟨rfl, rfl, e1, e2, e3⟩ := h
      obtain ⟨nm, bs, mro, ns, qn, hd, sn, sub, ab, col, del⟩ := cd
      subst hm e1 e2
      have hsl : sl = #[k0, k1, k2, k3, some (.builtin "ValueError.__new__"), k5] := by
        obtain ⟨l⟩ := sl
        simp only at hs
        rw [hs]
      subst hsl
      exact ⟨_, _, _, _, _, _, _, _, _, _, _, _, _, _, _, lk, e3⟩
    · cases h
  · cases h
/-- TooGreat may be raised -/
def Tg (P : Program) (w : World) (K : PySem.W.Frag) (mg : Str → Option Value) (base : Heap) : Prop :=
  ∃ (C fI : Addr) (fd : FuncData), mg "TooGreat" = some (.ref C) ∧ TgC K C ∧ PySem.W.findIn K (.ref C) "__init__" = some (some (.ref fI)) ∧ PySem.W.typeIn K (.ref fI) = some (.type "function") ∧ FnOk P w K mg base C8.CX0 1 fI fd ["self", "many", "most"] (spToo K C) ∧ Binds K fd ["self", "many", "most"] []
section
variable {P : Program} {w : World} {K : PySem.W.Frag} {mg : Str → Option Value} {base : Heap}
def tToo (K : PySem.W.Frag) : TS := tSeq (tDrop (tVeI K (tCons (tVar 0) (tCons (tC (.str "more than told of")) tNil)))) (tSeq (tOst K "many" (tVar 0) (tVar 1)) (tOst K "most" (tVar 0) (tVar 2)))
theorem tg_of {C fI : Addr} {st : Stmt} {fd : FuncData} (hC : mg "TooGreat" = some (.ref C)) (tc : TgC K C) (fi : PySem.W.findIn K (.ref C) "__init__" = some (some (.ref fI))) (ti : PySem.W.typeIn K (.ref fI) = some (.type "function"))
    (Fn : L2.Fun K "__init__" "TooGreat.__init__" st fI fd) (bd : Binds K fd ["self", "many", "most"] []) (sc : FnScope ["self", "many", "most"] ["self", "many", "most"] (defScope st))
    (hb : ∀ (cdv : Value) (A : Around) (outer : List Env) (s : Shared) (H : Hp) (E : XK), PSs (cxOf C8.CX0 P w K mg base ["self", "many", "most"] "TooGreat.__init__" (defScope st) fI cdv A outer s H E).nox (defBody st) (tToo K)) : Tg P w K mg base := by
  refine ⟨C, fI, fd, hC, tc, fi, ti, Fn.ok (k := 0) sc ?_ ?_, bd⟩
  · rintro vs H Q E ⟨a, y1, y2, rfl, _⟩
    rfl
  · rintro cdv A outer s H vs Q E hr ⟨a, y1, y2, rfl, ha, q⟩
    refine ⟨_, hb cdv A outer s H E, ?_⟩
    refine ⟨_, rfl, a, C, _, rfl, Nat.le_of_ble_eq_true rfl, tc.oc, ha, ?_⟩
    refine ⟨_, rfl, _, rfl, a, C, rfl, tc.oc, tc.m1, .inl ⟨ha, fun dx h1 ne => ?_⟩⟩
    refine ⟨_, rfl, _, rfl, a, C, rfl, tc.oc, tc.m2, .inr ⟨dx, _, upd_same, ?_, Nat.le_of_ble_eq_true rfl, q dx h1 ne⟩⟩
    rw [upd_ne ne, upd_same]
end
section
variable {X : Cx} {e1 e2 : Expr} {ta : TA} {p pos : Pos}
/-- TooGreat(e1, e2), to be raised -/
theorem pmk_too {C : Addr} (tg : Tg X.prog X.w X.K X.mg X.base) (hC : X.mg "TooGreat" = some (.ref C)) (hr : Room 2 X.A) (ha : PA X [e1, e2] ta) (hgl : Gl X "TooGreat" := by exact rfl)
    (he : starEach [e1, e2] X.env = (false, eval e1 X.env) :: starEach [e2] X.env := by rfl) (hpl : (backTo pos (starEach [e2] X.env)).any (·.1) = false := by rfl) : PMk X (.Call (.Name "TooGreat" p) [e1, e2] [] pos) (tMkO C (spToo X.K C) [] ta) := by
  obtain ⟨C', fI, fd, hC', tc, fi, ti, F, bd⟩ := tg
  rw [hC] at hC'
  cases hC'
  exact pmk_oex tc.oc fi ti F hr bd .nil (fun _ _ _ _ _ _ _ h => h.elim) hgl hC ha (by decide) he hpl
end
section
variable {S : Sx} {own : Bool} {ρ : List Sl} {T L : Type} {enc : T → List Sl} {encL : L → List Sl}
theorem ss_too {C : Addr} {ts : TA} {rs : List (M D)} (hC : S.mg "TooGreat" = some (.ref C)) (h : SA S ts ρ rs) : SS S own (fun _ σ H => tMkO C (spToo S.K C) [] ts σ H fun cls d H' => S.E cls d H') ρ enc encL (tooM rs) := fun Wf W0 H0 W H σ D w n q => by
  refine h.go n.env n.ok q (xpost w n.st) fun ds vs W1 H1 q1 s1 r1 e1 => ?_
  obtain ⟨i, j, rfl, q1⟩ := tooD_run q1
  cases r1 with
  | cons r r' =>
    cases r' with
    | cons r' r'' =>
    cases r
    cases r'
    cases r''
    refine ⟨Nat.le_of_ble_eq_true rfl, fun a ha => ⟨a, _, _, rfl, upd_same, fun dx h1 ne => ?_⟩⟩
    rw [upd_ne ne] at h1
    refine ⟨rfl, dx, _, ?_, upd_same, h1, ?_⟩
    · rw [upd_ne (fun z => ne z.symm), upd_same]
    · have hH : upd (del (upd (upd (upd (upd H1 a (exo a C none)) dx (exd dx [("many", V.int i)])) a (exo a C (some dx))) dx (exd dx [("most", V.int j), ("many", V.int i)])) a) dx (.xd [("most", V.int j), ("many", V.int i)]) = upd H1 dx (.xd [("most", V.int j), ("many", V.int i)]) := by
        funext b
        by_cases hb : b = dx
        · subst hb
          rw [upd_same, upd_same]
        · rw [upd_ne hb, upd_ne hb]
          by_cases hb2 : b = a
          · subst hb2
            rw [del_same, ha]
          · rw [del_ne hb2, upd_ne hb, upd_ne hb2, upd_ne hb, upd_ne hb2]
      rw [hH]
      have sd := Step.dat (o := .xd [("most", V.int j), ("many", V.int i)]) s1.ok h1
      exact q1 (.ref C) (some dx) _ _ ((n.st.trans w s1).trans w sd) ⟨C, hC, rfl, dx, _, rfl, upd_same, rfl, rfl⟩
end
/-! ### try: call() / except TooGreat as e: return (e.many, e.most) / return None -/
def TTgreat (K : PySem.W.Frag) (mg : Str → Option Value) : (XK → Hp → VK → Prop) → Hp → VK → Prop := fun tl H Q =>
  tl (fun cls d H' => ∃ W, WOk W H' ∧ (∃ C, mg "TooGreat" = some (.ref C) ∧ cls = .ref C) ∧ ∃ (i j : Int) (dx : Addr) (fs : List (Str × V)), d = some dx ∧ W.P dx = some (.xd fs) ∧ fs.lookup ("many" : Str) = some (V.int i) ∧ fs.lookup ("most" : Str) = some (V.int j) ∧
    ∀ W'' H'' v, Step W H' W'' H'' → Rep K W'' v (.tup [.int i, .int j]) → Q v H'') H fun _ H' => Q .non H'
section
variable {S : Sx} {ρ : List Sl} {r : M D} {t : XK → TE}
theorem se_great (h : ∀ E, SE ⟨S.K, S.mg, E⟩ (t E) ρ r) : SE S (tLm (TTgreat S.K S.mg) t) ρ (greatM r) := fun σ H W H0 Q en w q => by
  refine ⟨w.tab, fun H1 tn t1 => ?_⟩
  have st := step_turns w tn t1
  refine h _ σ H1 W H0 _ (en.step st) st.ok (r.mono (fun d hd => ?_) (fun e he => ?_) q)
  · intro v W' H' s' _
    exact hd _ _ _ (st.trans w s') .non
  · rintro cv dx W' H' s' ⟨C, hC, rfl, hx⟩
    obtain ⟨e1, i, j, e2, e3⟩ := he
    rw [e2] at hx
    rw [e1] at hC
    obtain ⟨d, fs, f1, f2, f3, f4⟩ := hx
    exact ⟨W', s'.ok, ⟨C, hC, rfl⟩, i, j, d, fs, f1, f2, f3, f4, fun W'' H'' v s'' rv => e3 v W'' H'' ((st.trans w s').trans w s'') rv⟩
end
section
variable {P : Program} {w : World} {K : PySem.W.Frag} {mg : Str → Option Value} {base : Heap}
theorem great_gv {x a e : Str} {st : Stmt} {j1 j3 : Nat} {p1 p2 p3 p4 p14 p15 p16 p17 p18 p21 p22 p23 p24 p25 : Pos} {C : Addr} (d : Df K mg x st [a]) (sc : FnScope [a, e] [a] (defScope st)) (hC : mg "TooGreat" = some (.ref C)) (tc : TgC K C) (tT : PySem.W.typeIn K (.ref C) = some (.type "type"))
    (hb : defBody st = [.Try [.Expr (.Call (.Name a p1) [] [] p2) p3] [.ExceptHandler (some (.Name "TooGreat" p4)) (some e) [.Return (some (.Tuple [.Attribute (.Name e p14) "many" p15, .Attribute (.Name e p16) "most" p17] j3 p18)) p21] p22] [] [] p23, .Return (some (.Constant .none j1 p24)) p25])
    (hva : Vis (defScope st) a) (hge : (defScope st).names.lookup ("TooGreat" : Str) = some NameKind.globalImplicit) (hle : (defScope st).names.lookup e = some NameKind.local)
    (hdb : (x == ("__debug__" : Str)) = false := by decide) (hda : (a == ("__debug__" : Str)) = false := by decide) (hca : (a == ("__classdict__" : Str)) = false := by decide)
    (hde : (e == ("__debug__" : Str)) = false := by decide) (hce : (e == ("__classdict__" : Str)) = false := by decide) : Gv P w K mg base x (TTgreat K mg) := by
  refine gv_of d sc rfl hva ?_ hdb hda hca
  rw [hb]
  intro X g cdg q s H0 hP hw hK hmg hbase hr f N Q tl act hN h
  subst hP hw hK hmg hbase
  refine ⟨_, pss_cons (ps_try_as (X := (cxOf C8.CX0 X.prog X.w X.K X.mg X.base [a, e] x (defScope st) g cdg X.A X.stack s H0 C8.E0).nox) (i := 1) (c := .ref C) (Wout := fun _ _ _ _ => False)
      (tb := fun W D σ H => ∃ Ech : XK, (∀ cls d σ' H', Ech cls d H' → W cls d σ' H') ∧ σ[0]? = some (some (.ref f)) ∧ H N = some (LamX.CodeO N q) ∧ tl Ech H fun _ H' => D.nx σ H')
      (ts := fun b cls d D σ H => (σ.length = 2 → σ[1]? = some (some (.ref b))) ∧ cls = .ref C ∧ ∃ (i j : Int) (dx : Addr) (fs : List (Str × V)), d = some dx ∧ H dx = some (.xd fs) ∧ fs.lookup ("many" : Str) = some (V.int i) ∧ fs.lookup ("most" : Str) = some (V.int j) ∧ NewT H [.int i, .int j] D.rt)
      rfl rfl sc.nd rfl hle ⟨hge, by decide, .inl hC⟩ LamX.takes0 (fun W pn xe tk _ => ?_) (fun b oe cls dd pn hz hf => ?_)) (pss_one (ps_ret pe_non)), ?_⟩
  · constructor
    intro pins s' σ H' D I h'
    obtain ⟨Ech, hW, h1, h2, h3⟩ := h'
    exact (pss_one (ps_expr (act W pn xe Ech p1 p2 tk hW))).run pins s' σ H' D I ⟨h1, h2, h3⟩
  · constructor
    intro pins s' σ H' D I h'
    obtain ⟨h1, ecl, i, j, dx, fs, f1, f2, f3, f4, fin⟩ := h'
    have hl : σ.length = 2 := I.len
    have pv1 : ∀ p, PE ((cxOf C8.CX0 X.prog X.w X.K X.mg X.base [a, e] x (defScope st) g cdg X.A X.stack s H0 C8.E0).nox.suite b ((b, oe) :: pn)) (.Name e p) (tVar 1) := fun p => pe_var (i := 1) rfl (.inl hle) hde hce
    have body : PSs ((cxOf C8.CX0 X.prog X.w X.K X.mg X.base [a, e] x (defScope st) g cdg X.A X.stack s H0 C8.E0).nox.suite b ((b, oe) :: pn)) [.Return (some (.Tuple [.Attribute (.Name e p14) "many" p15, .Attribute (.Name e p16) "most" p17] j3 p18)) p21] _ :=
      pss_one (ps_ret (pe_tupB (pa_cons (pe_xf (n := "many") tc.xf tc.m1 hz hf (pv1 p14)) (pa_cons (pe_xf (n := "most") tc.xf tc.m2 hz hf (pv1 p16)) pa_nil))))
    exact body.run pins s' σ H' D I ⟨_, h1 hl, rfl, ecl, dx, fs, _, f1, f2, f3, ⟨_, h1 hl, rfl, ecl, dx, fs, _, f1, f2, f4, Nat.le_of_lt (small1000 (Nat.le_of_ble_eq_true rfl)), fun p ob hp ho => fin p ob hp ho⟩⟩
  · refine ⟨fun cls d H' => ∃ W, WOk W H' ∧ (∃ C, X.mg "TooGreat" = some (.ref C) ∧ cls = .ref C) ∧ ∃ (i j : Int) (dx : Addr) (fs : List (Str × V)), d = some dx ∧ W.P dx = some (.xd fs) ∧ fs.lookup ("many" : Str) = some (V.int i) ∧ fs.lookup ("most" : Str) = some (V.int j) ∧
      ∀ W'' H'' v, Step W H' W'' H'' → Rep X.K W'' v (.tup [.int i, .int j]) → Q v H'', ?_, rfl, hN, h⟩
    rintro cls d σ' H' ⟨W, wk, ⟨C', hC', rfl⟩, i, j, dx, fs, f1, f2, f3, f4, fin⟩
    rw [hC] at hC'
    cases hC'
    refine ⟨true, PySem.W.exm_ref tc.oc.exC tc.hd tT tc.su, fun _ b _ => ⟨fun hl => ?_, rfl, i, j, dx, fs, f1, wk.sub _ _ f2, f3, f4, fun p ob hp ho => ?_⟩, fun z => nomatch z⟩
    · rw [List.length_set] at hl
      exact List.getElem?_set_self (by omega)
    · have sd := Step.dat (o := .frz ob (.tup [.int i, .int j])) wk hp
      exact fin _ _ _ sd (.tup (.inl ⟨ob, upd_same, ho⟩) (.cons (.int _) (.cons (.int _) .nil)))
end
/-! ### defs handed about -/
def faOf (l : List Addr) (i : Nat) : Addr := l.getD i 0
section
variable {P : Program} {w : World} {K : PySem.W.Frag} {mg : Str → Option Value} {base : Heap}
/-- the defs of these numbers, each of n parameters, do as F says -/
def CdV (P : Program) (w : World) (K : PySem.W.Frag) (mg : Str → Option Value) (base : Heap) (k : Nat) (is : List Nat) (n : Nat) (F : Nat → List D → M D) : Prop :=
  ∀ i ∈ is, ∃ (fd : FuncData) (ps : List Str), PySem.W.keepIn K (.ref (Tb.fa i)) = true ∧ Binds K fd ps [] ∧ GOk P w K mg base false k (Tb.fa i) fd ps (spD K mg false n (F i))
theorem cdv_nil {k n : Nat} {F : Nat → List D → M D} : CdV P w K mg base k [] n F := fun _ h => nomatch h
theorem spD_own {n : Nat} {F : List D → M D} {vs : List V} {H : Hp} {Q : VK} {E : XK} (h : spD K mg false n F vs H Q E) : spD K mg true n F vs H Q E := by
  obtain ⟨W, ds, wk, r, l, q⟩ := h
  refine ⟨W, ds, wk, r, l, (F ds).mono (fun d hd W' H' v s rv => ?_) (fun _ z => z) q⟩
  obtain ⟨a, us, xs, rfl, rfl, g1, g2, g3, g4, g5⟩ := rv
  exact hd _ H' _ (s.freeze g4 g1 g2 g3) (.lst upd_same (g5.mono (le_freeze g2)))
theorem cdv_cons {x : Str} {i j k n : Nat} {is : List Nat} {ps : List Str} {own : Bool} {F : Nat → List D → M D} {G : List D → M D} (c : Cd false P w K mg base x j ps (spD K mg own n G)) (hx : mg x = some (.ref (Tb.fa i))) (hF : F i = G) (h : CdV P w K mg base k is n F) (hjk : j ≤ k := by decide) : CdV P w K mg base k (i :: is) n F := fun m hm => by
  rcases List.mem_cons.mp hm with rfl | hm
  · obtain ⟨f, fd, g, kp, b, G1⟩ := c
    rw [hx] at g
    cases g
    rw [hF]
    refine ⟨fd, ps, kp, b, (G1.mono hjk).imp fun vs H Q E z => ?_⟩
    cases own with
    | true => exact spD_own z
    | false => exact z
  · exact h m hm
end
def tCallV (K : PySem.W.Frag) (mg : Str → Option Value) (j : Nat) (is : List Nat) (n : Nat) (F : Nat → List D → M D) (E : XK) (t : TA) : TE := fun σ H Q => ∃ i, i ∈ is ∧ σ[j]? = some (some (.ref (Tb.fa i))) ∧ t σ H fun vs H1 => spD K mg false n (F i) vs H1 Q E
section
variable {X : Cx} {k n j : Nat} {is : List Nat} {F : Nat → List D → M D} {E : XK} {x : Str} {p pos : Pos} {e : Expr} {es : List Expr} {t : TA}
theorem pe_cdv {K : PySem.W.Frag} {mg : Str → Option Value} (c : CdV X.prog X.w K mg X.base k is n F) (hr : Room k X.A) (hx : Passes (L2.CX X.prog X.w) X E) (ha : PA X (e :: es) t) (hN : X.N[j]? = some x := by rfl) (hv : Vis X.env.scope x := by first | exact Or.inl rfl | exact Or.inr (Or.inl rfl) | exact Or.inr (Or.inr rfl))
    (hdb : (x == ("__debug__" : Str)) = false := by decide) (hcd : (x == ("__classdict__" : Str)) = false := by decide)
    (he : starEach (e :: es) X.env = (false, eval e X.env) :: starEach es X.env := by rfl) (hpl : (backTo pos (starEach es X.env)).any (·.1) = false := by rfl)
    (hK : X.K = K := by rfl) (hmg : X.mg = mg := by rfl) : PE X (.Call (.Name x p) (e :: es) [] pos) (tCallV K mg j is n F E t) := by
  subst hK hmg
  constructor
  intro pins s σ H Q I h
  obtain ⟨i, hi, hs, ht⟩ := h
  obtain ⟨fd, ps, kp, b, G⟩ := c i hi
  apply wpAny_Call_Name_kw
  refine thn ((pe_var (pos := p) hN hv hdb hcd).run pins s σ H (fun v H1 => v = .ref (Tb.fa i) ∧ H1 = H) I ⟨.ref (Tb.fa i), hs, rfl, rfl⟩) ?_
  rintro u s1 ⟨v, H1, I1, r1, rfl, rfl⟩
  cases r1
  refine PySem.W.callWith_K (h₀ := X.base) I.ok.mod.kin kp (thn (ha.run pos pins s1 σ _ _ I1 ht) ?_) he hpl
  rintro us s2 ⟨vs, H2, I2, r, q⟩
  exact ⟨I2.kIn, run_g G hr (fun z => nomatch z) b hx I2 r q⟩
/-- the same within a lambda -/
theorem pe_cdvl {K : PySem.W.Frag} {mg : Str → Option Value} {A : Around} {outer : List Env} {s : Shared} {H : Hp} {sc : Scope} {f N : Addr} (c : CdV X.prog X.w K mg X.base j is n F) (hr : Room k (A.deeper (LamX.lamEnv X sc s.heap.objs.size f N))) (ha : PA (LamX.lamCx X A outer s H E sc f N) (e :: es) t) {i : Nat} (hjk : j ≤ k := by decide)
    (hN : (LamX.lamCx X A outer s H E sc f N).N[i]? = some x := by rfl) (hv : Vis (LamX.lamCx X A outer s H E sc f N).env.scope x := by first | exact Or.inl rfl | exact Or.inr (Or.inl rfl) | exact Or.inr (Or.inr rfl))
    (hdb : (x == ("__debug__" : Str)) = false := by decide) (hcd : (x == ("__classdict__" : Str)) = false := by decide)
    (he : starEach (e :: es) (LamX.lamCx X A outer s H E sc f N).env = (false, eval e (LamX.lamCx X A outer s H E sc f N).env) :: starEach es (LamX.lamCx X A outer s H E sc f N).env := by rfl) (hpl : (backTo pos (starEach es (LamX.lamCx X A outer s H E sc f N).env)).any (·.1) = false := by rfl)
    (hK : X.K = K := by rfl) (hmg : X.mg = mg := by rfl) : PE (LamX.lamCx X A outer s H E sc f N) (.Call (.Name x p) (e :: es) [] pos) (tCallV K mg i is n F E t) :=
  pe_cdv (X := LamX.lamCx X A outer s H E sc f N) (k := k) (j := i) (fun m hm => by
    obtain ⟨fd, ps, a, b, g⟩ := c m hm
    exact ⟨fd, ps, a, b, g.mono hjk⟩) hr (pass_lam (X := X)) ha hN hv hdb hcd he hpl hK hmg
end
section
variable {S : Sx} {ρ : List Sl} {ts : TA} {rs : List (M D)} {n j : Nat} {is : List Nat} {F : Nat → List D → M D}
theorem fn_rep {K : PySem.W.Frag} {W : Wd} {v : V} {i : Nat} (r : Rep K W v (.opq (2 * i))) : v = .ref (Tb.fa i) := by
  generalize hd : D.opq (2 * i) = d at r
  cases r with
  | fn m =>
    have e : m = i := by have := D.opq.inj hd; omega
    rw [e]
  | raw b => exact absurd (D.opq.inj hd) (by omega)
  | _ => cases hd
theorem se_cdv {d : D} (hj : ρ[j]? = some (.val d)) (h : SA S ts ρ rs) (hn : rs.length = n) : SE S (tCallV S.K S.mg j is n F S.E ts) ρ (callV is F d rs) := fun σ H W H0 Q e w q => by
  cases d with
  | opq m =>
    unfold callV at q
    by_cases c : m / 2 ∈ is ∧ m % 2 = 0
    · simp only [if_pos c] at q
      obtain ⟨v, hv, rv⟩ := e.dat j _ hj
      have em : m = 2 * (m / 2) := by omega
      rw [em] at rv
      rw [fn_rep rv] at hv
      refine ⟨m / 2, c.1, hv, ?_⟩
      refine h.go e w (seqL_len q) (fun _ z => z) fun ds vs W1 H1 q1 s1 r1 e1 => ?_
      exact ⟨W1, ds, s1.ok, r1, q1.1.trans hn, (F (m / 2) ds).mono (fun d hd W' H' v s r => hd v W' H' (s1.trans w s) r) (fun _ z => z.after w s1) q1.2⟩
    · simp only [if_neg c] at q
      exact (show False from q).elim
  | _ => exact (show False from q).elim
/-- a def's name as a value -/
theorem se_fn {i : Nat} {f : Addr} (h : f = Tb.fa i) : SE S (tC (.ref f)) ρ (pure (.opq (2 * i))) := by
  subst h
  exact se_c fun _ => .fn i
end
end Ev

namespace Ev
open PySem PySem.Spec PyProof.Rows L2
variable [Tb]
/-! ### lambdas that are kept in a list -/
def anyO : HO := .ext fun _ => True
/-- the lambda of this form, made in the frame of X -/
def lamD (X : Cx) (pa : Arguments) (bo : Expr) (sc : Scope) : LamD where
  φ := fun _ N o => ∃ pm ct : Value, o = .frz (PySem.W.kla_obj "<lambda>" (X.env.qual ++ "<lambda>") pa bo sc (cloFrom X.env.cells sc.names []) pm N ct) anyO
  q := X.env.qual ++ "<lambda>"
section
variable {X : Cx} {pins : List (Addr × Obj)} {σ : L2.St} {H : Hp} {s : Shared}
theorem anyO_ok {P : Program} {w : World} {H : Hp} {h : Heap} {a : Addr} {o : Obj} (e : h.get? a = some o) : ObjOk P w H h a (.frz o anyO) := ⟨e, trivial, ⟨o, e⟩, fun _ _ _ _ => trivial⟩
/-- a lambda is made; from now on its object is known -/
theorem make_lamT {T : List (Addr × Str)} {c B : Addr} {pa : Arguments} {bo : Expr} {sc : Scope} {pos : Pos} {E Q : Value → Shared → Prop} (I : L2.Inv X pins σ H s) (tB : LamX.TabB X.base X.mg c B) (hcode : X.env.code = .ref c)
    (hm : (B, X.env.qual ++ "<lambda>") ∈ T) (hu : ∀ p ∈ T, p.1 = B → p.2 = X.env.qual ++ "<lambda>") (hT : LamX.Tabs T H) (hdef : defaultsOf pa X.env = ([], [])) (hfree : ∀ y ∈ sc.names, y.2 = .free → ∃ c, X.env.cells.lookup y.1 = some c)
    (h : ∀ (f N : Addr) (o : HO) (H1 : Hp) (s' : Shared), L2.Inv X pins σ (upd H1 f o) s' → TurnsT H H1 → LamX.Tabs T H1 → H1 f = none → (lamD X pa bo sc).φ f N o → H1 N = some (LamX.CodeO N (X.env.qual ++ "<lambda>")) → Q (.ref f) s') :
    wpAny (model X.prog X.w) X.A (eval (.Lambda pa bo sc pos) X.env) Q E s := by
  obtain ⟨ps, hB, triples, named⟩ := hT _ hm
  have hB0 : s.heap.get? B = some { cls := .none, data := .fields ps } := I.hok B _ hB
  apply PySem.W.kla_eval hdef
  match hc : codeAmong pos ps.toList with
  | some cv =>
    obtain ⟨N, rfl, hco⟩ := named pos cv hc
    apply PySem.W.kla_makeFunctionHit (mg := X.mg) (c := c) (P := B) (ps := ps) (closure_ok hfree) I.ok.glob (I.mod.glob.keeps I.bk) hcode (tB.code.keeps I.bk) hB0 triples hc (tB.bm.keeps I.bk)
    intro ct h' tk hx hsz
    have got : (h'.push (PySem.W.kla_obj "<lambda>" (X.env.qual ++ "<lambda>") pa bo sc (cloFrom X.env.cells sc.names []) ((X.mg "__name__").getD .none) N ct)).get? h'.objs.size = some _ := Heap.get?_push_size _ rfl
    exact h h'.objs.size N _ H _ (I.laid (t' := tk) (fun b o e => Heap.get?_push_of_some _ (hx b o e)) hsz (anyO_ok got)) (.inl rfl) hT (I.hok.fresh hsz) ⟨_, _, rfl⟩ hco
  | none =>
    apply PySem.W.kla_makeFunction (mg := X.mg) (c := c) (P := B) (ps := ps) (closure_ok hfree) I.ok.glob (I.mod.glob.keeps I.bk) hcode (tB.code.keeps I.bk) hB0 triples hc tB.gP (tB.bm.keeps I.bk)
    intro N ct h' tk hx hge hlt hrec htb
    obtain ⟨N', oc, vs, t, eN, hoc, hd, hv⟩ := hrec
    cases eN
    have nN : H N = none := I.hok.fresh hge
    have nBN : B ≠ N := ne_of_none hB nN
    have J := LamX.inv_table (t' := tk) (more := #[rawInt pos.line, rawInt pos.col, .ref N]) (h' := h') I hB hx htb hge ⟨oc, vs, t, hoc, hd, hv⟩
    have got : (h'.push (PySem.W.kla_obj "<lambda>" (X.env.qual ++ "<lambda>") pa bo sc (cloFrom X.env.cells sc.names []) ((X.mg "__name__").getD .none) N ct)).get? h'.objs.size = some _ := Heap.get?_push_size _ rfl
    have stay : ∀ b o, H b = some o → b ≠ B → upd (upd H B (.tbl (ps ++ #[rawInt pos.line, rawInt pos.col, .ref N]))) N (LamX.CodeO N (X.env.qual ++ "<lambda>")) b = some o := by
      intro b o e nb
      rw [upd_ne (ne_of_none e nN), upd_ne nb]
      exact e
    have listed : (ps ++ #[rawInt pos.line, rawInt pos.col, .ref N]).toList = ps.toList ++ [rawInt pos.line, rawInt pos.col, .ref N] := by simp
    refine h h'.objs.size N _ _ _ (J.laid (t' := tk) (fun b o e => Heap.get?_push_of_some _ e) (Nat.le_refl _) (anyO_ok got)) (.inr ⟨B, N, _, _, ⟨ps, hB⟩, nN, rfl⟩) (fun p hp => ?_) (J.hok.fresh (Nat.le_refl _)) ⟨_, _, rfl⟩ upd_same
    have coded : ∀ c0 q0, H c0 = some (LamX.CodeO c0 q0) → c0 ≠ B := fun c0 q0 e z => by
      rw [z, hB] at e
      exact LamX.codeO_ne ps (Option.some.inj e).symm
    by_cases hb : p.1 = B
    · rw [hu p hp hb, hb]
      refine ⟨_, by rw [upd_ne nBN, upd_same], by rw [listed]; exact PySem.TriplesOk_snoc _ _ _ _ triples, ?_⟩
      intro p' cv hcv
      rw [listed] at hcv
      cases LamX.among_app _ triples hcv with
      | inl z =>
        obtain ⟨c0, e1, e2⟩ := named p' cv z
        exact ⟨c0, e1, stay _ _ e2 (coded _ _ e2)⟩
      | inr z => exact ⟨N, z, upd_same⟩
    · obtain ⟨ps', a1, a2, a3⟩ := hT p hp
      refine ⟨ps', stay _ _ a1 hb, a2, ?_⟩
      intro p' cv hcv
      obtain ⟨c0, e1, e2⟩ := a3 p' cv hcv
      exact ⟨c0, e1, stay _ _ e2 (coded _ _ e2)⟩
/-- d is a lambda of the frame of X whose body reads as t says -/
def IsLam (X : Cx) (k : Nat) (t : XK → TE) (d : LamD) : Prop := ∃ (pa : Arguments) (bo : Expr) (sc : Scope), d = lamD X pa bo sc ∧ LamX.LamS X.env.scope sc ∧
  (∀ (q : Str) (cl : List (Str × Addr)) (pm cv ctv : Value), bindArgs (PySem.W.kla_fn "<lambda>" q pa bo sc cl pm cv ctv) ⟨[], []⟩ = pure []) ∧
  ∀ (A : Around) (outer : List Env) (s : Shared) (H : Hp) (E : XK) (f N : Addr), Room k (A.deeper (LamX.lamEnv X sc s.heap.objs.size f N)) → PE (LamX.lamCx X A outer s H E sc f N) bo (t E)
/-- lambda: body, as a value -/
def tLamV (X : Cx) (k : Nat) (t : XK → TE) : TE := fun _ H Q => LamX.Tabs Tb.T H ∧ ∀ H1, TurnsT H H1 → LamX.Tabs Tb.T H1 → ∀ d f N o, IsLam X k t d → H1 f = none → (∀ ps, o ≠ .tbl ps) → d.φ f N o → H1 N = some (LamX.CodeO N d.q) → Q (.ref f) (upd H1 f o)
theorem pe_lamv {c B : Addr} {k : Nat} {t : XK → TE} {pa : Arguments} {bo : Expr} {sc : Scope} {pos : Pos} (tB : LamX.TabB X.base X.mg c B) (hcode : X.env.code = .ref c)
    (hm : (B, X.env.qual ++ "<lambda>") ∈ Tb.T) (hu : ∀ p ∈ Tb.T, p.1 = B → p.2 = X.env.qual ++ "<lambda>") (L : LamX.LamS X.env.scope sc) (hdef : defaultsOf pa X.env = ([], []))
    (hbind : ∀ (q : Str) (cl : List (Str × Addr)) (pm cv ctv : Value), bindArgs (PySem.W.kla_fn "<lambda>" q pa bo sc cl pm cv ctv) ⟨[], []⟩ = pure [])
    (hbody : ∀ (A : Around) (outer : List Env) (s : Shared) (H : Hp) (E : XK) (f N : Addr), Room k (A.deeper (LamX.lamEnv X sc s.heap.objs.size f N)) → PE (LamX.lamCx X A outer s H E sc f N) bo (t E)) : PE X (.Lambda pa bo sc pos) (tLamV X k t) := by
  constructor
  intro pins s σ H Q I h
  exact make_lamT I tB hcode hm hu h.1 hdef (L.has I.ok) fun f N o H1 s' J tn T1 hf hφ hN => ⟨.ref f, _, J, rfl, h.2 H1 tn T1 _ f N o ⟨pa, bo, sc, rfl, L, hbind, hbody⟩ hf (by
    obtain ⟨pm, ct, rfl⟩ := hφ
    exact fun _ z => nomatch z) hφ hN⟩
end

section
variable {X : Cx} {pins : List (Addr × Obj)} {σ : L2.St} {H : Hp} {s : Shared}
/-- the def that got a kept lambda calls it -/
theorem pe_actK {Eg : XK} {Ng : List Str} {qg : Str} {sg : Scope} {g f N : Addr} {cdg : Value} {pa : Arguments} {bo : Expr} {scl : Scope} {k i : Nat} {a : Str} {pn : List (Addr × Obj)} {xe : Value → Shared → Prop} {W : WX} {E : XK} {tb : TE} {p1 p2 : Pos} {o : HO}
    (J : L2.Inv X pins σ H s) (L : LamX.LamS X.env.scope scl) (ho : (lamD X pa bo scl).φ f N o) (hbind : ∀ (q : Str) (cl : List (Str × Addr)) (pm cv ctv : Value), bindArgs (PySem.W.kla_fn "<lambda>" q pa bo scl cl pm cv ctv) ⟨[], []⟩ = pure [])
    (tk : Takes ((cxOf C8.CX0 X.prog X.w X.K X.mg X.base Ng qg sg g cdg X.A X.stack s H Eg).tr pn xe) W) (hW : ∀ cls d σ' H', E cls d H' → W cls d σ' H') (hr : Room (k + 1) (X.A.deeper (envOfC qg sg s.heap.objs.size g cdg)))
    (hbody : ∀ (A : Around) (outer : List Env) (s : Shared) (H : Hp), Room k (A.deeper (LamX.lamEnv X scl s.heap.objs.size f N)) → PE (LamX.lamCx X A outer s H E scl f N) bo tb)
    (hNg : Ng[i]? = some a) (hv : Vis sg a) (hd : (a == ("__debug__" : Str)) = false) (hcd : (a == ("__classdict__" : Str)) = false) :
    PE ((cxOf C8.CX0 X.prog X.w X.K X.mg X.base Ng qg sg g cdg X.A X.stack s H Eg).tr pn xe) (.Call (.Name a p1) [] [] p2)
      (fun σZ HZ Q => σZ[i]? = some (some (.ref f)) ∧ HZ N = some (LamX.CodeO N (X.env.qual ++ "<lambda>")) ∧ HZ f = some o ∧ tb σ HZ Q) := by
  obtain ⟨pm, ctv, rfl⟩ := ho
  constructor
  intro pinsZ sZ σZ HZ Q IZ h
  obtain ⟨hs, hco, hfo, ht⟩ := h
  apply wpAny_Call_Name_kw
  refine thn ((pe_var (pos := p1) (i := i) hNg hv hd hcd).run pinsZ sZ σZ HZ (fun v H1 => v = .ref f ∧ H1 = HZ) IZ ⟨.ref f, hs, rfl, rfl⟩) ?_
  rintro u s1 ⟨v, H1, J1, rv, rfl, rfl⟩
  cases rv
  have obj : s1.heap.get? f = some (PySem.W.kla_obj "<lambda>" (X.env.qual ++ "<lambda>") pa bo scl (cloFrom X.env.cells scl.names []) pm N ctv) := (J1.hok f _ hfo).1
  apply PySem.W.callWith_F0 ⟨_, _, _, _, obj⟩
  have past : Un (frs X.stack) [] H H1 s.heap s1.heap := J1.base
  obtain ⟨⟨oc, vs, t, hoc, hdc, hvc⟩, _, _⟩ := J1.hok N _ hco
  have done : codeAny (model X.prog X.w) (X.A.deeper (envOfC qg sg s.heap.objs.size g cdg)) (.call (.ref f) ⟨[], []⟩) (CR (L2.CX X.prog X.w) (envOfC qg sg s.heap.objs.size g cdg :: X.stack) X.prog X.w H1 s1 Q E) s1 := by
    apply PySem.W.kla_callFunE hr.depth obj rfl L.co L.gen rfl ⟨N, oc, vs, t, rfl, hoc, hdc, hvc⟩
    rw [hbind]
    apply wpAny_pure
    refine wpAny_newFunctionEnv (fun y hy => (L.own y hy).2) (fun y hy => absurd hy (by simp)) (fun h₁ hns hsb => ⟨J1.nolimit.fresh _ hsb, ?_⟩) L.kind
    show codeAny _ _ (.expr bo (LamX.lamEnv X scl s1.heap.objs.size f N)) _ _
    have kept : ∀ b ob, s1.heap.get? b = some ob → h₁.get? b = some ob := fun b ob e => hsb.extBut b ob (Nat.ne_of_lt (Heap.lt_size e)) (Heap.get?_push_of_some _ e)
    have start : L2.Inv (LamX.lamCx X (X.A.deeper (envOfC qg sg s.heap.objs.size g cdg)) (envOfC qg sg s.heap.objs.size g cdg :: X.stack) s1 H1 E scl f N) [] σ H1 { s1 with heap := h₁, toks := s1.toks + ([] : List (Str × Value)).length } :=
      LamX.lam_start2 J L J1.env0 hr.hd past hns kept
    apply PySem.W.kla_codeExpr
    refine wpAny_mono ((hbody _ _ s1 H1 (hr.deeper _)).run [] _ _ H1 Q start ht) (fun v s' hq => ?_) fun _ _ z => z
    obtain ⟨w', H', J', rv, q⟩ := hq
    exact ⟨w', H', J'.os, J'.bare, J'.base, J'.hok, rv, q⟩
  have out : Passes (L2.CX X.prog X.w) ((cxOf C8.CX0 X.prog X.w X.K X.mg X.base Ng qg sg g cdg X.A X.stack s H Eg).tr pn xe) E := passes_call tk hW
  apply wpAny_call
  refine codeAny_mono done ?_
  intro r s' hq
  match r, hq with
  | .error e, hq => exact out pinsZ σZ H1 s1 e s' J1 hq
  | .ok (.ret u), hq => exact J1.after hq
  | .ok .next, hq => exact False.elim hq
  | .ok .brk, hq => exact False.elim hq
  | .ok .cont, hq => exact False.elim hq
end
/-- the def x takes a kept lambda and reads it as TT says -/
def Gk (P : Program) (w : World) (K : PySem.W.Frag) (mg : Str → Option Value) (base : Heap) (x : Str) (TT : (XK → Hp → VK → Prop) → Hp → VK → Prop) : Prop :=
  ∃ (a : Str) (st : Stmt) (Ng : List Str), Df K mg x st [a] ∧ FnScope Ng [a] (defScope st) ∧ Ng[0]? = some a ∧ Vis (defScope st) a ∧ GivesR P w K mg base Ng x (defScope st) (defBody st) a TT ∧ (a == ("__debug__" : Str)) = false ∧ (a == ("__classdict__" : Str)) = false
/-- [x(y) for y in l], l a list of kept lambdas: the turns from the i-th on -/
def tSdL (X : Cx) (k : Nat) (TT : (XK → Hp → VK → Prop) → Hp → VK → Prop) (σw : L2.St) (D a : Addr) : Nat → List (XK → TE) → List V → Hp → VK → Prop
  | i, [], _, H, Q => (∃ xs, SqL X.K H a xs ∧ xs.length ≤ i) ∧ Q (.ref D) H
  | i, t :: ts, acc, H, Q => ∃ xs d f N o, SqL X.K H a xs ∧ xs[i]? = some (.ref f) ∧ IsLam X k t d ∧ d.φ f N o ∧ H N = some (LamX.CodeO N d.q) ∧ H f = some o ∧
      TT (fun E H' Q' => H' f = some o ∧ t E σw H' Q') H fun v H' => H' D = some (.lst acc) ∧ acc.length < sizeLine ∧ tSdL X k TT σw D a (i + 1) ts (acc ++ [v]) (upd H' D (.lst (acc ++ [v]))) Q
def tSaid (X : Cx) (k : Nat) (TT : (XK → Hp → VK → Prop) → Hp → VK → Prop) (iy j : Nat) : TE := fun σ H Q =>
  ∃ (ts : List (XK → TE)) (a : Addr), σ[j]? = some (some (.ref a)) ∧ (∃ xs, SqL X.K H a xs) ∧ ∀ D, H D = none → tSdL X k TT (σ.set iy none) D a 0 ts [] (upd H D (.lst [])) Q
section
variable {X : Cx}
/-- a kept lambda is handed to x, in a comprehension's block -/
theorem blk_said {k iy : Nat} {y sd : Str} {TT : (XK → Hp → VK → Prop) → Hp → VK → Prop} {t : XK → TE} {d : LamD} {f N : Addr} {o : HO} {p1 p2 p3 : Pos} {XB : Cx} {pins pinsB : List (Addr × Obj)} {σ σB : L2.St} {H : Hp} {s : Shared} {Q : VK}
    (c : Gk X.prog X.w X.K X.mg X.base sd TT) (hr : Room (k + 4) X.A) (eA : XB.A = X.A) (eS : XB.stack = X.stack) (eP : XB.prog = X.prog) (eW : XB.w = X.w) (eK : XB.K = X.K) (em : XB.mg = X.mg) (eB : XB.base = X.base)
    (hy : PE XB (.Name y p2) (tVar iy)) (hgl : Gl XB sd) (hdb : (sd == ("__debug__" : Str)) = false) (I : L2.Inv XB pinsB σB H s) (outer : ∀ s', L2.Inv XB pinsB σB H s' → L2.Inv X pins σ H s')
    (hs : σB[iy]? = some (some (.ref f))) (hd : IsLam X k t d) (ho : d.φ f N o) (hN : H N = some (LamX.CodeO N d.q)) (hf : H f = some o) (h : TT (fun E H' Q' => H' f = some o ∧ t E σ H' Q') H Q) :
    wpAny (model XB.prog XB.w) XB.A (eval (.Call (.Name sd p1) [.Name y p2] [] p3) XB.env) (EP XB pinsB σB Q) XB.xe s := by
  obtain ⟨a, st, Ng, ⟨g, fd, Fn, hm, hb, _⟩, sc, hNg, hva, G, hda, hca⟩ := c
  obtain ⟨oc, od, kV, doc, pm, an, cdv, ct, osl, rfl, lk, hcg⟩ := Fn.ex
  obtain ⟨pa, bo, scl, rfl, L, hbind, hbody⟩ := hd
  have kp : PySem.W.keepIn XB.K (.ref g) = true := by rw [eK]; exact Fn.kp
  apply wpAny_Call_Name_kw
  refine ld_glob I hgl (by rw [em]; exact hm) (PySem.W.callWith_K (h₀ := XB.base) I.ok.mod.kin kp (thn ((pa_cons hy pa_nil).run p3 pinsB s σB H (fun vs H1 => vs = [.ref f] ∧ H1 = H) I ⟨_, hs, rfl, rfl⟩) ?_) (by rfl) (by rfl)) hdb
  rintro us s2 ⟨vs, H2, I2, rv, rfl, rfl⟩
  have J := outer s2 I2
  refine ⟨I2.kIn, wpAny_call ?_⟩
  have ran : codeAny (model X.prog X.w) X.A (.call (.ref g) ⟨us, []⟩) (CR C8.CX0 X.stack X.prog X.w H2 s2 Q C8.E0) s2 := by
    apply LamX.run_ofS (N := Ng) (ps := [a]) (us := us) (vs := [.ref f]) (k := k + 3) lk hcg sc hr J.env0 (by
      obtain ⟨u, rfl, ru⟩ := rv.one
      exact hb s2 [u] J.kIn rfl) rv rfl
    intro hr'
    obtain ⟨t', ht', hq'⟩ := G X g cdv (X.env.qual ++ "<lambda>") s2 H2 rfl rfl rfl rfl rfl (hr'.mono (by omega)) f N Q (fun E H' Q' => H' f = some o ∧ t E σ H' Q')
      (fun W pn xe E q1 q2 tk hW => pe_actK (k := k) (i := 0) J L ho hbind tk hW (hr'.mono (by omega)) (fun A outer s H hr2 => hbody A outer s H E f N hr2) hNg hva hda hca) hN h
    exact ⟨t', ht'.nox, hq'⟩
  rw [← eP, ← eW, ← eA, ← eS] at ran
  refine codeAny_mono ran ?_
  intro r s3 hq
  match r, hq with
  | .error e, hq => exact (show False from hq).elim
  | .ok (.ret u), hq => exact I2.after hq
  | .ok .next, hq => exact False.elim hq
  | .ok .brk, hq => exact False.elim hq
  | .ok .cont, hq => exact False.elim hq
theorem wipe_one (σ : L2.St) (i : Nat) : L2.wipe σ [i] = σ.set i none := rfl
/-- [x(y) for y in l] -/
theorem pe_saidL {k j iy : Nat} {y sd : Str} {TT : (XK → Hp → VK → Prop) → Hp → VK → Prop} {iter : Expr} {scope : Scope} {pos p1 p2 p3 p4 : Pos} (c : Gk X.prog X.w X.K X.mg X.base sd TT) (hr : Room (k + 4) X.A) (hcalm : X.calm = true) (hN : X.N.Nodup)
    (hl : PE X iter (tVar j)) (ok : BlkOk X.N X.env.scope scope [(y, iy)]) (hg : ∀ (s : Shared) (H : Hp) (C : Addr) (cl : List (Str × Addr)) (fp : List Addr), PG (X.blk s H scope (compEnvC scope cl C X.env) fp) (.Name y p4) (gName iy))
    (hy : ∀ (s : Shared) (H : Hp) (C : Addr) (cl : List (Str × Addr)) (fp : List Addr), PE (X.blk s H scope (compEnvC scope cl C X.env) fp) (.Name y p2) (tVar iy))
    (hgl : ∀ (s : Shared) (H : Hp) (C : Addr) (cl : List (Str × Addr)) (fp : List Addr), Gl (X.blk s H scope (compEnvC scope cl C X.env) fp) sd) (hdb : (sd == ("__debug__" : Str)) = false := by decide)
    (hfold : ∀ v, foldedSetIterable iter X.env v = pure v := by intro _; rfl) :
    PE X (.ListComp (.Call (.Name sd p1) [.Name y p2] [] p3) [⟨.Name y p4, iter, [], 0⟩] scope pos) (tSaid X k TT iy j) := by
  constructor
  intro pins s σ H Q I h
  obtain ⟨ts, a, ha, hsq, h⟩ := h
  rw [eval_ListComp]
  have caught : ∀ z ∈ scope.names, z.2 = .free → ∃ q, X.env.cells.lookup z.1 = some q := fun z hz e => by
    cases ok.free z hz e with
    | inl q => exact I.ok.has _ (.inl q)
    | inr q => exact I.ok.has _ (.inr q)
  have walks := (pi_list (tg := .Name y p4) hl).run pins s σ H (fun J H1 => J = Itl X.K a ∧ H1 = H) I ⟨.ref a, ha, a, rfl, hsq, rfl, rfl⟩
  refine wpAny_comprehension_free (use := none) rfl hfold (closure_ok caught) ok.kind (fun z hz e => by rw [ok.uniq z hz, e]) (thn walks fun lv s1 h1 => thn h1 fun itv s2 h2 => ?_)
  obtain ⟨it, fp, tn, J, H2, rfl, I2, T, st2, f2, rfl, rfl⟩ := h2
  refine wpAny_newObj_type (newEnv_comp ?_) (Nat.zero_le _)
  generalize eD : s2.heap.objs.size = D
  have nD : H2 D = none := I2.hok.fresh (Nat.le_of_eq eD)
  have rd := h D nD
  generalize e3 : ({ s2 with heap := s2.heap.push { cls := .type "list", data := .seq ([] : List Value).toArray } } : Shared) = s3
  have h3 : s3.heap = s2.heap.push { cls := .type "list", data := .seq ([] : List Value).toArray } := by rw [← e3]
  have I3 : L2.Inv X pins σ (upd H2 D (.lst [])) s3 := by
    subst e3
    refine I2.laid (t' := s2.toks) (fun b ob e => Heap.get?_push_of_some _ e) (Nat.le_of_eq eD) ⟨Nat.zero_le _, [], 0, .nil, ?_⟩
    subst eD
    exact Heap.get?_push_size _ rfl
  generalize eH : upd H2 D (.lst []) = H3 at I3 rd
  have young : ∀ b ∈ fp, b < s2.heap.objs.size := fun b hb => by
    obtain ⟨ob, e, _⟩ := T.obj _ _ st2 b hb
    exact Heap.lt_size e
  have f3 : ∀ b ∈ fp, FpOk X pins H3 b ∧ b < s3.heap.objs.size := fun b hb => by
    have lt := young b hb
    refine ⟨⟨?_, (f2 b hb).2⟩, by rw [h3, Heap.size_push]; exact Nat.lt_succ_of_lt lt⟩
    subst eH
    rw [upd_ne (by subst eD; exact Nat.ne_of_lt lt)]
    exact (f2 b hb).1
  have st3 : tn 0 s3.heap := T.keep _ _ _ st2 fun b _ ob e => by rw [h3]; exact Heap.get?_push_of_some _ e
  have I4 := block_start I3 ok hN f3
  have pg := hg s3 H3 s3.heap.objs.size (cellsFrom (s3.heap.objs.size + 1) scope.names (cloFrom X.env.cells scope.names [])) fp
  have py := hy s3 H3 s3.heap.objs.size (cellsFrom (s3.heap.objs.size + 1) scope.names (cloFrom X.env.cells scope.names [])) fp
  have gl := hgl s3 H3 s3.heap.objs.size (cellsFrom (s3.heap.objs.size + 1) scope.names (cloFrom X.env.cells scope.names [])) fp
  show codeAny _ _ (.compStart _ 0 (.ref it) (.ref D) (compEnvC scope (cellsFrom (s3.heap.objs.size + 1) scope.names (cloFrom X.env.cells scope.names [])) s3.heap.objs.size X.env)) (compPost (model X.prog X.w) X.A X.xe none (EP X pins σ Q) (.ref D) s3.heap.objs.size) { s3 with heap := pushCells (s3.heap.push { cls := .type "dict", data := .dict #[] }) scope.names }
  generalize ee : compEnvC scope (cellsFrom (s3.heap.objs.size + 1) scope.names (cloFrom X.env.cells scope.names [])) s3.heap.objs.size X.env = ce at I4 pg py gl ⊢
  have loc : ce.locals = s3.heap.objs.size := by subst ee; rfl
  generalize e4 : ({ s3 with heap := pushCells (s3.heap.push { cls := .type "dict", data := .dict #[] }) scope.names } : Shared) = s4 at I4 ⊢
  have st4 : tn 0 s4.heap := T.keep _ _ _ st3 fun b _ ob e => by subst e4; exact pushCells_keeps _ _ _ _ (Heap.get?_push_of_some _ e)
  have n4 : ∀ b ∈ fp, H3 b = none := fun b hb => (f3 b hb).1.1
  have mine : ∀ {σ' : L2.St} {H' : Hp} {s' : Shared}, L2.Inv (X.blk s3 H3 scope ce fp) [] σ' H' s' → (∀ b ∈ fp, H' b = none) → ∀ b ∈ fp, FpOk (X.blk s3 H3 scope ce fp) [] H' b := fun {σ' H' s'} I' hn b hb =>
    ⟨hn b hb, (I'.ok.exf b hb).1, I'.ok.exfs b hb, .inl hb, fun z q e => (I'.ok.exf b hb).2 z q e, fun p hp => absurd (show p ∈ ([] : List (Addr × Obj)) ++ [] from hp) (by simp)⟩
  -- the frame of the def itself, at any state within the block
  have outer : ∀ {pb : List (Addr × Obj)} {σ' : L2.St} {H' : Hp} {s' : Shared}, L2.Inv (X.blk s3 H3 scope ce fp) pb σ' H' s' → L2.Inv X pins σ H' s' := fun {pb σ' H' s'} I' =>
    I3.call' (ch := fp) I'.os I'.base I'.hok I'.bare fun b hb => ⟨(f3 b hb).1.2.2.2.1, (f3 b hb).1.2.1, (f3 b hb).1.2.2.2.2.1, (f3 b hb).1.2.2.2.2.2⟩
  have less : ∀ {H' : Hp} {s' : Shared}, L2.Inv X pins σ H' s' → L2.Inv X pins (σ.set iy none) H' s' := fun {H' s'} I' =>
    I'.weak (List.length_set ..) fun i v e => (wipe_some (vs := [iy]) e).1
  have hlen : iy < σ.length := by
    have h1 := ok.ix (y, iy) List.mem_cons_self
    have h2 := (List.getElem?_eq_some_iff.mp h1).1
    rw [I.len]
    exact h2
  have loop : codeAny (model X.prog X.w) X.A (.compLoop (.ListComp (.Call (.Name sd p1) [.Name y p2] [] p3) [⟨.Name y p4, iter, [], 0⟩] scope pos) 0 (.ref it) (.ref D) ce) (compPost (model X.prog X.w) X.A X.xe none (EP X pins σ Q) (.ref D) s3.heap.objs.size) s4 := by
    refine compLoop_any (fun n s' => ∃ i acc us H', us.length = n ∧ L2.Inv (X.blk s3 H3 scope ce fp) [] (σ.set iy none) H' s' ∧ tn i s'.heap ∧ (∀ b ∈ fp, H' b = none) ∧ tSdL X k TT (σ.set iy none) D a i us acc H' Q) ?_ ts.length ⟨0, [], ts, H3, rfl, I4, st4, n4, rd⟩
    rintro n s5 ⟨i, acc, us, H5, rfl, I5, st5, n5, w5⟩
    cases us with
    | nil =>
      obtain ⟨⟨xs, hx, hle⟩, q⟩ := w5
      refine thnF (T.done (X.blk s3 H3 scope ce fp) rfl rfl rfl hcalm i [] s5 _ H5 (fun _ _ => False) I5 (mine I5 n5) st5 ⟨xs, hx, hle⟩) ?_
      rintro r s6 ⟨rfl, I6⟩
      have I7 := outer I6
      have free : H5 s3.heap.objs.size = none := by
        have z : H5 ce.locals = none := I6.free
        rwa [loc] at z
      obtain ⟨m, hn, _⟩ := I6.loc
      have hn : s6.heap.Ns ce.locals m := hn
      rw [loc] at hn
      obtain ⟨g0, g1, g2, g3, g4, g5⟩ := I3.fpOk (Nat.le_refl _) free
      exact ⟨m, hn, fun h'' sb => ⟨.ref D, H5, I7.turned (t' := s6.toks) (fun b ob hb e => (sb.2 b hb).trans e) g0 g1 g3 g4 g5, rfl, q⟩⟩
    | cons t us =>
      obtain ⟨xs, d, f, N, o, hx, hxi, hd, ho, hcN, hf, w⟩ := w5
      refine thnF (T.item (X.blk s3 H3 scope ce fp) rfl rfl rfl hcalm i [] s5 _ H5 (fun _ _ => False) I5 (mine I5 n5) st5 ⟨xs, _, hx, hxi⟩) ?_
      rintro r s6 ⟨u, rfl, h6⟩
      refine thnF h6 ?_
      rintro _ s7 ⟨x, H7, I7, r7, ⟨rfl, y7⟩, st7, n7⟩
      obtain rfl : x = .ref f := by
        have := y7 xs hx
        rw [hxi] at this
        exact (Option.some.inj this).symm
      have I7' := I7.pinned (mine I7 n7) (T.obj _ _ st7)
      refine thnF (pg.run _ s7 _ H7 _ u (fun σ' H' => σ' = (σ.set iy none).set iy (some (.ref f)) ∧ H' = H7) I7' r7 ⟨rfl, rfl⟩) ?_
      rintro _ s8 ⟨σ8, H8, I8, rfl, rfl⟩
      apply wpAny_tests_nil
      show if true = true then _ else _
      rw [if_pos rfl]
      have slot : ((σ.set iy none).set iy (some (V.ref f)))[iy]? = some (some (.ref f)) := List.getElem?_set_self (by rw [List.length_set]; exact hlen)
      refine thnF (blk_said (XB := X.blk s3 H3 scope ce fp) (σ := σ.set iy none) c hr rfl rfl rfl rfl rfl rfl rfl py gl hdb I8 (fun s' I' => less (outer I')) slot hd ho hcN hf w) ?_
      rintro z s9 ⟨v, H9, I9, r9, hD, hz, w9⟩
      refine app_ok (X := X.blk s3 H3 scope ce fp) I9 hD hz r9 fun s10 I10 => ?_
      have pinned : ∀ b ∈ fp, ∀ ob, s7.heap.get? b = some ob → s10.heap.get? b = some ob ∧ (upd H9 D (.lst (acc ++ [v]))) b = none := fun b hb ob e =>
        let q := I10.pin (b, ob) (List.mem_append_right _ (List.mem_append_right _ (mem_pinsAt hb e)))
        ⟨q.1, q.2.1⟩
      refine ⟨us.length, Nat.lt_succ_self _, i + 1, acc ++ [v], us, _, rfl, (I10.unpinned (pins := [])).weak ?_ (fun m u e => ?_), T.keep _ _ _ st7 fun b hb ob e => (pinned b hb ob e).1, fun b hb => ?_, w9⟩
      · rw [List.length_set, List.length_set, List.length_set]
      · by_cases q : iy = m
        · subst q
          rw [List.getElem?_set_self hlen] at e
          cases e
        · rw [List.getElem?_set_ne q]
          exact e
      · obtain ⟨ob, e, _⟩ := T.obj _ _ st7 b hb
        exact (pinned b hb ob e).2
  exact codeAny_compStart_list loop (T.self X.A 0 _ _ _ st4 loop)
end
/-! ### what is read of them -/
def IsLams (X : Cx) (k : Nat) : List (XK → TE) → List LamD → Prop
  | [], [] => True
  | t :: ts, d :: ds => IsLam X k t d ∧ IsLams X k ts ds
  | _, _ => False
def SLs (S : Sx) (ρ : List Sl) : List (XK → TE) → List (M D) → Prop
  | [], [] => True
  | t :: ts, m :: ms => (∀ E, SE ⟨S.K, S.mg, E⟩ (t E) ρ m) ∧ SLs S ρ ts ms
  | _, _ => False
section
variable {S : Sx} {own : Bool} {ρ : List Sl} {T L : Type} {enc : T → List Sl} {encL : L → List Sl} {tb : TS}
theorem il_nil {X : Cx} {k : Nat} : IsLams X k [] [] := trivial
theorem il_cons {X : Cx} {k : Nat} {t : XK → TE} {ts : List (XK → TE)} {d : LamD} {ds : List LamD} (h : IsLam X k t d) (r : IsLams X k ts ds) : IsLams X k (t :: ts) (d :: ds) := ⟨h, r⟩
theorem sl_nil : SLs S ρ [] [] := trivial
theorem sl_cons {t : XK → TE} {ts : List (XK → TE)} {m : M D} {ms : List (M D)} (h : ∀ E, SE ⟨S.K, S.mg, E⟩ (t E) ρ m) (r : SLs S ρ ts ms) : SLs S ρ (t :: ts) (m :: ms) := ⟨h, r⟩
theorem codeO_N {W : Wd} {H : Hp} {N : Addr} {q : Str} (w : WOk W H) (e : H N = some (LamX.CodeO N q)) : W.N N = none := by
  cases z : W.N N with
  | none => rfl
  | some φ =>
    obtain ⟨_, o, h1, h2⟩ := w.pen N φ z
    rw [e] at h1
    cases h1
    rcases w.kin N φ z with ⟨k, rfl⟩ | rfl
    · cases k with
      | false =>
        obtain ⟨x, y, e1, _⟩ := h2
        unfold LamX.CodeO at e1
        cases e1
      | true =>
        obtain ⟨x, b, n, y, e1, _⟩ := h2
        unfold LamX.CodeO at e1
        cases e1
    · obtain ⟨ps, e1⟩ := h2
      exact (LamX.codeO_ne ps e1).elim
/-- a lambda has been made, to be kept -/
theorem lam_kept {X : Cx} {k : Nat} {t : XK → TE} {W : Wd} {H : Hp} {Q : VK} {σ : L2.St} (w : WOk W H) (h : ∀ d f W' H', IsLam X k t d → Step W H W' H' → H f = none → (∃ N o, W'.P f = some o ∧ d.φ f N o ∧ H' N = some (LamX.CodeO N d.q) ∧ W'.N N = none) → Q (.ref f) H') : tLamV X k t σ H Q := by
  refine ⟨w.tab, fun H1 tn t1 d f N o hd hf hb hφ hN => ?_⟩
  have s1 := step_turns w tn t1
  have s2 := Step.dat s1.ok hf hb
  have nf : N ≠ f := fun z => by rw [z, hf] at hN; cases hN
  have cN : (upd H1 f o) N = some (LamX.CodeO N d.q) := by rw [upd_ne nf]; exact hN
  refine h d f _ _ hd (s1.trans w s2) (s1.free0 w hf) ⟨N, o, upd_same, hφ, cN, codeO_N s2.ok cN⟩
/-- l = [lambda: ..] -/
theorem ss_lamset {X : Cx} {k i : Nat} {t : XK → TE} {m : M (Fl T L)} (hb : ∀ ld, IsLam X k t ld → SS S own tb (ρ.set i (.ob (.lam [ld]))) enc encL m) : SS S own (tSeq (tAsg (tLst (tCons (tLamV X k t) tNil)) (gName i)) tb) ρ enc encL m := fun Wf W0 H0 W H σ D w n q => by
  show tLamV X k t σ H (fun x H1 => tNil σ H1 fun xs H2 => (x :: xs).length ≤ sizeLine ∧ ∀ p, H2 p = none → gName i (.ref p) σ (upd H2 p (.lst (x :: xs))) (tb D))
  refine lam_kept n.ok fun d f W1 H1 hd s1 hf ⟨N, o, h1, h2, h3, h4⟩ => ?_
  refine ⟨Nat.le_of_ble_eq_true rfl, fun p hp => ?_⟩
  have s2 := Step.raw s1.ok (o := .lst [.ref f]) hp
  have s3 := s1.trans n.ok s2
  have np : N ≠ p := fun z => by rw [z, hp] at h3; cases h3
  refine hb d hd Wf W0 H0 W1 _ _ D w ⟨(n.env.step s3).setOb i upd_same (nopen s1.ok hp).1 (nopen s1.ok hp).2 (n.st.free0 w (s1.free0 n.ok hp)) (.lam ⟨⟨f, N, o, rfl, h1, h2, by rw [upd_ne np]; exact h3, h4⟩, trivial⟩) fun j es _ hj hs => ?_, s2.ok, n.st.trans w s3, n.fl.trans s1.le⟩ q
  obtain ⟨b, us, g1, g2, _⟩ := n.env.ow j es hj
  rw [g1] at hs
  cases hs
  rw [s1.free0 n.ok hp] at g2
  cases g2
/-- l.append(lambda: ..) -/
theorem ss_lamapp {X : Cx} {k i : Nat} {t : XK → TE} {lds : List LamD} {m : M (Fl T L)} (hi : ρ[i]? = some (.ob (.lam lds))) (hl : lds.length ≤ 1000) (hb : ∀ ld, IsLam X k t ld → SS S own tb (ρ.set i (.ob (.lam (lds ++ [ld])))) enc encL m) :
    SS S own (tSeq (tDrop (tBM S.K "list" rAppend (tVar i) (tCons (tLamV X k t) tNil))) tb) ρ enc encL m := fun Wf W0 H0 W H σ D w n q => by
  obtain ⟨a, u, h1, h2, h3, h4, h5, h6⟩ := n.env.ow i _ hi
  cases h6 with
  | @lam vs _ r =>
  refine ⟨_, h1, .inl ⟨rfl, _, .inl (.inl h2)⟩, ?_⟩
  show tLamV X k t σ H _
  refine lam_kept n.ok fun d f W1 H1 hd s1 hf ⟨N, o, g1, g2, g3, g4⟩ => ?_
  have n1 := n.step w s1
  obtain ⟨b, u', f1, f2, f3, f4, f5, f6⟩ := n1.env.ow i _ hi
  rw [h1] at f1
  cases f1
  have e2 := s1.old a _ h2 h4
  rw [e2] at f2
  cases f2
  cases f6 with
  | lam r1 =>
  refine ⟨a, vs, .ref f, rfl, rfl, e2, Nat.lt_of_le_of_lt (by rw [r1.len]; exact hl) (by decide), ?_⟩
  have up := HoR.upd (K := S.K) (o' := .lst (vs ++ [.ref f])) (soft_lst e2) (.lam (LamsR.snoc ⟨f, N, o, rfl, g1, g2, g3, g4⟩ r1))
  exact hb d hd Wf W0 H0 W1 _ σ D w (n1.putOb hi h1 f3 f4 f5 (soft_lst e2) (fun _ z => nomatch z) up) q
variable {xs : List Str} {F : Str → List D → M D}
theorem said_tt {r : M D} {t : XK → TE} {W : Wd} {H H0 : Hp} {σ : L2.St} {Q : VK} {E' : Exn → Prop} {f : Addr} {o : HO} (h : ∀ E, SE ⟨S.K, S.mg, E⟩ (t E) ρ r) (en : EnvR S.K W H H0 σ ρ) (w : WOk W H) (hf : W.P f = some o) (q : (saidM xs F r).run (Post S.K Q W H) E') :
    TTsaid S.K S.mg xs F (fun E H' Q' => H' f = some o ∧ t E σ H' Q') H Q := by
  refine ⟨w.sub _ _ hf, h _ σ H W H0 _ en w (r.mono (fun d hd => ?_) (fun e he => ?_) q)⟩
  · intro v W' H' s' _
    exact hd _ _ _ s' (.str _)
  · rintro cv dx W' H' s' ⟨C, hC, rfl, hx⟩
    obtain ⟨e2, e3⟩ := he
    refine ⟨xrep_dict (mg := S.mg) (C := C) s'.ok hx, W', e.cls, C, s'.ok, e2, hC, rfl, fun a => (F _ _).mono (fun dd ⟨w1, hd1, hd2⟩ => ⟨w1, hd1, hd2.imp (fun z => ⟨z.1, fun W'' H'' v s'' rv => z.2 v W'' H'' (s'.trans w s'') rv⟩) (fun ⟨i, j, z1, z2, z3, z4⟩ => ?_)⟩) (fun _ z => z) (e3 a)⟩
    rw [z3] at hx
    obtain ⟨d, fs, f1, f2, f3, f4⟩ := hx
    exact ⟨z1, z2, i, j, d, fs, f1, f2, f3, f4, fun W'' H'' v s'' rv => z4 v W'' H'' (s'.trans w s'') rv⟩
theorem saidL_cons (m : M D) (ms : List (M D)) : saidL xs F (m :: ms) = saidM xs F m >>= fun d => saidL xs F ms >>= fun ds => pure (d :: ds) := rfl
theorem said_loop {X : Cx} {k : Nat} {W : Wd} {H H0 : Hp} {σ : L2.St} {Q : VK} {D a : Addr} {vs : List V} {E' : Exn → Prop} (hK : X.K = S.K) (w : WOk W H) (hD : H D = none) (nD : D ≠ a) (out : ∀ (j : Nat) (c : OwnC), ρ[j]? = some (.ob c) → σ[j]? ≠ some (some (.ref D))) :
    ∀ {ts : List (XK → TE)} {ms : List (M Ev.D)} {ds : List LamD} {us pre acc : List V} {W' : Wd} {H' : Hp} {accd : List Ev.D}, vs = pre ++ us → IsLams X k ts ds → LamsR W' H' us ds → SLs S ρ ts ms → Step W H W' H' → EnvR S.K W' H' H0 σ ρ →
      H' a = some (.lst vs) → W'.P a = none → W'.N a = none → H' D = some (.lst acc) → W'.P D = none → W'.N D = none → Reps S.K W' acc accd → accd.length + ms.length ≤ 1000 →
      (saidL xs F ms).run (fun es => PostO S.K Q W H (accd ++ es)) E' → tSdL X k (TTsaid S.K S.mg xs F) σ D a pre.length ts acc H' Q := by
  intro ts
  induction ts with
  | nil =>
    intro ms ds us pre acc W' H' accd hv il r sl st en a1 a2 a3 d1 d2 d3 rs hl q
    cases ds with
    | cons _ _ => exact il.elim
    | nil =>
    cases ms with
    | cons _ _ => exact sl.elim
    | nil =>
    cases us with
    | cons _ _ => exact r.elim
    | nil =>
    refine ⟨⟨vs, .inl (.inl a1), by rw [hv]; simp⟩, ?_⟩
    have q' : PostO S.K Q W H (accd ++ []) := q
    rw [List.append_nil] at q'
    exact q' D acc W' H' st hD d1 d2 d3 rs
  | cons t ts ih =>
    intro ms ds us pre acc W' H' accd hv il r sl st en a1 a2 a3 d1 d2 d3 rs hl q
    cases ds with
    | nil => exact il.elim
    | cons d ds =>
    cases ms with
    | nil => exact sl.elim
    | cons m ms =>
    cases us with
    | nil => exact r.elim
    | cons u us =>
    obtain ⟨⟨f, N, o, rfl, r1, r2, r3, r4⟩, r5⟩ := r
    rw [saidL_cons] at q
    have q : (saidM xs F m).run (fun e => (saidL xs F ms).run (fun es => PostO S.K Q W H (accd ++ (e :: es))) E') E' := q
    refine ⟨vs, d, f, N, o, .inl (.inl a1), by rw [hv]; simp, il.1, r2, r3, st.ok.sub _ _ r1, ?_⟩
    refine said_tt (E' := E') sl.1 en st.ok r1 ((saidM xs F m).mono (fun e he => ?_) (fun _ z => z) q)
    intro v W2 H2 s2 rv
    have keep : ∀ {b : Addr} {ws : List V}, H' b = some (.lst ws) → W'.P b = none → W'.N b = none → H2 b = some (.lst ws) ∧ W2.P b = none ∧ W2.N b = none := fun {b ws} h1 h2 h3 => by
      have nn : H' b ≠ none := by rw [h1]; intro z; cases z
      exact ⟨s2.old b _ h1 h3, (s2.newP b nn).trans h2, (s2.newN b nn).trans h3⟩
    obtain ⟨k1, k2, k3⟩ := keep d1 d2 d3
    obtain ⟨k4, k5, k6⟩ := keep a1 a2 a3
    rw [List.length_cons] at hl
    refine ⟨k1, Nat.lt_of_le_of_lt (show acc.length ≤ 1000 by rw [rs.length]; omega) (by decide), ?_⟩
    have w2 := s2.ok.put (us := acc ++ [v]) k2 k3 k1
    have s3 := st.trans w s2
    have s4 : Step W H W2 (upd H2 D (.lst (acc ++ [v]))) := ⟨s3.le, w2, fun b ob e1 e2 => by rw [upd_ne (ne_of_none e1 hD)]; exact s3.old b ob e1 e2, s3.newP, s3.newN⟩
    have hr : HoR S.K W2 (upd H2 D (.lst (acc ++ [v]))) (.lst us) (.lam ds) := ((HoR.lam (K := S.K) r5).step s2).upd (soft_lst k1)
    cases hr with
    | lam r6 =>
    have := ih (pre := pre ++ [.ref f]) (us := us) (acc := acc ++ [v]) (accd := accd ++ [e]) (by rw [hv]; simp) il.2 r6 sl.2 s4 ((en.step s2).updOut (soft_lst k1) out) (by rw [upd_ne (fun z => nD z.symm)]; exact k4) k5 k6 upd_same k2 k3 ((rs.mono s2.le).append (.cons rv .nil)) (by rw [List.length_append]; simp; omega)
      ((saidL xs F ms).mono (fun es he2 => by
        have he2 : PostO S.K Q W H (accd ++ (e :: es)) := he2
        rw [List.append_assoc]
        exact he2) (fun _ z => z) he)
    rw [List.length_append] at this
    exact this
/-- [x(y) for y in l], what is said of each -/
theorem so_saidL {X : Cx} {k iy j : Nat} {ts : List (XK → TE)} {ms : List (M D)} {lds : List LamD} (hK : X.K = S.K) (hj : ρ[j]? = some (.ob (.lam lds))) (hne : iy ≠ j) (hl : IsLams X k ts lds) (h : SLs S (ρ.set iy .no) ts ms) (hlen : ms.length ≤ 1000) : SO S (tSaid X k (TTsaid S.K S.mg xs F) iy j) ρ (saidL xs F ms) := fun σ H W H0 Q e w q => by
  obtain ⟨a, u, h1, h2, h3, h4, h5, h6⟩ := e.ow j _ hj
  cases h6 with
  | @lam vs _ r =>
  refine ⟨ts, a, h1, ⟨vs, .inl (.inl h2)⟩, fun D hD => ?_⟩
  have s1 := Step.raw w (o := .lst []) hD
  have ne : D ≠ a := fun z => by rw [z, h2] at hD; cases hD
  have nn : H a ≠ none := by rw [h2]; intro z; cases z
  have ew := (e.step s1).wipe [iy]
  have hr : HoR S.K W (upd H D (.lst [])) (.lst vs) (.lam lds) := (HoR.lam (K := S.K) r).step s1
  cases hr with
  | lam r1 =>
  refine said_loop (pre := []) (us := vs) (accd := []) (E' := XPost S W H) hK w hD ne (fun i c hc hs => ?_) rfl hl r1 h s1 ew (by rw [upd_ne (fun z => ne z.symm)]; exact h2) h3 h4 upd_same (nopen w hD).1 (nopen w hD).2 .nil (by simpa using hlen) q
  have hc' := (getElem?_set_no (show (ρ.set iy .no)[i]? = some (.ob c) from hc) (by intro z; cases z)).2
  obtain ⟨b, us, g1, g2, _⟩ := e.ow i c hc'
  have hs' : (σ.set iy none)[i]? = some (some (.ref D)) := hs
  have g3 := (wipe_some (vs := [iy]) hs').1
  rw [g1] at g3
  cases g3
  rw [hD] at g2
  cases g2
end
end Ev

namespace Ev
open PySem PySem.Spec PyProof.Rows L2
variable [Tb]
theorem WOk.freeP {W : Wd} {H : Hp} (w : WOk W H) {a : Addr} (h : H a = none) : W.P a = none := by
  cases z : W.P a with
  | none => rfl
  | some u => rw [w.sub a u z] at h; cases h
theorem WOk.freeN {W : Wd} {H : Hp} (w : WOk W H) {a : Addr} (h : H a = none) : W.N a = none := by
  cases z : W.N a with
  | none => rfl
  | some φ =>
    obtain ⟨o, e, _⟩ := (w.pen a φ z).2
    rw [e] at h; cases h
/-! ### what is popped off a list of one's own -/
section
variable {S : Sx} {own : Bool} {ρ : List Sl} {T L : Type} {enc : T → List Sl} {encL : L → List Sl} {tb : TS}
/-- a list of one's own, written -/
theorem Now.put {Wf W0 W : Wd} {H0 H : Hp} {σ : L2.St} {i : Nat} {ds ds' : List D} {a : Addr} {us us' : List V} (n : Now S Wf W0 H0 W H σ ρ) (hi : ρ[i]? = some (.own ds)) (h1 : σ[i]? = some (some (.ref a))) (h2 : H a = some (.lst us)) (r : Reps S.K W us' ds') :
    Now S Wf W0 H0 W (upd H a (.lst us')) σ (ρ.set i (.own ds')) := by
  have e1 := n.env
  obtain ⟨b, vs, g1, g2, g3, g4, g5, g6⟩ := e1.owL i ds hi
  rw [h1] at g1
  cases g1
  rw [h2] at g2
  cases g2
  have w1 : WOk W (upd H a (.lst us')) := n.ok.put g3 g4 h2
  have nP : ∀ b o, W.P b = some o → b ≠ a := fun b o e z => by subst z; rw [g3] at e; cases e
  refine ⟨⟨fun j d' hj => ?_, fun j es hj => ?_, fun j k es fs b hjk f1 f2 f3 => ?_, by rw [List.length_set, e1.ln]⟩, w1, ⟨n.st.le, w1, fun b o e hnn => ?_, n.st.newP, n.st.newN⟩, n.fl⟩
  · exact e1.dat j d' (getElem?_set_no hj (by intro z; cases z)).2
  · by_cases e : i = j
    · subst e
      rw [List.getElem?_set_self (List.getElem?_eq_some_iff.mp hi).1] at hj
      cases hj
      exact ⟨a, _, h1, upd_same, g3, g4, g5, .lst r⟩
    · rw [List.getElem?_set_ne e] at hj
      obtain ⟨b, zs, f1, f2, f3⟩ := e1.ow j es hj
      have nb : b ≠ a := fun z => by
        subst z
        exact e1.ap i j _ _ b e hi hj h1 f1
      exact ⟨b, zs, f1, by rw [upd_ne nb]; exact f2, f3.1, f3.2.1, f3.2.2.1, f3.2.2.2.upd (soft_lst h2)⟩
  · have get : ∀ {j : Nat} {es : OwnC}, (ρ.set i (.own ds'))[j]? = some (.ob es) → ∃ fs, ρ[j]? = some (.ob fs) := fun {j es} hj => by
      by_cases e : i = j
      · subst e; exact ⟨_, hi⟩
      · rw [List.getElem?_set_ne e] at hj; exact ⟨_, hj⟩
    obtain ⟨_, f1⟩ := get f1
    obtain ⟨_, f2⟩ := get f2
    exact e1.ap j k _ _ b hjk f1 f2 f3
  · rw [upd_ne (ne_of_none e g5)]
    exact n.st.old b o e hnn
theorem Reps.dropLast {K : PySem.W.Frag} {W : Wd} {vs : List V} {ds : List D} (r : Reps K W vs ds) : Reps K W vs.dropLast ds.dropLast := by
  rw [List.dropLast_eq_take, List.dropLast_eq_take, r.length]
  exact r.take _
theorem ss_pop {l : Nat} {g : TG} {ds : List D} {V' : Type} {tg : D → M V'} {ρ' : V' → List Sl} {js : List Nat} {k : V' → M (Fl T L)} (hl : ρ[l]? = some (.own ds)) (hg : SG S g (ρ.set l (.own ds.dropLast)) tg ρ' js) (hb : ∀ t, SS S own tb (ρ' t) enc encL (k t)) :
    SS S own (tSeq (tAsg (tBM0 S.K "list" rPop (tVar l)) g) tb) ρ enc encL (popM ds (fun d => tg d >>= k)) := fun Wf W0 H0 W H σ D w n q => by
  obtain ⟨a, vs, h1, h2, h3, h4, h5, h6⟩ := n.env.owL l ds hl
  refine ⟨_, h1, .inl ⟨rfl, _, .inl (.inl h2)⟩, ?_⟩
  unfold popM at q
  cases e : ds.getLast? with
  | none => rw [e] at q; exact (show False from q).elim
  | some d =>
    rw [e] at q
    rw [List.getLast?_eq_getElem?] at e
    obtain ⟨v, hv, rv⟩ := h6.get e
    rw [← h6.length] at hv
    refine ⟨a, vs, v, rfl, rfl, h2, hv, ?_⟩
    have n1 := n.put hl h1 h2 h6.dropLast
    refine hg d v σ _ W H0 _ _ n1.env n1.ok rv ((tg d).mono (fun t ht σ' e2 _ _ => ?_) (fun _ z => z) q)
    exact hb t Wf W0 H0 W _ σ' D w ⟨e2, n1.ok, n1.st, n1.fl⟩ ht
end
end Ev

/-! Mathematics over M: laws of the mirrors' words. -/
namespace Ev
open PySem (Str PyData)
/-! ### what always comes out -/
def Sat {α : Type} (m : M α) (P : α → Prop) : Prop := m.run P (fun _ => False)
section
variable {α β : Type} {P : α → Prop} {Q : β → Prop} {m : M α} {f : α → M β}
theorem Sat.pur {a : α} (h : P a) : Sat (pure a) P := h
theorem Sat.bind (h : Sat m P) (k : ∀ a, P a → Sat (f a) Q) : Sat (m >>= f) Q := m.mono k (fun _ z => z) h
theorem Sat.mono {P' : α → Prop} (h : Sat m P) (k : ∀ a, P a → P' a) : Sat m P' := m.mono k (fun _ z => z) h
theorem Sat.grd {p : Prop} {k : Unit → M β} (h : p) (s : Sat (k ()) Q) : Sat (guard p >>= k) Q := ⟨h, s⟩
theorem Sat.ite {c : Prop} [Decidable c] {a b : M α} (h : c → Sat a P) (k : ¬c → Sat b P) : Sat (if c then a else b) P := by
  by_cases e : c
  · rw [if_pos e]; exact h e
  · rw [if_neg e]; exact k e
theorem Sat.nox (h : Sat m P) : Sat (nox m) P := h
theorem Sat.drw {k : Bool} {many : Int} (h0 : 0 < many) (h1 : many < 1073741824) : Sat (drawF k [.pen k, .int many]) (fun d => ∃ i : Int, d = .int i ∧ 0 ≤ i ∧ i < many) := by
  show Sat (if k = k then draw many else fail) _
  rw [if_pos rfl]
  exact ⟨⟨h0, h1⟩, fun i a b => ⟨i, rfl, a, b⟩⟩
theorem Sat.of_eq {a : α} (e : m = pure a) (h : P a) : Sat m P := by rw [e]; exact h
end
@[simp] theorem nox_pure {α : Type} (a : α) : nox (pure a : M α) = pure a := M.ext' fun _ _ => Iff.rfl
@[simp] theorem ite_bindM {α β : Type} (c : Prop) [Decidable c] (a b : M α) (f : α → M β) : ((if c then a else b) >>= f) = if c then a >>= f else b >>= f := by
  by_cases e : c
  · rw [if_pos e, if_pos e]
  · rw [if_neg e, if_neg e]
/-! ### the words -/
@[simp] theorem seqL_nil : seqL [] = pure [] := rfl
@[simp] theorem seqL_cons (m : M D) (r : List (M D)) : seqL (m :: r) = m >>= fun x => seqL r >>= fun xs => pure (x :: xs) := rfl
@[simp] theorem bin_def (f : D → D → M D) (a b : M D) : bin f a b = a >>= fun x => b >>= fun y => f x y := rfl
@[simp] theorem callM_def (f : List D → M D) (rs : List (M D)) : callM f rs = seqL rs >>= f := rfl
@[simp] theorem f1_one (g : D → M D) (x : D) : f1 g [x] = g x := rfl
@[simp] theorem f2_two (g : D → D → M D) (x y : D) : f2 g [x, y] = g x y := rfl
@[simp] theorem fo1_one (g : D → M (List D)) (x : D) : fo1 g [x] = g x := rfl
@[simp] theorem asB_def (r : M D) : asB r = r >>= isB := rfl
@[simp] theorem isB_bl (b : Bool) : isB (.bl b) = pure b := rfl
@[simp] theorem andM_def (a b : M Bool) : andM a b = a >>= fun x => if x then b else pure false := rfl
@[simp] theorem orM_def (a b : M Bool) : orM a b = a >>= fun x => if x then pure true else b := rfl
@[simp] theorem notM_def (a : M Bool) : notM a = a >>= fun x => pure (!x) := rfl
@[simp] theorem andV_def (a b : M D) : andV a b = a >>= isB >>= fun k => if k then b else pure (.bl false) := rfl
@[simp] theorem orV_def (a b : M D) : orV a b = a >>= isB >>= fun k => if k then pure (.bl true) else b := rfl
@[simp] theorem notV_def (a : M D) : notV a = a >>= isB >>= fun k => pure (.bl (!k)) := rfl
@[simp] theorem chainM_def (a b c : M D) (f f' : D → D → M D) : chainM a b c f f' = a >>= fun x => b >>= fun y => f x y >>= isB >>= fun k => if k then (c >>= fun z => f' y z) else pure (.bl false) := rfl
@[simp] theorem tupM_def (rs : List (M D)) : tupM rs = seqL rs >>= fun ds => pure (.tup ds) := rfl
@[simp] theorem tg1_def (d : D) : tg1 d = pure d := rfl
@[simp] theorem leave_rt {T L : Type} (d : D) : leave (T := T) (L := L) (pure (.rt d)) = pure (.rt d) := rfl
@[simp] theorem leave_bind {T L α : Type} (m : M α) (f : α → M (Fl Empty L)) : leave (T := T) (m >>= f) = m >>= fun a => leave (f a) := rfl
@[simp] theorem leave_ite {T L : Type} (c : Prop) [Decidable c] (a b : M (Fl Empty L)) : leave (T := T) (if c then a else b) = if c then leave a else leave b := by
  by_cases e : c
  · rw [if_pos e, if_pos e]
  · rw [if_neg e, if_neg e]
@[simp] theorem seqM_nx {S T L : Type} (s : S) (k : S → M (Fl T L)) : seqM (pure (.nx s)) k = k s := rfl
@[simp] theorem seqM_rt {S T L : Type} (d : D) (k : S → M (Fl T L)) : seqM (pure (.rt d) : M (Fl S L)) k = pure (.rt d) := rfl
@[simp] theorem seqM_bind {S T L α : Type} (m : M α) (f : α → M (Fl S L)) (k : S → M (Fl T L)) : seqM (m >>= f) k = m >>= fun a => seqM (f a) k := rfl
@[simp] theorem seqM_ite {S T L : Type} (c : Prop) [Decidable c] (a b : M (Fl S L)) (k : S → M (Fl T L)) : seqM (if c then a else b) k = if c then seqM a k else seqM b k := by
  by_cases e : c
  · rw [if_pos e, if_pos e]
  · rw [if_neg e, if_neg e]
@[simp] theorem endB_rt {L : Type} (own : Bool) (d : D) : endB (L := L) own (pure (.rt d)) = pure d := by cases own <;> rfl
@[simp] theorem endB_nx {L : Type} : endB (L := L) false (pure (.nx ())) = pure .non := rfl
@[simp] theorem endB_bind {L α : Type} (own : Bool) (m : M α) (f : α → M (Fl Unit L)) : endB own (m >>= f) = m >>= fun a => endB own (f a) := by cases own <;> rfl
@[simp] theorem endB_ite {L : Type} (own : Bool) (c : Prop) [Decidable c] (a b : M (Fl Unit L)) : endB own (if c then a else b) = if c then endB own a else endB own b := by
  by_cases e : c
  · rw [if_pos e, if_pos e]
  · rw [if_neg e, if_neg e]
@[simp] theorem asL_lst (xs : List D) : asL (.lst xs) = pure xs := rfl
def asI : D → M (Option Int)
  | .int i => pure (some i)
  | _ => fail
@[simp] theorem asI_int (i : Int) : asI (.int i) = pure (some i) := rfl
@[simp] theorem partM_def (r : M D) : partM r = r >>= asI := by
  unfold partM
  congr 1
@[simp] theorem cutM_def (r : M D) (lo hi : M (Option Int)) (f : D → Option Int → Option Int → M D) : cutM r lo hi f = r >>= fun d => lo >>= fun l => hi >>= fun h => f d l h := rfl
@[simp] theorem cutI_tup (xs : List D) (l h : Option Int) : D.cutI (.tup xs) l h = pure (.tup (cutL xs l h)) := rfl
@[simp] theorem cutI_lst (xs : List D) (l h : Option Int) : D.cutI (.lst xs) l h = pure (.lst (cutL xs l h)) := rfl
@[simp] theorem items_tup (xs : List D) : itemsL (.tup xs) = pure xs := rfl
@[simp] theorem items_lst (xs : List D) : itemsL (.lst xs) = pure xs := rfl
@[simp] theorem items_scr (ns : List Int) : itemsL (.scr ns) = pure (ns.map D.int) := rfl
@[simp] theorem un2_two (a b : D) : un2 (.tup [a, b]) = pure (a, b) := rfl
@[simp] theorem un3_three (a b c : D) : un3 (.tup [a, b, c]) = pure (a, b, c) := rfl
@[simp] theorem rng1_one (r : M D) : rng1 [r] = r >>= range1 := rfl
@[simp] theorem rng2_two (r s : M D) : rng2 [r, s] = r >>= fun a => s >>= fun b => range2 a b := rfl
theorem range1_ok {j : Int} (h : j < 2 ^ 62) (h2 : -(2 ^ 62) ≤ j) : range1 (.int j) = pure (rangeL 0 j) := by
  show (guard _ >>= fun _ => _) = _
  rw [guard_bind (show inR j from ⟨h2, h⟩)]
theorem range2_ok {i j : Int} (h : inR i) (h2 : inR j) : range2 (.int i) (.int j) = pure (rangeL i j) := by
  show (guard _ >>= fun _ => _) = _
  rw [guard_bind ⟨h, h2⟩]
@[simp] theorem parM_two {A : Type} (a b : M D) (k : D → D → M A) : parM [a, b] k = a >>= fun d => b >>= fun e => k d e := rfl
@[simp] theorem par3M_three {A : Type} (a b c : M D) (k : D → D → D → M A) : par3M [a, b, c] k = a >>= fun d => b >>= fun e => c >>= fun f => k d e f := rfl
@[simp] theorem appM_def {A : Type} (ds : List D) (r : M D) (k : D → M A) : appM ds r k = r >>= fun d => guard (ds.length < line) >>= fun _ => k d := rfl
@[simp] theorem extM_def {A : Type} (ds : List D) (r : M D) (k : List D → M A) : extM ds r k = r >>= fun d => asL d >>= fun es => guard (ds.length + es.length ≤ line) >>= fun _ => k es := by
  unfold extM
  congr 1
  funext d
  cases d <;> rfl
@[simp] theorem forF_def {T L V : Type} (rit : M (List D)) (tg : D → M V) (s0 : T) (body : V → T → M (Fl T T)) : forF (L := L) rit tg s0 body = rit >>= fun xs => forM (fun x s => tg x >>= fun v => body v s) xs s0 := rfl
@[simp] theorem isNF_def (x : D) : isNF x .non = pure (.bl x.isN) := rfl
@[simp] theorem notNF_def (x : D) : notNF x .non = pure (.bl (!x.isN)) := rfl
/-! operators on what we know -/
@[simp] theorem len_tup (xs : List D) : D.len (.tup xs) = pure (.int xs.length) := rfl
@[simp] theorem len_lst (xs : List D) : D.len (.lst xs) = pure (.int xs.length) := rfl
@[simp] theorem len_scr (xs : List Int) : D.len (.scr xs) = pure (.int xs.length) := rfl
@[simp] theorem add_int (i j : Int) : D.add (.int i) (.int j) = pure (.int (i + j)) := rfl
@[simp] theorem sub_int (i j : Int) : D.sub (.int i) (.int j) = pure (.int (i - j)) := rfl
@[simp] theorem neg_int (i : Int) : D.neg (.int i) = pure (.int (-i)) := rfl
@[simp] theorem lt_int (i j : Int) : D.lt (.int i) (.int j) = pure (.bl (decide (i < j))) := rfl
@[simp] theorem le_int (i j : Int) : D.le (.int i) (.int j) = pure (.bl (decide (i ≤ j))) := rfl
@[simp] theorem gt_int (i j : Int) : D.gt (.int i) (.int j) = pure (.bl (decide (j < i))) := rfl
@[simp] theorem ge_int (i j : Int) : D.ge (.int i) (.int j) = pure (.bl (decide (j ≤ i))) := rfl
@[simp] theorem toTup_lst (xs : List D) : D.toTup (.lst xs) = pure (.tup xs) := rfl
@[simp] theorem toTup_tup (xs : List D) : D.toTup (.tup xs) = pure (.tup xs) := rfl
@[simp] theorem toLst_lst (xs : List D) : D.toLst (.lst xs) = pure (.lst xs) := rfl
@[simp] theorem toLst_tup (xs : List D) : D.toLst (.tup xs) = pure (.lst xs) := rfl
@[simp] theorem toLst'_lst (xs : List D) : D.toLst' (.lst xs) = pure xs := rfl
@[simp] theorem toLst'_tup (xs : List D) : D.toLst' (.tup xs) = pure xs := rfl
@[simp] theorem toInt_int (i : Int) : D.toInt (.int i) = pure (.int i) := rfl
@[simp] theorem toInt_bl (b : Bool) : D.toInt (.bl b) = pure (.int (if b then 1 else 0)) := rfl
@[simp] theorem max2_int (i j : Int) : D.max2 (.int i) (.int j) = pure (.int (max i j)) := by
  show pure (D.int _) = _
  congr 2
  by_cases h : j > i
  · rw [if_pos h]; omega
  · rw [if_neg h]; omega
@[simp] theorem min2_int (i j : Int) : D.min2 (.int i) (.int j) = pure (.int (min i j)) := by
  show pure (D.int _) = _
  congr 2
  by_cases h : j < i
  · rw [if_pos h]; omega
  · rw [if_neg h]; omega
theorem mod_ok {i j : Int} (h : 0 < j) : D.mod (.int i) (.int j) = pure (.int (i % j)) := by
  show (guard _ >>= fun _ => _) = _
  rw [guard_bind h]
theorem fdiv_ok {i j : Int} (h : 0 < j) (h2 : j < 1073741824) : D.fdiv (.int i) (.int j) = pure (.int (i / j)) := by
  show (guard _ >>= fun _ => _) = _
  rw [guard_bind ⟨h, h2⟩]
theorem mul_ok {i j : Int} (h : smallI i ∨ smallI j) : D.mulA (.int i) (.int j) = pure (.int (i * j)) := by
  show (guard _ >>= fun _ => _) = _
  rw [guard_bind h]
theorem pow_ok {i j : Int} (h : 0 ≤ j ∧ j ≤ 1000000 ∧ i.natAbs < 2 ^ 64) : D.pow (.int i) (.int j) = pure (.int (i ^ j.toNat)) := by
  show (guard _ >>= fun _ => _) = _
  rw [guard_bind h]
theorem line_eq : line = 16777216 := PySem.sizeLine_eq
theorem add_tup {xs ys : List D} (h : xs.length + ys.length ≤ 16777216) : D.add (.tup xs) (.tup ys) = pure (.tup (xs ++ ys)) := by
  show (guard _ >>= fun _ => _) = _
  rw [guard_bind (by rw [line_eq]; exact h)]
theorem add_lst {xs ys : List D} (h : xs.length + ys.length ≤ 16777216) : D.add (.lst xs) (.lst ys) = pure (.lst (xs ++ ys)) := by
  show (guard _ >>= fun _ => _) = _
  rw [guard_bind (by rw [line_eq]; exact h)]
theorem mul_tup {xs : List D} {k : Int} (h : xs.length ≤ 1000 ∧ -1000 ≤ k ∧ k ≤ 1000) : D.mulA (.tup xs) (.int k) = pure (.tup (rep k xs)) := by
  show (if xs ≠ [] ∧ 2 ≤ k then D.mul (.tup xs) (.int k) else guard (-(2 ^ 63) ≤ k ∧ k < 2 ^ 63) >>= fun _ => pure (.tup (rep k xs))) = _
  by_cases c : xs ≠ [] ∧ 2 ≤ k
  · rw [if_pos c]
    show (guard _ >>= fun _ => _) = _
    rw [guard_bind ⟨c.1, c.2, h.2.2, h.1⟩]
  · rw [if_neg c, guard_bind (by omega)]
theorem mul_lst {xs : List D} {k : Int} (h : k ≤ 1000 ∧ xs.length ≤ 1000 ∧ -(2 ^ 63) ≤ k) : D.mulA (.lst xs) (.int k) = pure (.lst (rep k xs)) := by
  show (guard _ >>= fun _ => _) = _
  rw [guard_bind h]
theorem ix_tup {xs : List D} {i : Int} (h0 : 0 ≤ i) (h1 : i < xs.length) : D.ix (.tup xs) (.int i) = pure (xs[i.toNat]'(by omega)) := by
  show ofO (atI' xs i) = _
  unfold atI'
  rw [if_pos h0, if_pos h1, List.getElem?_eq_getElem (by omega)]
  rfl
theorem ix_lst {xs : List D} {i : Int} (h0 : 0 ≤ i) (h1 : i < xs.length) : D.ix (.lst xs) (.int i) = pure (xs[i.toNat]'(by omega)) := by
  show ofO (atI' xs i) = _
  unfold atI'
  rw [if_pos h0, if_pos h1, List.getElem?_eq_getElem (by omega)]
  rfl
theorem ix_scr {xs : List Int} {i : Int} (h0 : 0 ≤ i) (h1 : i < xs.length) : D.ix (.scr xs) (.int i) = pure (.int (xs[i.toNat]'(by omega))) := by
  show (ofO (atI' xs i) >>= _) = _
  unfold atI'
  rw [if_pos h0, if_pos h1, List.getElem?_eq_getElem (by omega)]
  rfl
/-! loops and comprehensions -/
@[simp] theorem forM_nil {S L : Type} (body : D → S → M (Fl S S)) (s : S) : forM (L := L) body [] s = pure (.nx s) := rfl
theorem forM_cons {S L : Type} (body : D → S → M (Fl S S)) (x : D) (r : List D) (s : S) : forM (L := L) body (x :: r) s = body x s >>= fun f => match f with
    | .nx s' => forM body r s'
    | .ct s' => forM body r s'
    | .bk s' => pure (.nx s')
    | .rt d => pure (.rt d) := rfl
/-- a loop that only turns its state -/
theorem forM_fold {S L : Type} {body : D → S → M (Fl S S)} {g : S → D → S} : ∀ {xs : List D} {s : S}, (∀ x ∈ xs, ∀ s, body x s = pure (.nx (g s x))) → forM (L := L) body xs s = pure (.nx (xs.foldl g s))
  | [], s, _ => rfl
  | x :: r, s, h => by
    rw [forM_cons, h x (List.mem_cons_self) s, pure_bind, List.foldl_cons]
    exact forM_fold fun y hy => h y (List.mem_cons_of_mem x hy)
/-- what a loop keeps -/
theorem Sat.for' {S L : Type} {body : D → S → M (Fl S S)} {R : Fl S L → Prop} (Inv : Nat → S → Prop) : ∀ {xs : List D} {s : S} (i : Nat), Inv i s → (∀ k x s, xs[k]? = some x → Inv (i + k) s → Sat (body x s) (fun f => match f with
    | .nx s' => Inv (i + k + 1) s'
    | .ct s' => Inv (i + k + 1) s'
    | .bk s' => R (.nx s')
    | .rt d => R (.rt d))) → (∀ s, Inv (i + xs.length) s → R (.nx s)) → Sat (forM body xs s) R
  | [], s, i, h, _, e => e s h
  | x :: r, s, i, h, b, e => by
    rw [forM_cons]
    refine Sat.bind (b 0 x s rfl h) fun f hf => ?_
    have nxt : ∀ s', Inv (i + 1) s' → Sat (forM (L := L) body r s') R := fun s' hs => Sat.for' Inv (i + 1) hs
      (fun k y s2 hk hi => by
        have hb := b (k + 1) y s2 (by rw [List.getElem?_cons_succ]; exact hk) (by rw [show i + (k + 1) = i + 1 + k by omega]; exact hi)
        rw [show i + (k + 1) + 1 = i + 1 + k + 1 by omega] at hb
        exact hb)
      (fun s2 h2 => e s2 (by rw [List.length_cons, show i + (r.length + 1) = i + 1 + r.length by omega]; exact h2))
    cases f with
    | nx s' => exact nxt s' hf
    | ct s' => exact nxt s' hf
    | bk s' => exact hf
    | rt d => exact hf
/-- .. without counting -/
theorem Sat.for0 {S L : Type} {body : D → S → M (Fl S S)} {R : Fl S L → Prop} (Inv : S → Prop) {xs : List D} {s : S} (h : Inv s) (b : ∀ x ∈ xs, ∀ s, Inv s → Sat (body x s) (fun f => match f with
    | .nx s' => Inv s'
    | .ct s' => Inv s'
    | .bk s' => R (.nx s')
    | .rt d => R (.rt d))) (e : ∀ s, Inv s → R (.nx s)) : Sat (forM body xs s) R :=
  Sat.for' (fun _ s => Inv s) 0 h (fun k x s hk hi => b x (List.mem_of_getElem? hk) s hi) e
theorem lcM_eq {f : D → M (Option D)} {g : D → Option D} : ∀ {xs acc : List D}, (∀ x ∈ xs, f x = pure (g x)) → acc.length + xs.length ≤ 16777216 → lcM f xs acc = pure (acc ++ xs.filterMap g)
  | [], acc, _, _ => by rw [List.filterMap_nil, List.append_nil]; rfl
  | x :: r, acc, h, hl => by
    rw [List.length_cons] at hl
    show (f x >>= _) = _
    rw [h x (List.mem_cons_self), pure_bind]
    cases e : g x with
    | none =>
      rw [List.filterMap_cons_none e]
      exact lcM_eq (fun y hy => h y (List.mem_cons_of_mem x hy)) (by omega)
    | some y =>
      rw [List.filterMap_cons_some e]
      show (guard _ >>= fun _ => _) = _
      rw [guard_bind (by rw [line_eq]; omega), lcM_eq (fun y hy => h y (List.mem_cons_of_mem x hy)) (by rw [List.length_append]; simp; omega)]
      simp
/-- a comprehension over known things -/
theorem lcF_eq {T : Type} {rit : M (List D)} {xs : List D} {tg : D → M T} {rt : T → M Bool} {re : T → M D} {t : D → T} {p : D → Bool} {g : D → D} (h0 : rit = pure xs) (hl : xs.length ≤ 16777216) (h1 : ∀ x ∈ xs, tg x = pure (t x)) (h2 : ∀ x ∈ xs, rt (t x) = pure (p x)) (h3 : ∀ x ∈ xs, p x = true → re (t x) = pure (g x)) :
    lcF rit tg rt re = pure ((xs.filter p).map g) := by
  unfold lcF
  rw [h0, pure_bind, lcM_eq (g := fun x => if p x then some (g x) else none) (fun x hx => ?_) (by simpa using hl), nox_pure]
  · congr 1
    rw [List.nil_append]
    clear h0 hl h1 h2 h3
    induction xs with
    | nil => rfl
    | cons x r ih =>
      by_cases e : p x = true
      · rw [List.filter_cons_of_pos e, List.map_cons, List.filterMap_cons_some (by rw [if_pos e]), ih]
      · rw [List.filter_cons_of_neg e, List.filterMap_cons_none (by rw [if_neg e]), ih]
  · rw [h1 x hx, pure_bind, lcIf, h2 x hx, pure_bind]
    by_cases e : p x = true
    · rw [if_pos e, if_pos e, h3 x hx e, pure_bind]
    · rw [if_neg e, if_neg e]
theorem lcF_map {T : Type} {rit : M (List D)} {xs : List D} {tg : D → M T} {re : T → M D} {t : D → T} {g : D → D} (h0 : rit = pure xs) (hl : xs.length ≤ 16777216) (h1 : ∀ x ∈ xs, tg x = pure (t x)) (h3 : ∀ x ∈ xs, re (t x) = pure (g x)) :
    lcF rit tg (fun _ => pure true) re = pure (xs.map g) := by
  rw [lcF_eq (p := fun _ => true) h0 hl h1 (fun _ _ => rfl) (fun x hx _ => h3 x hx)]
  congr 2
  exact List.filter_eq_self.mpr fun _ _ => rfl
theorem Sat.lcM {f : D → M (Option D)} {P : D → Prop} {n : Nat} : ∀ {xs acc : List D}, (∀ x ∈ xs, Sat (f x) (fun o => ∃ y, o = some y ∧ P y)) → acc.length + xs.length = n → n ≤ 16777216 → (∀ y ∈ acc, P y) → Sat (lcM f xs acc) (fun ys => ys.length = n ∧ ∀ y ∈ ys, P y)
  | [], acc, _, hl, _, ha => ⟨by simpa using hl, ha⟩
  | x :: r, acc, h, hl, hn, ha => by
    rw [List.length_cons] at hl
    refine Sat.bind (h x (List.mem_cons_self)) fun o ho => ?_
    obtain ⟨y, rfl, hy⟩ := ho
    refine Sat.grd (by rw [line_eq]; omega) (Sat.lcM (fun y hy => h y (List.mem_cons_of_mem x hy)) (by rw [List.length_append]; simp; omega) hn fun z hz => ?_)
    rcases List.mem_append.mp hz with z1 | z1
    · exact ha z z1
    · rw [List.mem_singleton.mp z1]; exact hy
/-- a comprehension that draws -/
theorem Sat.lcF {T : Type} {rit : M (List D)} {xs : List D} {tg : D → M T} {re : T → M D} {t : D → T} {P : D → Prop} (h0 : rit = pure xs) (hl : xs.length ≤ 16777216) (h1 : ∀ x ∈ xs, tg x = pure (t x)) (h3 : ∀ x ∈ xs, Sat (re (t x)) P) :
    Sat (lcF rit tg (fun _ => pure true) re) (fun ys => ys.length = xs.length ∧ ∀ y ∈ ys, P y) := by
  unfold Ev.lcF
  rw [h0, pure_bind]
  refine Sat.nox (Sat.lcM (fun x hx => ?_) (by simp) hl (by simp))
  rw [h1 x hx, pure_bind, lcIf, pure_bind, if_pos rfl]
  exact Sat.bind (h3 x hx) fun y hy => ⟨y, rfl, hy⟩
theorem rangeL_length (a b : Int) : (rangeL a b).length = (b - a).toNat := by
  unfold rangeL
  rw [List.length_map, List.length_range]
theorem rangeL_mem {a b : Int} {d : D} : d ∈ rangeL a b ↔ ∃ i : Int, d = .int i ∧ a ≤ i ∧ i < b := by
  unfold rangeL
  rw [List.mem_map]
  constructor
  · rintro ⟨k, hk, rfl⟩
    rw [List.mem_range] at hk
    exact ⟨_, rfl, by omega, by omega⟩
  · rintro ⟨i, rfl, h1, h2⟩
    exact ⟨(i - a).toNat, List.mem_range.mpr (by omega), by congr 1; omega⟩
theorem boolsL_map {α : Type} (f : α → Bool) : ∀ xs : List α, boolsL (xs.map fun x => D.bl (f x)) = some (xs.map f)
  | [] => rfl
  | x :: r => by simp [boolsL, boolsL_map f r]
theorem intsL_map {α : Type} (f : α → Int) : ∀ xs : List α, intsL (xs.map fun x => D.int (f x)) = some (xs.map f)
  | [] => rfl
  | x :: r => by simp [intsL, intsL_map f r]
theorem all_map {α : Type} (f : α → Bool) (xs : List α) : D.all (.lst (xs.map fun x => D.bl (f x))) = pure (.bl (xs.all f)) := by
  show (ofO (boolsL _) >>= _) = _
  rw [boolsL_map]
  show pure (D.bl _) = _
  rw [List.all_map]
  rfl
theorem any_map {α : Type} (f : α → Bool) (xs : List α) : D.any (.lst (xs.map fun x => D.bl (f x))) = pure (.bl (xs.any f)) := by
  show (ofO (boolsL _) >>= _) = _
  rw [boolsL_map]
  show pure (D.bl _) = _
  rw [List.any_map]
  rfl
/-- a loop that leaves at the first thing of a kind -/
theorem forM_any {S L : Type} {body : D → S → M (Fl S S)} {p : D → Bool} {d : D} : ∀ {xs : List D} {s : S}, (∀ x ∈ xs, ∀ s, body x s = if p x = true then pure (.rt d) else pure (.nx s)) → forM (L := L) body xs s = if xs.any p = true then pure (.rt d) else pure (.nx s)
  | [], s, _ => rfl
  | x :: r, s, h => by
    rw [forM_cons, h x (List.mem_cons_self) s]
    by_cases e : p x = true
    · rw [if_pos e, pure_bind, if_pos (by rw [List.any_cons, e]; rfl)]
    · rw [if_neg e, pure_bind, List.any_cons, Bool.eq_false_iff.mpr e, Bool.false_or]
      exact forM_any fun y hy => h y (List.mem_cons_of_mem x hy)
theorem plains_mem {k : Bool} {xs : List D} (h : D.plains k xs = true) : ∀ x ∈ xs, x.plain k = true := by
  rw [D.plains_all] at h
  exact List.all_eq_true.mp h
/-! one name as the target -/
theorem lcF_map1 {xs : List D} {re : D → M D} (g : D → D) (hl : xs.length ≤ 16777216) (h3 : ∀ x ∈ xs, re x = pure (g x)) : lcF (pure xs) tg1 (fun _ => pure true) re = pure (xs.map g) :=
  lcF_map (t := id) rfl hl (fun _ _ => rfl) h3
theorem lcF_eq1 {xs : List D} {rt : D → M Bool} {re : D → M D} (p : D → Bool) (g : D → D) (hl : xs.length ≤ 16777216) (h2 : ∀ x ∈ xs, rt x = pure (p x)) (h3 : ∀ x ∈ xs, p x = true → re x = pure (g x)) : lcF (pure xs) tg1 rt re = pure ((xs.filter p).map g) :=
  lcF_eq (t := id) rfl hl (fun _ _ => rfl) h2 h3
theorem Sat.lcF1 {xs : List D} {re : D → M D} {P : D → Prop} (hl : xs.length ≤ 16777216) (h3 : ∀ x ∈ xs, Sat (re x) P) : Sat (Ev.lcF (pure xs) tg1 (fun _ => pure true) re) (fun ys => ys.length = xs.length ∧ ∀ y ∈ ys, P y) :=
  Sat.lcF (t := id) rfl hl (fun _ _ => rfl) h3
/-- .. over a range -/
theorem lcF_rng {a b : Int} {re : D → M D} (g : Int → D) (hl : b - a ≤ 16777216) (h3 : ∀ i : Int, a ≤ i → i < b → re (.int i) = pure (g i)) : lcF (pure (rangeL a b)) tg1 (fun _ => pure true) re = pure ((List.range (b - a).toNat).map fun k : Nat => g (a + k)) := by
  rw [lcF_map1 (fun d => match d with | .int i => g i | _ => d) (by rw [rangeL_length]; omega) fun x hx => ?_]
  · unfold rangeL
    rw [List.map_map]
    rfl
  · obtain ⟨i, rfl, h1, h2⟩ := rangeL_mem.mp hx
    exact h3 i h1 h2
theorem cutL_le {α : Type} (xs : List α) (l h : Option Int) : (cutL xs l h).length ≤ xs.length := by
  unfold cutL
  rw [List.length_take, List.length_drop]
  omega
theorem cutL_mem {α : Type} {xs : List α} {l h : Option Int} {x : α} (m : x ∈ cutL xs l h) : x ∈ xs := List.mem_of_mem_drop (List.mem_of_mem_take m)
theorem rep_length {α : Type} (k : Int) (xs : List α) : (rep k xs).length = k.toNat * xs.length := by
  unfold rep
  induction k.toNat with
  | zero => simp
  | succ n ih => rw [List.replicate_succ, List.flatten_cons, List.length_append, ih, Nat.succ_mul, Nat.add_comm]
theorem rep_mem {α : Type} {k : Int} {xs : List α} {x : α} (m : x ∈ rep k xs) : x ∈ xs := by
  unfold rep at m
  rw [List.mem_flatten] at m
  obtain ⟨l, h1, h2⟩ := m
  rw [(List.mem_replicate.mp h1).2] at h2
  exact h2
/-! blocks and ends -/
theorem Sat.seq {S T L : Type} {m : M (Fl S L)} {k : S → M (Fl T L)} {R : Fl T L → Prop} (h : Sat m (fun f => match f with
    | .nx s => Sat (k s) R
    | .rt d => R (.rt d)
    | .bk l => R (.bk l)
    | .ct l => R (.ct l))) : Sat (seqM m k) R := Sat.bind h fun f hf => by
  cases f with
  | nx s => exact hf
  | rt d => exact hf
  | bk l => exact hf
  | ct l => exact hf
theorem Sat.endseq {S : Type} {own : Bool} {m : M (Fl S Empty)} {k : S → M (Fl Unit Empty)} {P : D → Prop} (h : Sat m (fun f => match f with
    | .nx s => Sat (endB own (k s)) P
    | .rt d => P d
    | .bk _ => False
    | .ct _ => False)) : Sat (endB own (seqM m k)) P := by
  have key : ∀ f : Fl S Empty, (match f with
    | .nx s => Sat (endB own (k s)) P
    | .rt d => P d
    | .bk _ => False
    | .ct _ => False) → Sat (endB own (seqM (pure f) k)) P := fun f hf => by
    cases f with
    | nx s => exact hf
    | rt d => rw [seqM_rt, endB_rt]; exact hf
    | bk l => exact l.elim
    | ct l => exact l.elim
  cases own with
  | false => exact m.mono (fun f hf => key f hf) (fun _ z => z) h
  | true => exact m.mono (fun f hf => key f hf) (fun _ z => z) h
/-! loops that run through -/
theorem forM_run {S L : Type} {body : D → S → M (Fl S S)} : ∀ {xs : List D} (st : Nat → S) {s : S}, s = st 0 → (∀ i x, xs[i]? = some x → body x (st i) = pure (.nx (st (i + 1)))) → forM (L := L) body xs s = pure (.nx (st xs.length))
  | [], st, s, h0, _ => by rw [h0]; rfl
  | x :: r, st, s, h0, h => by
    rw [forM_cons, h0, h 0 x rfl, pure_bind]
    exact forM_run (fun i => st (i + 1)) rfl fun i y hy => h (i + 1) y (by rw [List.getElem?_cons_succ]; exact hy)
theorem rangeL_get {a b : Int} {i : Nat} {x : D} (h : (rangeL a b)[i]? = some x) : i < (b - a).toNat ∧ x = .int (a + i) := by
  have hl : i < (rangeL a b).length := (List.getElem?_eq_some_iff.mp h).1
  rw [rangeL_length] at hl
  refine ⟨hl, ?_⟩
  unfold rangeL at h
  rw [List.getElem?_map, List.getElem?_range hl] at h
  exact (Option.some.inj h).symm
theorem forM_rng {S L : Type} {body : D → S → M (Fl S S)} {a b : Int} (st : Nat → S) {s : S} (h0 : s = st 0) (h : ∀ i : Nat, i < (b - a).toNat → body (.int (a + i)) (st i) = pure (.nx (st (i + 1)))) : forM (L := L) body (rangeL a b) s = pure (.nx (st (b - a).toNat)) := by
  rw [forM_run st h0 fun i x hx => ?_, rangeL_length]
  obtain ⟨h1, rfl⟩ := rangeL_get hx
  exact h i h1
theorem forM_rng0 {S L : Type} {body : D → S → M (Fl S S)} {n : Nat} (st : Nat → S) {s : S} (h0 : s = st 0) (h : ∀ i : Nat, i < n → body (.int i) (st i) = pure (.nx (st (i + 1)))) : forM (L := L) body (rangeL 0 n) s = pure (.nx (st n)) := by
  rw [forM_rng st h0 fun i hi => ?_]
  · rw [show ((n : Int) - 0).toNat = n by omega]
  · rw [Int.zero_add]
    exact h i (by omega)
theorem lcF_rng0 {n : Nat} {re : D → M D} (g : Nat → D) (hl : n ≤ 16777216) (h3 : ∀ i : Nat, i < n → re (.int i) = pure (g i)) : lcF (pure (rangeL 0 n)) tg1 (fun _ => pure true) re = pure ((List.range n).map g) := by
  rw [lcF_rng (fun i => g i.toNat) (by omega) fun i h1 h2 => ?_]
  · rw [show ((n : Int) - 0).toNat = n by omega]
    congr 1
    apply List.map_congr_left
    intro k _
    congr 1
    omega
  · have := h3 i.toNat (by omega)
    rw [show ((i.toNat : Nat) : Int) = i by omega] at this
    exact this
theorem filter_lt {p : Nat → Bool} {k : Nat} : ∀ {m : Nat}, k ≤ m → (∀ j, j < m → (p j = true ↔ j < k)) → (List.range m).filter p = List.range k
  | 0, hk, _ => by
    rw [show k = 0 by omega]
    rfl
  | m + 1, hk, h => by
    rw [List.range_succ, List.filter_append]
    by_cases e : k = m + 1
    · have e1 : p m = true := (h m (by omega)).mpr (by omega)
      rw [List.filter_cons_of_pos e1, List.filter_nil, e, List.range_succ]
      congr 1
      exact List.filter_eq_self.mpr fun j hj => (h j (by rw [List.mem_range] at hj; omega)).mpr (by rw [List.mem_range] at hj; omega)
    · have e1 : ¬ p m = true := fun z => by have := (h m (by omega)).mp z; omega
      rw [List.filter_cons_of_neg e1, List.filter_nil, List.append_nil]
      exact filter_lt (by omega) fun j hj => h j (by omega)
theorem grd_line {α : Type} {n : Nat} (h : n ≤ 16777216) (k : Unit → M α) : (guard (n ≤ line) >>= k) = k () := guard_bind (by rw [line_eq]; exact h) k
theorem grd_line' {α : Type} {n : Nat} (h : n < 16777216) (k : Unit → M α) : (guard (n < line) >>= k) = k () := guard_bind (by rw [line_eq]; exact h) k
@[simp] theorem ix_zero (x : D) (r : List D) : D.ix (.lst (x :: r)) (.int 0) = pure x := by
  rw [ix_lst (Int.le_refl 0) (by rw [List.length_cons]; omega)]
  rfl
@[simp] theorem ix_zeroT (x : D) (r : List D) : D.ix (.tup (x :: r)) (.int 0) = pure x := by
  rw [ix_tup (Int.le_refl 0) (by rw [List.length_cons]; omega)]
  rfl
theorem minmax_all (x : Int) (r : List Int) : decide (r.foldl min x = r.foldl max x) = (x :: r).all fun y => decide (y = x) := by
  obtain ⟨m1, m2⟩ := foldl_min_mem r x
  obtain ⟨n1, n2⟩ := foldl_max_mem r x
  rw [Bool.eq_iff_iff, decide_eq_true_iff, List.all_eq_true]
  constructor
  · intro e y hy
    have a := m2 y hy
    have b := n2 y hy
    have c := m2 x (List.mem_cons_self)
    have d := n2 x (List.mem_cons_self)
    exact decide_eq_true (by omega)
  · intro h
    have a := of_decide_eq_true (h _ m1)
    have b := of_decide_eq_true (h _ n1)
    omega
/-! enumerate -/
@[simp] theorem enumM_tup (xs : List D) : enumM (pure (.tup xs)) = pure (enumL xs) := rfl
@[simp] theorem enumM_lst (xs : List D) : enumM (pure (.lst xs)) = pure (enumL xs) := rfl
def pairOf : D → D × D
  | .tup [a, b] => (a, b)
  | d => (d, d)
theorem lcF_enum {xs : List D} {rt : D × D → M Bool} {re : D × D → M D} (p : Nat → Bool) (g : Nat → D) (hl : xs.length ≤ 16777216) (h : ∀ (i : Nat) (x : D), xs[i]? = some x → rt (.int i, x) = pure (p i) ∧ (p i = true → re (.int i, x) = pure (g i))) :
    lcF (pure (enumL xs)) un2 rt re = pure (((List.range xs.length).filter p).map g) := by
  let ix : D → Nat := fun d => match d with | .tup [.int i, _] => i.toNat | _ => 0
  have key : ∀ x ∈ enumL xs, ∃ (i : Nat) (z : D), xs[i]? = some z ∧ x = .tup [.int i, z] ∧ ix x = i := fun x hx => by
    obtain ⟨i, hi⟩ := List.mem_iff_getElem?.mp hx
    obtain ⟨z, h1, rfl⟩ := enumL_get hi
    exact ⟨i, z, h1, rfl, by simp [ix]⟩
  rw [lcF_eq (t := pairOf) (p := fun d => p (ix d)) (g := fun d => g (ix d)) rfl (by rw [enumL_len]; exact hl) (fun x hx => ?_) (fun x hx => ?_) (fun x hx hp => ?_)]
  · congr 1
    unfold enumL
    rw [List.filter_map, List.map_map]
    have e : ∀ i : Nat, ix (D.tup [D.int (i : Nat), xs.getD i .non]) = i := fun i => by simp [ix]
    have e1 : ((fun d => g (ix d)) ∘ fun i : Nat => D.tup [D.int (i : Nat), xs.getD i .non]) = g := funext fun i => congrArg g (e i)
    have e2 : ((fun d => p (ix d)) ∘ fun i : Nat => D.tup [D.int (i : Nat), xs.getD i .non]) = p := funext fun i => congrArg p (e i)
    rw [e1, e2]
  · obtain ⟨i, z, h1, rfl, e⟩ := key x hx
    rfl
  · obtain ⟨i, z, h1, rfl, e⟩ := key x hx
    rw [e]
    exact (h i z h1).1
  · obtain ⟨i, z, h1, rfl, e⟩ := key x hx
    rw [e] at hp ⊢
    exact (h i z h1).2 hp
/-- a loop over enumerate -/
theorem forM_enum {S L : Type} {body : D → S → M (Fl S S)} {xs : List D} (st : Nat → S) {s : S} (h0 : s = st 0) (h : ∀ (i : Nat) (x : D), xs[i]? = some x → body (.tup [.int i, x]) (st i) = pure (.nx (st (i + 1)))) : forM (L := L) body (enumL xs) s = pure (.nx (st xs.length)) := by
  rw [forM_run st h0 fun i x hx => ?_, enumL_len]
  obtain ⟨z, h1, rfl⟩ := enumL_get hx
  exact h i z h1
theorem stepL_mem {α : Type} {xs : List α} {lo hi : Option Int} {st : Int} {x : α} (h : x ∈ stepL xs lo hi st) : x ∈ xs := by
  unfold stepL at h
  rw [List.mem_filterMap] at h
  obtain ⟨k, _, e⟩ := h
  exact List.mem_of_getElem? e
theorem stepL_map {α β : Type} (f : α → β) (xs : List α) (lo hi : Option Int) (st : Int) : stepL (xs.map f) lo hi st = (stepL xs lo hi st).map f := by
  unfold stepL
  rw [List.length_map, List.map_filterMap]
  congr 1
  funext k
  rw [List.getElem?_map]
theorem cutL_map {α β : Type} (f : α → β) (xs : List α) (lo hi : Option Int) : cutL (xs.map f) lo hi = (cutL xs lo hi).map f := by
  unfold cutL
  rw [List.length_map, List.map_take, List.map_drop]
theorem stepL_len2 {α : Type} (xs : List α) {st : Int} (h : 0 < st) : (stepL xs none none st).length ≤ xs.length := by
  refine Nat.le_trans (List.length_filterMap_le _ _) ?_
  rw [List.length_range]
  unfold PySem.Builtin.Slice.slicePlaces PySem.Builtin.Slice.sliceAdjust
  simp only [show ¬ st < 0 by omega, if_false, if_pos h]
  by_cases c : (0 : Int) < xs.length
  · rw [if_pos c]
    have : ((xs.length : Int) - 0 - 1) / st ≤ (xs.length : Int) - 0 - 1 := Int.ediv_le_self _ (by omega)
    omega
  · rw [if_neg c]
    omega
end Ev

/-! Data: kinds, equality, texts of things. -/
namespace Ev
open PySem (Str PyData)
@[simp] theorem isaM_non (t : Ty) : isaM t .non = pure (.bl false) := rfl
@[simp] theorem isaM_bl (t : Ty) (b : Bool) : isaM t (.bl b) = pure (.bl (t == .bool || t == .int)) := rfl
@[simp] theorem isaM_int (t : Ty) (i : Int) : isaM t (.int i) = pure (.bl (t == .int)) := rfl
@[simp] theorem isaM_str (t : Ty) (i : Str) : isaM t (.str i) = pure (.bl (t == .str)) := rfl
@[simp] theorem isaM_tup (t : Ty) (i : List D) : isaM t (.tup i) = pure (.bl (t == .tuple)) := rfl
@[simp] theorem isaM_lst (t : Ty) (i : List D) : isaM t (.lst i) = pure (.bl (t == .list)) := rfl
@[simp] theorem isaM_dct (t : Ty) (i : List (Sum Int Str × D)) : isaM t (.dct i) = pure (.bl (t == .dict)) := rfl
@[simp] theorem isN_non : D.isN .non = true := rfl
@[simp] theorem isN_bl (b : Bool) : D.isN (.bl b) = false := rfl
@[simp] theorem isN_int (b : Int) : D.isN (.int b) = false := rfl
@[simp] theorem isN_str (b : Str) : D.isN (.str b) = false := rfl
@[simp] theorem isN_tup (b : List D) : D.isN (.tup b) = false := rfl
@[simp] theorem isN_lst (b : List D) : D.isN (.lst b) = false := rfl
/-- a thing whose kind is known -/
def D.kn : D → Prop
  | .pen _ | .scr _ | .opq _ => False
  | _ => True
theorem kn_of_plain {k : Bool} {d : D} (h : d.plain k = true) : d.kn := by
  cases d <;> simp_all [D.plain, D.kn]

/-! ### what may be compared -/
def D.cm (n : Nat) (d : D) : Prop := d.plain false = true ∧ d.py.canLay0 = true ∧ d.py.depth ≤ n
theorem cm_non (n : Nat) : D.cm n .non := ⟨rfl, by simp [D.py, PyData.canLay0], by simp [D.py, PyData.depth]⟩
theorem cm_bl (n : Nat) (b : Bool) : D.cm n (.bl b) := ⟨rfl, by simp [D.py, PyData.canLay0], by simp [D.py, PyData.depth]⟩
theorem cm_int (n : Nat) (b : Int) : D.cm n (.int b) := ⟨rfl, by simp [D.py, PyData.canLay0], by simp [D.py, PyData.depth]⟩
theorem cm_str (n : Nat) (b : Str) (h : PyData.strOk b = true) : D.cm n (.str b) := ⟨rfl, by simp [D.py, PyData.canLay0, h], by simp [D.py, PyData.depth]⟩
theorem cms {n : Nat} : ∀ {xs : List D}, (∀ x ∈ xs, x.cm n) → D.plains false xs = true ∧ PyData.canLayAll0 (D.pys xs) = true ∧ PyData.depthAll (D.pys xs) ≤ n
  | [], _ => ⟨rfl, by simp [D.pys, PyData.canLayAll0], by simp [D.pys, PyData.depthAll]⟩
  | x :: r, h => by
    obtain ⟨a, b, c⟩ := h x (List.mem_cons_self)
    obtain ⟨d, e, f⟩ := cms fun y hy => h y (List.mem_cons_of_mem x hy)
    exact ⟨by simp [D.plains, a, d], by simp [D.pys, PyData.canLayAll0, b, e], by simp [D.pys, PyData.depthAll]; omega⟩
theorem cm_tup {n : Nat} {xs : List D} (h : ∀ x ∈ xs, x.cm n) : D.cm (n + 1) (.tup xs) := by
  obtain ⟨a, b, c⟩ := cms h
  exact ⟨by simpa [D.plain] using a, by simpa [D.py, PyData.canLay0] using b, by simpa [D.py, PyData.depth] using c⟩
theorem cm_lst {n : Nat} {xs : List D} (h : ∀ x ∈ xs, x.cm n) : D.cm (n + 1) (.lst xs) := by
  obtain ⟨a, b, c⟩ := cms h
  exact ⟨by simpa [D.plain] using a, by simpa [D.py, PyData.canLay0] using b, by simpa [D.py, PyData.depth] using c⟩
theorem cm_mono {m n : Nat} {d : D} (h : d.cm m) (l : m ≤ n) : d.cm n := ⟨h.1, h.2.1, Nat.le_trans h.2.2 l⟩
theorem cm_cmp {n : Nat} {d : D} (h : d.cm n) (l : n ≤ 64) : d.cmp = true := by
  unfold D.cmp
  rw [h.1, h.2.1, decide_eq_true (Nat.le_trans h.2.2 l)]
  rfl
/-- .. then == says whether they are equal -/
theorem eqA_cm {n : Nat} {a b : D} (h : a.cm n) (k : b.cm n) (l : n ≤ 64) : D.eqA a b = pure (.bl (a.eqv b)) := by
  unfold D.eqA
  split
  · congr 2
  · unfold D.eq
    rw [guard_bind ⟨cm_cmp h l, cm_cmp k l⟩]
theorem neA_cm {n : Nat} {a b : D} (h : a.cm n) (k : b.cm n) (l : n ≤ 64) : D.neA a b = pure (.bl (!a.eqv b)) := by
  unfold D.neA
  split
  · congr 3
  · unfold D.ne
    rw [guard_bind ⟨cm_cmp h l, cm_cmp k l⟩]
@[simp] theorem eqA_int (i j : Int) : D.eqA (.int i) (.int j) = pure (.bl (decide (i = j))) := by
  rw [eqA_cm (cm_int 0 i) (cm_int 0 j) (by decide)]
  congr 2
@[simp] theorem neA_int (i j : Int) : D.neA (.int i) (.int j) = pure (.bl (!decide (i = j))) := by
  rw [neA_cm (cm_int 0 i) (cm_int 0 j) (by decide)]
  congr 3
@[simp] theorem eqA_bl (i j : Bool) : D.eqA (.bl i) (.bl j) = pure (.bl (i == j)) := by
  rw [eqA_cm (cm_bl 0 i) (cm_bl 0 j) (by decide)]
  simp only [D.eqv, D.py, PyData.eqv]
@[simp] theorem neA_bl (i j : Bool) : D.neA (.bl i) (.bl j) = pure (.bl (!(i == j))) := by
  rw [neA_cm (cm_bl 0 i) (cm_bl 0 j) (by decide)]
  simp only [D.eqv, D.py, PyData.eqv]
@[simp] theorem eqA_str (i j : Str) : D.eqA (.str i) (.str j) = pure (.bl (decide (i = j))) := rfl
@[simp] theorem neA_str (i j : Str) : D.neA (.str i) (.str j) = pure (.bl (!decide (i = j))) := rfl
/-- data told by something that has its own equality -/
structure Enc {α : Type} [DecidableEq α] (n : Nat) (f : α → D) : Prop where
  cm : ∀ a, (f a).cm n
  eq : ∀ a b, (f a).eqv (f b) = decide (a = b)
section
variable {α β : Type} [DecidableEq α] [DecidableEq β] {f : α → D} {g : β → D} {n : Nat}
theorem Enc.eqA (e : Enc n f) (h : n ≤ 64) (a b : α) : D.eqA (f a) (f b) = pure (.bl (decide (a = b))) := by
  rw [eqA_cm (e.cm a) (e.cm b) h, e.eq]
theorem Enc.neA (e : Enc n f) (h : n ≤ 64) (a b : α) : D.neA (f a) (f b) = pure (.bl (!decide (a = b))) := by
  rw [neA_cm (e.cm a) (e.cm b) h, e.eq]
theorem enc_int (n : Nat) : Enc n D.int := ⟨cm_int n, fun a b => by
  simp only [D.eqv, D.py, PyData.eqv]
  rw [Bool.eq_iff_iff]
  simp⟩
theorem eqvAll_map (h : ∀ a b, (f a).eqv (f b) = decide (a = b)) : ∀ xs ys : List α, PyData.eqvAll (D.pys (xs.map f)) (D.pys (ys.map f)) = decide (xs = ys)
  | [], [] => by simp [D.pys, PyData.eqvAll]
  | [], y :: ys => by simp [D.pys, PyData.eqvAll]
  | x :: xs, [] => by simp [D.pys, PyData.eqvAll]
  | x :: xs, y :: ys => by
    simp only [List.map_cons, D.pys, PyData.eqvAll]
    rw [eqvAll_map h xs ys]
    rw [show PyData.eqv (f x).py (f y).py = decide (x = y) from h x y]
    rw [Bool.eq_iff_iff]
    simp
theorem Enc.tup (e : Enc n f) : Enc (n + 1) (fun xs : List α => D.tup (xs.map f)) := ⟨fun a => cm_tup fun x hx => by
  obtain ⟨y, _, rfl⟩ := List.mem_map.mp hx
  exact e.cm y, fun a b => by
  simp only [D.eqv, D.py, PyData.eqv]
  exact eqvAll_map e.eq a b⟩
theorem Enc.lst (e : Enc n f) : Enc (n + 1) (fun xs : List α => D.lst (xs.map f)) := ⟨fun a => cm_lst fun x hx => by
  obtain ⟨y, _, rfl⟩ := List.mem_map.mp hx
  exact e.cm y, fun a b => by
  simp only [D.eqv, D.py, PyData.eqv]
  exact eqvAll_map e.eq a b⟩
theorem Enc.pair (e : Enc n f) (e2 : Enc n g) : Enc (n + 1) (fun p : α × β => D.tup [f p.1, g p.2]) := ⟨fun a => cm_tup fun x hx => by
  rcases List.mem_cons.mp hx with rfl | hx
  · exact e.cm _
  · rw [List.mem_singleton.mp hx]
    exact e2.cm _, fun a b => by
  simp only [D.eqv, D.py, PyData.eqv, D.pys, PyData.eqvAll]
  rw [show PyData.eqv (f a.1).py (f b.1).py = decide (a.1 = b.1) from e.eq _ _, show PyData.eqv (g a.2).py (g b.2).py = decide (a.2 = b.2) from e2.eq _ _, Bool.eq_iff_iff]
  simp [Prod.ext_iff]⟩
end
/-- tuples of numbers -/
def ti (xs : List Int) : D := .tup (xs.map .int)
theorem enc_ti (n : Nat) : Enc (n + 1) ti := (enc_int n).tup
/-- lists of them -/
def lti (xs : List (List Int)) : D := .lst (xs.map ti)
theorem enc_lti (n : Nat) : Enc (n + 2) lti := (enc_ti n).lst
def li (xs : List Int) : D := .lst (xs.map .int)
theorem enc_li (n : Nat) : Enc (n + 1) li := (enc_int n).lst
@[simp] theorem eqA_ti (a b : List Int) : D.eqA (ti a) (ti b) = pure (.bl (decide (a = b))) := (enc_ti 0).eqA (by decide) a b
@[simp] theorem neA_ti (a b : List Int) : D.neA (ti a) (ti b) = pure (.bl (!decide (a = b))) := (enc_ti 0).neA (by decide) a b
@[simp] theorem eqA_lti (a b : List (List Int)) : D.eqA (lti a) (lti b) = pure (.bl (decide (a = b))) := (enc_lti 0).eqA (by decide) a b
@[simp] theorem neA_lti (a b : List (List Int)) : D.neA (lti a) (lti b) = pure (.bl (!decide (a = b))) := (enc_lti 0).neA (by decide) a b
@[simp] theorem eqA_li (a b : List Int) : D.eqA (li a) (li b) = pure (.bl (decide (a = b))) := (enc_li 0).eqA (by decide) a b
@[simp] theorem neA_li (a b : List Int) : D.neA (li a) (li b) = pure (.bl (!decide (a = b))) := (enc_li 0).neA (by decide) a b

/-! ### texts of things -/
theorem slen_app (a b : Str) : (a ++ b).length = a.length + b.length := by
  show (a.cps ++ b.cps).size = _
  rw [Array.size_append]
  rfl
mutual
def D.wt : D → Nat
  | .non => 4 | .bl _ => 5 | .int i => (toString i).length | .str x => (PySem.reprText x).length
  | .tup xs => D.wts xs + 3
  | .lst xs => D.wts xs + 3
  | .dct kvs => D.wtKv kvs + 3
  | .pen _ | .scr _ | .opq _ => 4
def D.wts : List D → Nat
  | [] => 0
  | x :: r => x.wt + 2 + D.wts r
def D.wtKv : List (Sum Int Str × D) → Nat
  | [] => 0
  | (k, v) :: r => (keyPy k).shown.length + v.wt + 4 + D.wtKv r
end
def lens : List Str → Nat
  | [] => 0
  | x :: r => x.length + 2 + lens r
theorem piled_lens : ∀ ts : List Str, PySem.piled ts = lens ts
  | [] => by simp [PySem.piled, lens]
  | x :: r => by
    have := piled_lens r
    simp [PySem.piled, lens] at this ⊢
    omega
theorem join_len (ts : List Str) : ((Str.ofString ", ").join ts).length ≤ lens ts := by
  by_cases h : ts = []
  · subst h
    exact Nat.le_of_eq rfl
  · have := PySem.join_length_add ts h
    rw [piled_lens] at this
    omega
theorem from_len : ∀ (ts : List Str) (k : Nat) (acc : Str), (PySem.textFrom k acc ts).length ≤ acc.length + lens ts
  | [], k, acc => by simp [PySem.textFrom, lens]
  | x :: r, k, acc => by
    rw [PySem.textFrom]
    refine Nat.le_trans (from_len r _ _) ?_
    rw [slen_app, slen_app, lens]
    have : (Str.ofString (if k > 0 then ", " else "")).length ≤ 2 := by
      by_cases h : k > 0
      · rw [if_pos h]; decide +kernel
      · rw [if_neg h]; decide +kernel
    omega
mutual
theorem shown_wt : ∀ d : D, d.py.shown.length ≤ d.wt
  | .non => by rw [D.py, PyData.shown, D.wt]; decide +kernel
  | .bl b => by
    rw [D.py, PyData.shown, D.wt]
    cases b <;> decide +kernel
  | .int i => by
    rw [D.py, PyData.shown, D.wt, PySem.ofString_length]
    exact Nat.le_refl _
  | .str x => by
    rw [D.py, PyData.shown, D.wt]
    exact Nat.le_refl _
  | .tup xs => by
    rw [D.py, PyData.shown, D.wt, PySem.tupleText, slen_app, slen_app]
    have h := shown_wts xs
    have j := join_len (PyData.shownAll (D.pys xs))
    have e : (Str.ofString "(").length = 1 := by decide +kernel
    have e2 : (Str.ofString (if ((PyData.shownAll (D.pys xs)).length == 1) = true then ",)" else ")")).length ≤ 2 := by
      by_cases h : ((PyData.shownAll (D.pys xs)).length == 1) = true
      · rw [if_pos h]; decide +kernel
      · rw [if_neg h]; decide +kernel
    omega
  | .lst xs => by
    rw [D.py, PyData.shown, D.wt, PySem.listText, slen_app]
    have h := shown_wts xs
    have j := from_len (PyData.shownAll (D.pys xs)) 0 (Str.ofString "[")
    have e : (Str.ofString "[").length = 1 := by decide +kernel
    have e2 : (Str.ofString "]").length = 1 := by decide +kernel
    omega
  | .dct kvs => by
    rw [D.py, PyData.shown, D.wt, PySem.dictText, slen_app, slen_app]
    have h := shown_wtKv kvs
    have j := join_len (PyData.shownKv (D.pyKv kvs))
    have e : (Str.ofString "{").length = 1 := by decide +kernel
    have e2 : (Str.ofString "}").length = 1 := by decide +kernel
    omega
  | .pen _ => by rw [D.py, PyData.shown, D.wt]; decide +kernel
  | .scr _ => by rw [D.py, PyData.shown, D.wt]; decide +kernel
  | .opq _ => by rw [D.py, PyData.shown, D.wt]; decide +kernel
theorem shown_wts : ∀ xs : List D, lens (PyData.shownAll (D.pys xs)) ≤ D.wts xs
  | [] => by rw [D.pys, PyData.shownAll, D.wts, lens]; exact Nat.le_refl _
  | x :: r => by
    have a := shown_wt x
    have b := shown_wts r
    rw [D.pys, PyData.shownAll, D.wts, lens]
    omega
theorem shown_wtKv : ∀ xs : List (Sum Int Str × D), lens (PyData.shownKv (D.pyKv xs)) ≤ D.wtKv xs
  | [] => by rw [D.pyKv, PyData.shownKv, D.wtKv, lens]; exact Nat.le_refl _
  | (k, v) :: r => by
    have a := shown_wt v
    have b := shown_wtKv r
    have e : (Str.ofString ": ").length = 2 := by decide +kernel
    rw [D.pyKv, PyData.shownKv, D.wtKv, lens, slen_app, slen_app]
    omega
end
/-- what may stand in a thing that is shown: n: how deep, m: how long -/
structure D.itm (n m : Nat) (d : D) : Prop where
  pl : d.plain true = true
  sh : d.py.showable = true
  de : d.py.depth ≤ n
  we : d.wt ≤ m
theorem digits_len {i : Int} {k : Nat} (hk : 0 < k) (h : i.natAbs < 10 ^ k) : (toString i).length ≤ k + 1 := by
  have key : ∀ n : Nat, n < 10 ^ k → (toString n).length ≤ k := fun n hn => by
    show (Nat.repr n).length ≤ k
    unfold Nat.repr
    rw [String.length_ofList]
    exact (Nat.length_toDigits_le_iff (by decide) hk).mpr hn
  cases i with
  | ofNat n => exact Nat.le_succ_of_le (key n h)
  | negSucc n =>
    show ("-" ++ toString (n + 1)).length ≤ _
    rw [String.length_append]
    have := key (n + 1) h
    have e : ("-" : String).length = 1 := by decide +kernel
    omega
theorem itm_int {n m : Nat} {i : Int} {k : Nat} (hk : 0 < k) (h : i.natAbs < 10 ^ k) (hm : k + 1 ≤ m) (k5 : k ≤ 500) : D.itm n m (.int i) where
  pl := rfl
  sh := by
    rw [D.py, PyData.showable]
    have h2 : i.natAbs < 2 ^ 1920 := Nat.lt_of_lt_of_le h (Nat.le_trans (Nat.pow_le_pow_right (by decide) k5) (by decide +kernel))
    by_cases z : i.natAbs = 0
    · rw [z]; decide +kernel
    · exact decide_eq_true ((Nat.log2_lt z).mpr h2)
  de := by rw [D.py, PyData.depth]; exact Nat.zero_le _
  we := by
    rw [D.wt]
    exact Nat.le_trans (digits_len hk h) hm
theorem itm_bl {n m : Nat} {b : Bool} (h : 5 ≤ m) : D.itm n m (.bl b) := ⟨rfl, by rw [D.py, PyData.showable], by rw [D.py, PyData.depth]; exact Nat.zero_le _, by rw [D.wt]; exact h⟩
theorem itm_non {n m : Nat} (h : 4 ≤ m) : D.itm n m .non := ⟨rfl, by rw [D.py, PyData.showable], by rw [D.py, PyData.depth]; exact Nat.zero_le _, by rw [D.wt]; exact h⟩
theorem itm_str {n m : Nat} {x : Str} (h : (PySem.reprText x).length ≤ m) : D.itm n m (.str x) := ⟨rfl, by rw [D.py, PyData.showable], by rw [D.py, PyData.depth]; exact Nat.zero_le _, by rw [D.wt]; exact h⟩
theorem itms {n m : Nat} : ∀ {xs : List D}, (∀ x ∈ xs, x.itm n m) → D.plains true xs = true ∧ PyData.showableAll (D.pys xs) = true ∧ PyData.depthAll (D.pys xs) ≤ n ∧ D.wts xs ≤ xs.length * (m + 2)
  | [], _ => ⟨rfl, by simp [D.pys, PyData.showableAll], by simp [D.pys, PyData.depthAll], by simp [D.wts]⟩
  | x :: r, h => by
    obtain ⟨a, b, c, d⟩ := h x (List.mem_cons_self)
    obtain ⟨e, f, g, i⟩ := itms fun y hy => h y (List.mem_cons_of_mem x hy)
    refine ⟨by simp [D.plains, a, e], by simp [D.pys, PyData.showableAll, b, f], by simp [D.pys, PyData.depthAll]; omega, ?_⟩
    rw [D.wts, List.length_cons, Nat.succ_mul]
    omega
theorem itm_tup {n m k l : Nat} {xs : List D} (h : ∀ x ∈ xs, x.itm n m) (hl : xs.length ≤ k) (hm : k * (m + 2) + 3 ≤ l) : D.itm (n + 1) l (.tup xs) := by
  obtain ⟨a, b, c, d⟩ := itms h
  refine ⟨by simpa [D.plain] using a, by simpa [D.py, PyData.showable] using b, by simpa [D.py, PyData.depth] using c, ?_⟩
  rw [D.wt]
  have := Nat.mul_le_mul_right (m + 2) hl
  omega
theorem itm_lst {n m k l : Nat} {xs : List D} (h : ∀ x ∈ xs, x.itm n m) (hl : xs.length ≤ k) (hm : k * (m + 2) + 3 ≤ l) : D.itm (n + 1) l (.lst xs) := by
  obtain ⟨a, b, c, d⟩ := itms h
  refine ⟨by simpa [D.plain] using a, by simpa [D.py, PyData.showable] using b, by simpa [D.py, PyData.depth] using c, ?_⟩
  rw [D.wt]
  have := Nat.mul_le_mul_right (m + 2) hl
  omega
theorem itm_dct0 {n m : Nat} (h : 3 ≤ m) : D.itm (n + 1) m (.dct []) := ⟨rfl, by simp [D.py, D.pyKv, PyData.showable, PyData.showableKv], by simp [D.py, D.pyKv, PyData.depth, PyData.depthKv], by rw [D.wt, D.wtKv]; exact h⟩
theorem itm_mono {n m n' m' : Nat} {d : D} (h : d.itm n m) (h1 : n ≤ n') (h2 : m ≤ m') : d.itm n' m' := ⟨h.pl, h.sh, Nat.le_trans h.de h1, Nat.le_trans h.we h2⟩
/-- no dicts -/
def D.noD (d : D) : Prop := d.py.hasDict = false
def D.noL (d : D) : Prop := nolst d.py = true
theorem noD_of {d : D} (h : d.plain false = true) : d.noD := by
  have key : ∀ n : Nat, ∀ d : D, sizeOf d ≤ n → d.plain false = true → d.py.hasDict = false := by
    intro n
    induction n with
    | zero => intro d h; cases d <;> simp at h
    | succ n ih =>
      intro d hs hp
      have go : ∀ xs : List D, sizeOf xs ≤ n → D.plains false xs = true → PyData.hasDictAll (D.pys xs) = false := by
        intro xs
        induction xs with
        | nil => intro _ _; simp [D.pys, PyData.hasDictAll]
        | cons x r ihr =>
          intro hs hp
          rw [D.plains, Bool.and_eq_true] at hp
          simp at hs
          simp [D.pys, PyData.hasDictAll, ih x (by omega) hp.1, ihr (by omega) hp.2]
      cases d with
      | tup xs => simp at hs; rw [D.plain] at hp; rw [D.py, PyData.hasDict]; exact go xs (by omega) hp
      | lst xs => simp at hs; rw [D.plain] at hp; rw [D.py, PyData.hasDict]; exact go xs (by omega) hp
      | dct k => simp [D.plain] at hp
      | pen _ => simp [D.plain] at hp
      | scr _ => simp [D.plain] at hp
      | opq _ => simp [D.plain] at hp
      | _ => simp [D.py, PyData.hasDict]
  exact key _ d (Nat.le_refl _) h
theorem noD_tup {xs : List D} (h : ∀ x ∈ xs, x.noD) : D.noD (.tup xs) := by
  unfold D.noD
  rw [D.py, PyData.hasDict]
  induction xs with
  | nil => simp [D.pys, PyData.hasDictAll]
  | cons x r ih =>
    rw [D.pys, PyData.hasDictAll, ih fun y hy => h y (List.mem_cons_of_mem x hy), show x.py.hasDict = false from h x (List.mem_cons_self)]
    rfl
theorem noD_lst {xs : List D} (h : ∀ x ∈ xs, x.noD) : D.noD (.lst xs) := by
  have t := noD_tup h
  unfold D.noD at t ⊢
  rw [D.py, PyData.hasDict] at t
  rw [D.py, PyData.hasDict]
  exact t
theorem noL_tup {xs : List D} (h : ∀ x ∈ xs, x.noL) : D.noL (.tup xs) := by
  unfold D.noL
  rw [D.py, nolst]
  induction xs with
  | nil => simp [D.pys, nolsts]
  | cons x r ih =>
    rw [D.pys, nolsts, ih fun y hy => h y (List.mem_cons_of_mem x hy), show nolst x.py = true from h x (List.mem_cons_self)]
    rfl
theorem can_show {n m : Nat} {d : D} (h : d.itm n m) (hn : n ≤ 60) (hm : m ≤ 16777216) (hd : d.noD ∨ d.noL) : d.canShow :=
  ⟨h.pl, h.sh, Nat.le_trans h.de hn, by rw [line_eq]; exact Nat.le_trans (shown_wt d) (Nat.le_trans h.we hm), fun z => hd.elim (fun k => by rw [k] at z; cases z) fun k => k⟩
theorem repr_ok {d : D} (h : d.canShow) : D.repr d = pure (.str d.shown) := by
  unfold D.repr
  rw [guard_bind h]
/-- a number within bounds -/
def inI (a b : Int) (d : D) : Prop := ∃ i : Int, d = .int i ∧ a ≤ i ∧ i < b
theorem exists_ints {a b : Int} : ∀ {ys : List D}, (∀ y ∈ ys, inI a b y) → ∃ l : List Int, ys = l.map .int ∧ ∀ x ∈ l, a ≤ x ∧ x < b
  | [], _ => ⟨[], rfl, by simp⟩
  | y :: r, h => by
    obtain ⟨i, rfl, h1, h2⟩ := h y (List.mem_cons_self)
    obtain ⟨l, rfl, hl⟩ := exists_ints fun z hz => h z (List.mem_cons_of_mem _ hz)
    refine ⟨i :: l, rfl, fun x hx => ?_⟩
    rcases List.mem_cons.mp hx with rfl | hx
    · exact ⟨h1, h2⟩
    · exact hl x hx
theorem ix_li {l : List Int} {i : Int} (h0 : 0 ≤ i) (h1 : i < l.length) : D.ix (.lst (l.map .int)) (.int i) = pure (.int (l[i.toNat]'(by omega))) := by
  rw [ix_lst h0 (by rw [List.length_map]; exact h1)]
  simp
theorem ix_ti {l : List Int} {i : Int} (h0 : 0 ≤ i) (h1 : i < l.length) : D.ix (ti l) (.int i) = pure (.int (l[i.toNat]'(by omega))) := by
  unfold ti
  rw [ix_tup h0 (by rw [List.length_map]; exact h1)]
  simp
theorem noD_int (i : Int) : D.noD (.int i) := by unfold D.noD; rw [D.py, PyData.hasDict]
theorem noL_int (i : Int) : D.noL (.int i) := by unfold D.noL; rw [D.py, nolst]
/-- what is put in: one thing that may be a list or a dict -/
def oddOk (d : D) : Prop := d.itm 3 100 ∧ (d.noD ∨ d.noL)
theorem oddOk_int {i : Int} (h : i.natAbs < 10 ^ 50) : oddOk (.int i) := ⟨itm_int (k := 50) (by decide) h (by decide) (by decide), .inl (noD_int i)⟩
theorem show_tup {ys : List D} {o : D} (ho : oddOk o) (h : ∀ x ∈ ys, x = o ∨ inI (-(10 ^ 40)) (10 ^ 40) x) (hl : ys.length ≤ 1000) : D.canShow (.tup ys) := by
  have hi : ∀ x ∈ ys, x.itm 3 100 := fun x hx => by
    rcases h x hx with rfl | ⟨i, rfl, h0, h1⟩
    · exact ho.1
    · exact itm_int (k := 50) (by decide) (by omega) (by decide) (by decide)
  refine can_show (itm_tup hi hl (Nat.le_refl _)) (by decide) (by decide) ?_
  rcases ho.2 with k | k
  · refine .inl (noD_tup fun x hx => ?_)
    rcases h x hx with rfl | ⟨i, rfl, _⟩
    · exact k
    · exact noD_int i
  · refine .inr (noL_tup fun x hx => ?_)
    rcases h x hx with rfl | ⟨i, rfl, _⟩
    · exact k
    · exact noL_int i
theorem show_lst {ys : List D} (h : ∀ x ∈ ys, inI (-(10 ^ 40)) (10 ^ 40) x) (hl : ys.length ≤ 1000) : D.canShow (.lst ys) := by
  have hi : ∀ x ∈ ys, x.itm 3 100 := fun x hx => by
    obtain ⟨i, rfl, h0, h1⟩ := h x hx
    exact itm_int (k := 50) (by decide) (by omega) (by decide) (by decide)
  refine can_show (itm_lst hi hl (Nat.le_refl _)) (by decide) (by decide) (.inl (noD_lst fun x hx => ?_))
  obtain ⟨i, rfl, _⟩ := h x hx
  exact noD_int i
theorem show_odd {o : D} (h : oddOk o) : o.canShow := can_show h.1 (by decide) (by decide) h.2
theorem ix_at {l : List Int} {i : Nat} (h : i < l.length) : D.ix (ti l) (.int i) = pure (.int (l.getD i 0)) := by
  rw [ix_ti (by omega) (by omega)]
  congr 2
  simp [List.getD_eq_getElem?_getD, h]
theorem ix_atl {l : List Int} {i : Nat} (h : i < l.length) : D.ix (.lst (l.map .int)) (.int i) = pure (.int (l.getD i 0)) := by
  rw [ix_li (by omega) (by omega)]
  congr 2
  simp [List.getD_eq_getElem?_getD, h]
theorem intsL_int (l : List Int) : intsL (l.map D.int) = some l := by
  rw [show l.map D.int = l.map fun x => D.int (id x) from rfl, intsL_map]
  simp
theorem enc_nat (n : Nat) : Enc n (fun k : Nat => D.int k) := ⟨fun k => cm_int n k, fun a b => by
  have := (enc_int n).eq a b
  rw [this, Bool.eq_iff_iff, decide_eq_true_iff, decide_eq_true_iff]
  omega⟩
theorem plain_ti (k : Bool) (l : List Int) : (ti l).plain k = true := by
  unfold ti
  rw [D.plain, D.plains_all]
  simp [D.plain]
theorem cutS_ti {l : List Int} {st : Int} (h : 0 < st) (hl : l.length ≤ 1000) : D.cutS (ti l) none none (some st) = pure (ti (stepL l none none st)) := by
  unfold ti
  show (guard _ >>= fun _ => _) = _
  rw [guard_bind, stepL_map]
  refine ⟨by omega, ?_⟩
  rw [line_eq, stepL_map, List.length_map]
  exact Nat.le_trans (stepL_len2 l h) (by omega)
theorem cutI_ti (l : List Int) (lo hi : Option Int) : D.cutI (ti l) lo hi = pure (ti (cutL l lo hi)) := by
  unfold ti
  rw [cutI_tup, cutL_map]
theorem show_ti {l : List Int} (hl : l.length ≤ 1000) (hb : ∀ x ∈ l, -1000000 ≤ x ∧ x ≤ 1000000) : D.canShow (ti l) := show_tup (o := .int 0) (oddOk_int (by decide)) (fun x hx => by
  obtain ⟨i, hi, rfl⟩ := List.mem_map.mp hx
  have := hb i hi
  exact .inr ⟨i, rfl, by omega, by omega⟩) (by rw [List.length_map]; exact hl)
theorem show_bl (b : Bool) : D.canShow (.bl b) := can_show (itm_bl (n := 0) (m := 10) (by decide)) (by decide) (by decide) (.inl (by simp [D.noD, D.py, PyData.hasDict]))
theorem show_non : D.canShow .non := can_show (itm_non (n := 0) (m := 10) (by decide)) (by decide) (by decide) (.inl (by simp [D.noD, D.py, PyData.hasDict]))
theorem rep_ti (k c : Int) : D.tup (rep k [D.int c]) = ti (rep k [c]) := by
  unfold ti rep
  congr 1
  induction k.toNat with
  | zero => rfl
  | succ n ih => simp [List.replicate_succ] at ih ⊢
theorem stepL_pos {α : Type} (xs : List α) (lo hi : Option Int) {st : Int} (h : 0 < st) : (stepL xs lo hi st).length ≤ xs.length := by
  refine Nat.le_trans (List.length_filterMap_le _ _) ?_
  rw [List.length_range]
  have a0 : 0 ≤ (PySem.Builtin.Slice.sliceAdjust lo hi st xs.length).1 := by
    unfold PySem.Builtin.Slice.sliceAdjust
    simp only [show ¬ st < 0 by omega, if_false]
    cases lo with
    | none => exact Int.le_refl 0
    | some v =>
      show 0 ≤ (if v < 0 then max (v + (xs.length : Int)) 0 else min v xs.length)
      split <;> omega
  have a1 : (PySem.Builtin.Slice.sliceAdjust lo hi st xs.length).2 ≤ xs.length := by
    unfold PySem.Builtin.Slice.sliceAdjust
    simp only [show ¬ st < 0 by omega, if_false]
    cases hi with
    | none => exact Int.le_refl _
    | some v =>
      show (if v < 0 then max (v + (xs.length : Int)) 0 else min v xs.length) ≤ _
      split <;> omega
  generalize (PySem.Builtin.Slice.sliceAdjust lo hi st xs.length).1 = x at a0
  generalize (PySem.Builtin.Slice.sliceAdjust lo hi st xs.length).2 = y at a1
  unfold PySem.Builtin.Slice.slicePlaces
  rw [if_pos h]
  by_cases c : x < y
  · rw [if_pos c]
    have : (y - x - 1) / st ≤ y - x - 1 := Int.ediv_le_self _ (by omega)
    omega
  · rw [if_neg c]
    omega
theorem stepL_neg {α : Type} (xs : List α) : (stepL xs none none (-1)).length ≤ xs.length := by
  refine Nat.le_trans (List.length_filterMap_le _ _) ?_
  rw [List.length_range]
  unfold PySem.Builtin.Slice.slicePlaces PySem.Builtin.Slice.sliceAdjust
  simp only [show ((-1 : Int) < 0) from by decide, show ¬ ((-1 : Int) > 0) from by decide, if_true, if_false]
  by_cases c : ((xs.length : Int) - 1 > -1)
  · rw [if_pos c, show (-(-1 : Int)) = 1 from rfl, Int.ediv_one]
    omega
  · rw [if_neg c]
    omega
theorem cutS_any {l : List Int} {lo hi : Option Int} {st : Int} (h0 : st ≠ 0) (h : (stepL l lo hi st).length ≤ l.length) (hl : l.length ≤ 1000) : D.cutS (ti l) lo hi (some st) = pure (ti (stepL l lo hi st)) := by
  unfold ti
  show (guard _ >>= fun _ => _) = _
  rw [guard_bind, stepL_map]
  refine ⟨h0, ?_⟩
  rw [line_eq, stepL_map, List.length_map]
  exact Nat.le_trans h (by omega)
theorem cutSM_pure (d : D) (a b c : Option Int) : cutSM (pure d) (pure a) (pure b) (pure c) = d.cutS a b c := rfl
end Ev

namespace Ev
open PySem (Str)
def XS : List Str := ["NoDraft", "NoSizes", "TooGreat"]
def NS : List Str := ["TooGreat"]
def B_is_whole (v_thing : D) : M (Fl Unit Empty) :=
  ((andV ((pure (v_thing)) >>= isaM .int) (notV ((pure (v_thing)) >>= isaM .bool))) >>= fun d => pure (.rt d))
def Fl_is_whole : List D → M (Fl Unit Empty)
  | [v_thing] => B_is_whole v_thing
  | _ => fail
def D_is_whole (ds : List D) : M D := endB false (Fl_is_whole ds)
theorem D_is_whole_eq (v_thing : D) : D_is_whole [v_thing] = endB false (B_is_whole v_thing) := rfl

def B_is_between (v_thing v_least v_most : D) : M (Fl Unit Empty) :=
  ((andV (callM D_is_whole [(pure (v_thing))]) (chainM (pure (v_least)) (pure (v_thing)) (pure (v_most)) D.le D.le)) >>= fun d => pure (.rt d))
def Fl_is_between : List D → M (Fl Unit Empty)
  | [v_thing, v_least, v_most] => B_is_between v_thing v_least v_most
  | _ => fail
def D_is_between (ds : List D) : M D := endB false (Fl_is_between ds)
theorem D_is_between_eq (v_thing v_least v_most : D) : D_is_between [v_thing, v_least, v_most] = endB false (B_is_between v_thing v_least v_most) := rfl

def B_are_sizes (v_thing : D) : M (Fl Unit Empty) :=
  ((orM (notM (asB ((pure (v_thing)) >>= isaM .tuple))) (notM (asB (chainM (pure (.int 1)) (callM (f1 D.len) [(pure (v_thing))]) (pure (.int 4)) D.le D.le)))) >>= fun k => if k then leave ((pure (.bl false)) >>= fun d => pure (.rt d)) else ((callM (f1 D.all) [((lcF ((pure (v_thing)) >>= itemsL) tg1 (fun v_size => (pure true)) (fun v_size => (callM D_is_between [(pure (v_size)), (pure (.int 2)), (pure (.int 8))]))) >>= fun ds => pure (.lst ds))]) >>= fun d => pure (.rt d)))
def Fl_are_sizes : List D → M (Fl Unit Empty)
  | [v_thing] => B_are_sizes v_thing
  | _ => fail
def D_are_sizes (ds : List D) : M D := endB false (Fl_are_sizes ds)
theorem D_are_sizes_eq (v_thing : D) : D_are_sizes [v_thing] = endB false (B_are_sizes v_thing) := rfl

def B_need_sizes (v_sizes : D) : M (Fl Unit Empty) :=
  ((notM (asB (callM D_are_sizes [(pure (v_sizes))]))) >>= fun k => if k then (raise ⟨"NoSizes", none⟩) else (pure (.nx ())))
def Fl_need_sizes : List D → M (Fl Unit Empty)
  | [v_sizes] => B_need_sizes v_sizes
  | _ => fail
def D_need_sizes (ds : List D) : M D := endB false (Fl_need_sizes ds)
theorem D_need_sizes_eq (v_sizes : D) : D_need_sizes [v_sizes] = endB false (B_need_sizes v_sizes) := rfl

def B_good_draft (v_sizes v_thing : D) : M (Fl Unit Empty) :=
  ((orM (notM (asB ((pure (v_thing)) >>= isaM .tuple))) (asB (bin D.gt (callM (f1 D.len) [(pure (v_thing))]) (pure (.int 40))))) >>= fun k => if k then leave ((pure (.bl false)) >>= fun d => pure (.rt d)) else ((callM (f1 D.all) [((lcF ((pure (v_thing)) >>= itemsL) tg1 (fun v_hue => (pure true)) (fun v_hue => (callM D_is_between [(pure (v_hue)), (pure (.int (-1))), (bin D.sub (callM (f1 D.len) [(pure (v_sizes))]) (pure (.int 1)))]))) >>= fun ds => pure (.lst ds))]) >>= fun d => pure (.rt d)))
def Fl_good_draft : List D → M (Fl Unit Empty)
  | [v_sizes, v_thing] => B_good_draft v_sizes v_thing
  | _ => fail
def D_good_draft (ds : List D) : M D := endB false (Fl_good_draft ds)
theorem D_good_draft_eq (v_sizes v_thing : D) : D_good_draft [v_sizes, v_thing] = endB false (B_good_draft v_sizes v_thing) := rfl

def B_need_draft (v_sizes v_draft : D) : M (Fl Unit Empty) :=
  ((callM D_need_sizes [(pure (v_sizes))]) >>= fun _ => ((notM (asB (callM D_good_draft [(pure (v_sizes)), (pure (v_draft))]))) >>= fun k => if k then (raise ⟨"NoDraft", none⟩) else (pure (.nx ()))))
def Fl_need_draft : List D → M (Fl Unit Empty)
  | [v_sizes, v_draft] => B_need_draft v_sizes v_draft
  | _ => fail
def D_need_draft (ds : List D) : M D := endB false (Fl_need_draft ds)
theorem D_need_draft_eq (v_sizes v_draft : D) : D_need_draft [v_sizes, v_draft] = endB false (B_need_draft v_sizes v_draft) := rfl

def B_blanks (v_draft : D) : M (Fl Unit Empty) :=
  (((lcF (enumM (pure (v_draft))) un2 (fun p1 => (asB (bin D.eqA (pure (p1.2)) (pure (.int (-1)))))) (fun p1 => (pure (p1.1)))) >>= fun ds => pure (.lst ds)) >>= fun d => pure (.rt d))
def Fl_blanks : List D → M (Fl Unit Empty)
  | [v_draft] => B_blanks v_draft
  | _ => fail
def D_blanks (ds : List D) : M D := endB false (Fl_blanks ds)
theorem D_blanks_eq (v_draft : D) : D_blanks [v_draft] = endB false (B_blanks v_draft) := rfl

def B_ways_to_put (v_sizes v_draft : D) : M (Fl Unit Empty) :=
  ((pure (.int 1)) >>= fun v_found => (seqM (forF ((callM D_blanks [(pure (v_draft))]) >>= itemsL) tg1 (v_found) (fun v_place (s1 : D) => ((bin D.mulA (pure (s1)) (callM (f2 D.max2) [(pure (.int 2)), (callM (f1 D.len) [(pure (v_sizes))])])) >>= fun v_found => (pure (.nx (v_found)))))) (fun (s1 : D) => ((pure (s1)) >>= fun d => pure (.rt d)))))
def Fl_ways_to_put : List D → M (Fl Unit Empty)
  | [v_sizes, v_draft] => B_ways_to_put v_sizes v_draft
  | _ => fail
def D_ways_to_put (ds : List D) : M D := endB false (Fl_ways_to_put ds)
theorem D_ways_to_put_eq (v_sizes v_draft : D) : D_ways_to_put [v_sizes, v_draft] = endB false (B_ways_to_put v_sizes v_draft) := rfl

def B_need_few (v_sizes v_draft v_most : D) : M (Fl Unit Empty) :=
  ((callM D_need_draft [(pure (v_sizes)), (pure (v_draft))]) >>= fun _ => ((asB (bin D.gt (callM D_ways_to_put [(pure (v_sizes)), (pure (v_draft))]) (pure (v_most)))) >>= fun k => if k then (tooM [(callM D_ways_to_put [(pure (v_sizes)), (pure (v_draft))]), (pure (v_most))]) else (pure (.nx ()))))
def Fl_need_few : List D → M (Fl Unit Empty)
  | [v_sizes, v_draft, v_most] => B_need_few v_sizes v_draft v_most
  | _ => fail
def D_need_few (ds : List D) : M D := endB false (Fl_need_few ds)
theorem D_need_few_eq (v_sizes v_draft v_most : D) : D_need_few [v_sizes, v_draft, v_most] = endB false (B_need_few v_sizes v_draft v_most) := rfl

def B_lying_rows (v_length v_size : D) : M (Fl Unit Empty) :=
  ((seqL []) >>= fun v_found => (seqM (forF (rng1 [(pure (v_length))]) tg1 (v_found) (fun v_first (s1 : List D) => ((bin D.fdiv (bin D.sub (bin D.sub (pure (v_length)) (pure (.int 1))) (pure (v_first))) (bin D.sub (pure (v_size)) (pure (.int 1)))) >>= fun v_widest => (extM (s1) ((lcF (rng2 [(pure (.int 1)), (bin D.add (pure (v_widest)) (pure (.int 1)))]) tg1 (fun v_step => (pure true)) (fun v_step => (tupM [(pure (v_first)), (pure (v_step))]))) >>= fun ds => pure (.lst ds)) (fun d2 => (pure (.nx (s1 ++ d2)))))))) (fun (s1 : List D) => ((pure (.lst (s1))) >>= fun d => pure (.rt d)))))
def Fl_lying_rows : List D → M (Fl Unit Empty)
  | [v_length, v_size] => B_lying_rows v_length v_size
  | _ => fail
def D_lying_rows (ds : List D) : M D := endB false (Fl_lying_rows ds)
theorem D_lying_rows_eq (v_length v_size : D) : D_lying_rows [v_length, v_size] = endB false (B_lying_rows v_length v_size) := rfl

def B_row_places (v_row v_size : D) : M (Fl Unit Empty) :=
  ((callM (f1 D.toTup) [((lcF (rng1 [(pure (v_size))]) tg1 (fun v_k => (pure true)) (fun v_k => (bin D.add (bin D.ix (pure (v_row)) (pure (.int 0))) (bin D.mulA (pure (v_k)) (bin D.ix (pure (v_row)) (pure (.int 1))))))) >>= fun ds => pure (.lst ds))]) >>= fun d => pure (.rt d))
def Fl_row_places : List D → M (Fl Unit Empty)
  | [v_row, v_size] => B_row_places v_row v_size
  | _ => fail
def D_row_places (ds : List D) : M D := endB false (Fl_row_places ds)
theorem D_row_places_eq (v_row v_size : D) : D_row_places [v_row, v_size] = endB false (B_row_places v_row v_size) := rfl

def B_has_hue (v_strip v_row v_size v_hue : D) : M (Fl Unit Empty) :=
  ((callM (f1 D.all) [((lcF ((callM D_row_places [(pure (v_row)), (pure (v_size))]) >>= itemsL) tg1 (fun v_place => (pure true)) (fun v_place => (bin D.eqA (bin D.ix (pure (v_strip)) (pure (v_place))) (pure (v_hue))))) >>= fun ds => pure (.lst ds))]) >>= fun d => pure (.rt d))
def Fl_has_hue : List D → M (Fl Unit Empty)
  | [v_strip, v_row, v_size, v_hue] => B_has_hue v_strip v_row v_size v_hue
  | _ => fail
def D_has_hue (ds : List D) : M D := endB false (Fl_has_hue ds)
theorem D_has_hue_eq (v_strip v_row v_size v_hue : D) : D_has_hue [v_strip, v_row, v_size, v_hue] = endB false (B_has_hue v_strip v_row v_size v_hue) := rfl

def B_wrong_rows (v_sizes v_strip : D) : M (Fl Unit Empty) :=
  ((seqL []) >>= fun v_found => (seqM (forF (enumM (pure (v_sizes))) un2 (v_found) (fun p2 (s1 : List D) => (extM (s1) ((lcF ((callM D_lying_rows [(callM (f1 D.len) [(pure (v_strip))]), (pure (p2.2))]) >>= itemsL) tg1 (fun v_row => (asB (callM D_has_hue [(pure (v_strip)), (pure (v_row)), (pure (p2.2)), (pure (p2.1))]))) (fun v_row => (pure (v_row)))) >>= fun ds => pure (.lst ds)) (fun d3 => (pure (.nx (s1 ++ d3))))))) (fun (s1 : List D) => (((seqL [(pure (.lst (s1)))] >>= fo1 D.sortT) >>= fun ds => pure (.lst ds)) >>= fun d => pure (.rt d)))))
def Fl_wrong_rows : List D → M (Fl Unit Empty)
  | [v_sizes, v_strip] => B_wrong_rows v_sizes v_strip
  | _ => fail
def D_wrong_rows (ds : List D) : M D := endB false (Fl_wrong_rows ds)
theorem D_wrong_rows_eq (v_sizes v_strip : D) : D_wrong_rows [v_sizes, v_strip] = endB false (B_wrong_rows v_sizes v_strip) := rfl

def B_with_hue (v_draft v_place v_hue : D) : M (Fl Unit Empty) :=
  ((bin D.add (bin D.add (cutM (pure (v_draft)) (pure none) (partM (pure (v_place))) D.cutI) (tupM [(pure (v_hue))])) (cutM (pure (v_draft)) (partM (bin D.add (pure (v_place)) (pure (.int 1)))) (pure none) D.cutI)) >>= fun d => pure (.rt d))
def Fl_with_hue : List D → M (Fl Unit Empty)
  | [v_draft, v_place, v_hue] => B_with_hue v_draft v_place v_hue
  | _ => fail
def D_with_hue (ds : List D) : M D := endB false (Fl_with_hue ds)
theorem D_with_hue_eq (v_draft v_place v_hue : D) : D_with_hue [v_draft, v_place, v_hue] = endB false (B_with_hue v_draft v_place v_hue) := rfl

def B_rows_through (v_length v_size v_place : D) : M (Fl Unit Empty) :=
  ((seqL []) >>= fun v_found => (seqM (forF (rng2 [(pure (.int 1)), (bin D.add (bin D.fdiv (bin D.sub (pure (v_length)) (pure (.int 1))) (bin D.sub (pure (v_size)) (pure (.int 1)))) (pure (.int 1)))]) tg1 (v_found) (fun v_step (s1 : List D) => (seqM (forF (rng1 [(pure (v_size))]) tg1 (s1) (fun v_k (s2 : List D) => ((bin D.sub (pure (v_place)) (bin D.mulA (pure (v_k)) (pure (v_step)))) >>= fun v_first => (seqM ((andM (asB (bin D.ge (pure (v_first)) (pure (.int 0)))) (asB (bin D.lt (bin D.add (pure (v_first)) (bin D.mulA (bin D.sub (pure (v_size)) (pure (.int 1))) (pure (v_step)))) (pure (v_length))))) >>= fun k => if k then (appM (s2) (tupM [(pure (v_first)), (pure (v_step))]) (fun d4 => (pure (.nx (s2 ++ [d4]))))) else (pure (.nx (s2)))) (fun (s3 : List D) => (pure (.nx (s3)))))))) (fun (s2 : List D) => (pure (.nx (s2))))))) (fun (s1 : List D) => (((seqL [(pure (.lst (s1)))] >>= fo1 D.sortT) >>= fun ds => pure (.lst ds)) >>= fun d => pure (.rt d)))))
def Fl_rows_through : List D → M (Fl Unit Empty)
  | [v_length, v_size, v_place] => B_rows_through v_length v_size v_place
  | _ => fail
def D_rows_through (ds : List D) : M D := endB false (Fl_rows_through ds)
theorem D_rows_through_eq (v_length v_size v_place : D) : D_rows_through [v_length, v_size, v_place] = endB false (B_rows_through v_length v_size v_place) := rfl

def B_bars_at (v_sizes v_draft v_place v_hue : D) : M (Fl Unit Empty) :=
  ((bin D.ix (pure (v_sizes)) (pure (v_hue))) >>= fun v_size => ((callM D_with_hue [(pure (v_draft)), (pure (v_place)), (pure (v_hue))]) >>= fun v_full => ((seqL []) >>= fun v_found => (seqM (forF ((callM D_rows_through [(callM (f1 D.len) [(pure (v_draft))]), (pure (v_size)), (pure (v_place))]) >>= itemsL) tg1 (v_found) (fun v_row (s1 : List D) => (seqM ((asB (callM (f1 D.all) [((lcF ((callM D_row_places [(pure (v_row)), (pure (v_size))]) >>= itemsL) tg1 (fun v_one => (pure true)) (fun v_one => (bin D.eqA (bin D.ix (pure (v_full)) (pure (v_one))) (pure (v_hue))))) >>= fun ds => pure (.lst ds))])) >>= fun k => if k then (appM (s1) (pure (v_row)) (fun d3 => (pure (.nx (s1 ++ [d3]))))) else (pure (.nx (s1)))) (fun (s2 : List D) => (pure (.nx (s2))))))) (fun (s1 : List D) => ((pure (.lst (s1))) >>= fun d => pure (.rt d)))))))
def Fl_bars_at : List D → M (Fl Unit Empty)
  | [v_sizes, v_draft, v_place, v_hue] => B_bars_at v_sizes v_draft v_place v_hue
  | _ => fail
def D_bars_at (ds : List D) : M D := endB false (Fl_bars_at ds)
theorem D_bars_at_eq (v_sizes v_draft v_place v_hue : D) : D_bars_at [v_sizes, v_draft, v_place, v_hue] = endB false (B_bars_at v_sizes v_draft v_place v_hue) := rfl

def B_open_at (v_sizes v_draft v_place : D) : M (Fl Unit Empty) :=
  ((callM (f1 D.toTup) [((lcF (rng1 [(callM (f1 D.len) [(pure (v_sizes))])]) tg1 (fun v_hue => (asB (bin D.eqA (callM D_bars_at [(pure (v_sizes)), (pure (v_draft)), (pure (v_place)), (pure (v_hue))]) ((seqL []) >>= fun ds => pure (.lst ds))))) (fun v_hue => (pure (v_hue)))) >>= fun ds => pure (.lst ds))]) >>= fun d => pure (.rt d))
def Fl_open_at : List D → M (Fl Unit Empty)
  | [v_sizes, v_draft, v_place] => B_open_at v_sizes v_draft v_place
  | _ => fail
def D_open_at (ds : List D) : M D := endB false (Fl_open_at ds)
theorem D_open_at_eq (v_sizes v_draft v_place : D) : D_open_at [v_sizes, v_draft, v_place] = endB false (B_open_at v_sizes v_draft v_place) := rfl

def B_first_narrow (v_sizes v_draft : D) : M (Fl Unit Empty) :=
  (seqM (forF ((callM D_blanks [(pure (v_draft))]) >>= itemsL) tg1 () (fun v_place (s1 : Unit) => ((callM D_open_at [(pure (v_sizes)), (pure (v_draft)), (pure (v_place))]) >>= fun v_hues => ((asB (bin D.lt (callM (f1 D.len) [(pure (v_hues))]) (pure (.int 2)))) >>= fun k => if k then ((tupM [(pure (v_place)), (pure (v_hues))]) >>= fun d => pure (.rt d)) else (pure (.nx ())))))) (fun (s1 : Unit) => ((pure .non) >>= fun d => pure (.rt d))))
def Fl_first_narrow : List D → M (Fl Unit Empty)
  | [v_sizes, v_draft] => B_first_narrow v_sizes v_draft
  | _ => fail
def D_first_narrow (ds : List D) : M D := endB false (Fl_first_narrow ds)
theorem D_first_narrow_eq (v_sizes v_draft : D) : D_first_narrow [v_sizes, v_draft] = endB false (B_first_narrow v_sizes v_draft) := rfl

def B_best_place (v_sizes v_draft : D) : M (Fl Unit Empty) :=
  ((callM D_first_narrow [(pure (v_sizes)), (pure (v_draft))]) >>= fun v_found => ((asB (bin notNF (pure (v_found)) (pure .non))) >>= fun k => if k then leave ((bin D.ix (pure (v_found)) (pure (.int 0))) >>= fun d => pure (.rt d)) else ((callM D_blanks [(pure (v_draft))]) >>= fun v_some => ((asB (bin D.eqA (pure (v_some)) ((seqL []) >>= fun ds => pure (.lst ds)))) >>= fun k => if k then leave ((pure .non) >>= fun d => pure (.rt d)) else ((bin D.ix (pure (v_some)) (pure (.int 0))) >>= fun d => pure (.rt d))))))
def Fl_best_place : List D → M (Fl Unit Empty)
  | [v_sizes, v_draft] => B_best_place v_sizes v_draft
  | _ => fail
def D_best_place (ds : List D) : M D := endB false (Fl_best_place ds)
theorem D_best_place_eq (v_sizes v_draft : D) : D_best_place [v_sizes, v_draft] = endB false (B_best_place v_sizes v_draft) := rfl

def B_made_paper (rc_made_paper : List D → M D) (v_sizes v_draft : D) : M (Fl Unit Empty) :=
  ((callM D_best_place [(pure (v_sizes)), (pure (v_draft))]) >>= fun v_place => ((asB (bin isNF (pure (v_place)) (pure .non))) >>= fun k => if k then leave ((pure .non) >>= fun d => pure (.rt d)) else ((seqL []) >>= fun v_papers => (seqM (forF (rng1 [(callM (f1 D.len) [(pure (v_sizes))])]) tg1 (v_papers) (fun v_hue (s1 : List D) => ((callM D_bars_at [(pure (v_sizes)), (pure (v_draft)), (pure (v_place)), (pure (v_hue))]) >>= fun v_rows => (((asB (bin D.neA (pure (v_rows)) ((seqL []) >>= fun ds => pure (.lst ds)))) >>= fun k => if k then (bin D.add (tupM [(pure (.str "row"))]) (bin D.ix (pure (v_rows)) (pure (.int 0)))) else (callM rc_made_paper [(pure (v_sizes)), (callM D_with_hue [(pure (v_draft)), (pure (v_place)), (pure (v_hue))])])) >>= fun v_paper => ((asB (bin isNF (pure (v_paper)) (pure .non))) >>= fun k => if k then leave ((pure .non) >>= fun d => pure (.rt d)) else (appM (s1) (pure (v_paper)) (fun d2 => (pure (.nx (s1 ++ [d2])))))))))) (fun (s1 : List D) => ((tupM [(pure (.str "cases")), (pure (v_place)), (callM (f1 D.toTup) [(pure (.lst (s1)))])]) >>= fun d => pure (.rt d)))))))
def Fl_made_paper (rc_made_paper : List D → M D) : List D → M (Fl Unit Empty)
  | [v_sizes, v_draft] => B_made_paper rc_made_paper v_sizes v_draft
  | _ => fail
def D_made_paper : Nat → List D → M D
  | 0 => fun _ => endB false (fail : M (Fl Unit Empty))
  | n + 1 => fun ds => endB false (Fl_made_paper (D_made_paper n) ds)
theorem D_made_paper_eq (n : Nat) (v_sizes v_draft : D) : D_made_paper (n + 1) [v_sizes, v_draft] = endB false (B_made_paper (D_made_paper n) v_sizes v_draft) := rfl

def B_some_paper (v_sizes v_draft : D) : M (Fl Unit Empty) :=
  ((callM D_wrong_rows [(pure (v_sizes)), (pure (v_draft))]) >>= fun v_rows => ((asB (bin D.neA (pure (v_rows)) ((seqL []) >>= fun ds => pure (.lst ds)))) >>= fun k => if k then leave ((bin D.add (tupM [(pure (.str "row"))]) (bin D.ix (pure (v_rows)) (pure (.int 0)))) >>= fun d => pure (.rt d)) else ((callM (D_made_paper 40) [(pure (v_sizes)), (pure (v_draft))]) >>= fun d => pure (.rt d))))
def Fl_some_paper : List D → M (Fl Unit Empty)
  | [v_sizes, v_draft] => B_some_paper v_sizes v_draft
  | _ => fail
def D_some_paper (ds : List D) : M D := endB false (Fl_some_paper ds)
theorem D_some_paper_eq (v_sizes v_draft : D) : D_some_paper [v_sizes, v_draft] = endB false (B_some_paper v_sizes v_draft) := rfl

def B_paper_for (v_sizes v_draft : D) : M (Fl Unit Empty) :=
  ((callM D_need_few [(pure (v_sizes)), (pure (v_draft)), (pure (.int 512))]) >>= fun _ => ((callM D_some_paper [(pure (v_sizes)), (pure (v_draft))]) >>= fun d => pure (.rt d)))
def Fl_paper_for : List D → M (Fl Unit Empty)
  | [v_sizes, v_draft] => B_paper_for v_sizes v_draft
  | _ => fail
def D_paper_for (ds : List D) : M D := endB false (Fl_paper_for ds)
theorem D_paper_for_eq (v_sizes v_draft : D) : D_paper_for [v_sizes, v_draft] = endB false (B_paper_for v_sizes v_draft) := rfl

def B_L_pen (l_cell : D) : M (Fl Unit Empty) :=
  ((callM (f2 D.max2) [(pure (l_cell)), (bin D.sub (pure (.int 0)) (pure (l_cell)))]) >>= fun l_left => ((seqL [(bin D.mulA (pure (l_left)) (callM (f1 D.toInt) [(bin D.ge (pure (l_left)) (bin D.pow (pure (.int 10)) (pure (.int 18))))])), (bin D.mod (pure (l_left)) (pure (.int 2147483629)))]) >>= fun d => pure (.rt (.lst d))))
def Fl_L_pen : List D → M (Fl Unit Empty)
  | [l_cell] => B_L_pen l_cell
  | _ => fail
def D_L_pen (ds : List D) : M D := endB true (Fl_L_pen ds)
theorem D_L_pen_eq (l_cell : D) : D_L_pen [l_cell] = endB true (B_L_pen l_cell) := rfl

abbrev D_L_draw : List D → M D := drawF false

def B_L_few (l_pen_here : D) : M (Fl Unit Empty) :=
  (((seqL [(tupM [(pure (.int 3)), (pure (.int 3))]), (tupM [(pure (.int 3)), (pure (.int 3))]), (tupM [(pure (.int 2)), (pure (.int 3))]), (tupM [(pure (.int 3)), (pure (.int 2))]), (tupM [(pure (.int 2)), (pure (.int 2)), (pure (.int 3))]), (tupM [(pure (.int 3)), (pure (.int 4))]), (tupM [(pure (.int 4)), (pure (.int 3))]), (tupM [(pure (.int 2)), (pure (.int 2))]), (tupM [(pure (.int 3))]), (tupM [(pure (.int 2)), (pure (.int 2)), (pure (.int 2))]), (tupM [(pure (.int 3)), (pure (.int 3)), (pure (.int 2))]), (tupM [(pure (.int 2)), (pure (.int 4))])]) >>= fun ds => pure (.lst ds)) >>= fun l_some => ((bin D.ix (pure (l_some)) (callM D_L_draw [(pure (l_pen_here)), (pure (.int 12))])) >>= fun d => pure (.rt d)))
def Fl_L_few : List D → M (Fl Unit Empty)
  | [l_pen_here] => B_L_few l_pen_here
  | _ => fail
def D_L_few (ds : List D) : M D := endB false (Fl_L_few ds)
theorem D_L_few_eq (l_pen_here : D) : D_L_few [l_pen_here] = endB false (B_L_few l_pen_here) := rfl

def B_L_ended (l_sizes l_found l_hue : D) : M (Fl Unit Empty) :=
  ((tupM [(callM (f1 D.len) [(pure (l_found))]), (bin D.ix (pure (l_sizes)) (pure (l_hue)))]) >>= fun d => un2 d >>= fun p1 => (seqM (forF (rng2 [(pure (.int 1)), (bin D.add (bin D.fdiv (pure (p1.1)) (bin D.sub (pure (p1.2)) (pure (.int 1)))) (pure (.int 1)))]) tg1 () (fun l_step (s2 : Unit) => ((asB (bin D.eqA ((lcF (rng2 [(pure (.int 1)), (pure (p1.2))]) tg1 (fun l_k => (asB (bin D.neA (bin D.ix (pure (l_found)) (bin D.sub (pure (p1.1)) (bin D.mulA (pure (l_k)) (pure (l_step))))) (pure (l_hue))))) (fun l_k => (pure (l_k)))) >>= fun ds => pure (.lst ds)) ((seqL []) >>= fun ds => pure (.lst ds)))) >>= fun k => if k then ((pure (.bl true)) >>= fun d => pure (.rt d)) else (pure (.nx ()))))) (fun (s2 : Unit) => ((pure (.bl false)) >>= fun d => pure (.rt d)))))
def Fl_L_ended : List D → M (Fl Unit Empty)
  | [l_sizes, l_found, l_hue] => B_L_ended l_sizes l_found l_hue
  | _ => fail
def D_L_ended (ds : List D) : M D := endB false (Fl_L_ended ds)
theorem D_L_ended_eq (l_sizes l_found l_hue : D) : D_L_ended [l_sizes, l_found, l_hue] = endB false (B_L_ended l_sizes l_found l_hue) := rfl

def B_L_knot (l_pen_here l_sizes l_limit l_spare : D) : M (Fl Unit Empty) :=
  (parM [(bin D.add (pure (.int 2)) (callM D_L_draw [(pure (l_pen_here)), (pure (.int 5))])), (callM D_L_draw [(pure (l_pen_here)), (bin D.add (pure (l_limit)) (pure (.int 1)))])] (fun l_share l_length => ((seqL []) >>= fun l_found => (seqM (forF (rng1 [(pure (l_length))]) tg1 (l_found) (fun l_place (s1 : List D) => ((tupM [(callM D_L_draw [(pure (l_pen_here)), (callM (f1 D.len) [(pure (l_sizes))])]), (bin D.eqA (callM D_L_draw [(pure (l_pen_here)), (pure (l_share))]) (pure (.int 0)))]) >>= fun d => un2 d >>= fun p2 => (((lcF (rng1 [(callM (f1 D.len) [(pure (l_sizes))])]) tg1 (fun l_k => (pure true)) (fun l_k => (bin D.mod (bin D.add (pure (p2.1)) (pure (l_k))) (callM (f1 D.len) [(pure (l_sizes))])))) >>= fun ds => pure (.lst ds)) >>= fun l_some => ((((lcF ((pure (l_some)) >>= itemsL) tg1 (fun l_one => (andM (notM (asB (pure (p2.2)))) (notM (asB (callM D_L_ended [(pure (l_sizes)), (pure (.lst (s1))), (pure (l_one))]))))) (fun l_one => (pure (l_one)))) >>= fun xs => guard (∀ d ∈ xs, d.scal) >>= fun _ => pure xs) >>= fun ds => pure (.lst ds)) >>= fun l_good => ((andM (asB (bin D.eqA (pure (l_good)) ((seqL []) >>= fun ds => pure (.lst ds)))) (asB (bin D.eqA (lstMet cntL (pure (.lst (s1))) [((pure (.int 1)) >>= D.neg)]) (pure (l_spare))))) >>= fun k => if k then leave ((callM (f1 D.toTup) [(pure (.lst (s1)))]) >>= fun d => pure (.rt d)) else (appM (s1) (bin D.ix (bin D.add (pure (l_good)) ((seqL [((pure (.int 1)) >>= D.neg)]) >>= fun ds => pure (.lst ds))) (pure (.int 0))) (fun d3 => (pure (.nx (s1 ++ [d3]))))))))))) (fun (s1 : List D) => ((callM (f1 D.toTup) [(pure (.lst (s1)))]) >>= fun d => pure (.rt d)))))))
def Fl_L_knot : List D → M (Fl Unit Empty)
  | [l_pen_here, l_sizes, l_limit, l_spare] => B_L_knot l_pen_here l_sizes l_limit l_spare
  | _ => fail
def D_L_knot (ds : List D) : M D := endB false (Fl_L_knot ds)
theorem D_L_knot_eq (l_pen_here l_sizes l_limit l_spare : D) : D_L_knot [l_pen_here, l_sizes, l_limit, l_spare] = endB false (B_L_knot l_pen_here l_sizes l_limit l_spare) := rfl

def B_L_places (l_row l_size : D) : M (Fl Unit Empty) :=
  (((lcF (rng1 [(pure (l_size))]) tg1 (fun l_k => (pure true)) (fun l_k => (bin D.add (bin D.ix (pure (l_row)) (pure (.int 0))) (bin D.mulA (pure (l_k)) (bin D.ix (pure (l_row)) (pure (.int 1))))))) >>= fun ds => pure (.lst ds)) >>= fun d => pure (.rt d))
def Fl_L_places : List D → M (Fl Unit Empty)
  | [l_row, l_size] => B_L_places l_row l_size
  | _ => fail
def D_L_places (ds : List D) : M D := endB false (Fl_L_places ds)
theorem D_L_places_eq (l_row l_size : D) : D_L_places [l_row, l_size] = endB false (B_L_places l_row l_size) := rfl

def B_L_whole (l_thing : D) : M (Fl Unit Empty) :=
  ((andV ((pure (l_thing)) >>= isaM .int) (notV ((pure (l_thing)) >>= isaM .bool))) >>= fun d => pure (.rt d))
def Fl_L_whole : List D → M (Fl Unit Empty)
  | [l_thing] => B_L_whole l_thing
  | _ => fail
def D_L_whole (ds : List D) : M D := endB false (Fl_L_whole ds)
theorem D_L_whole_eq (l_thing : D) : D_L_whole [l_thing] = endB false (B_L_whole l_thing) := rfl

def B_L_shows (rc_L_shows : List D → M D) (l_sizes l_draft l_thing : D) : M (Fl Unit Empty) :=
  ((orM (notM (asB ((pure (l_thing)) >>= isaM .tuple))) (orM (asB (bin D.neA (callM (f1 D.len) [(pure (l_thing))]) (pure (.int 3)))) (orM (notM (asB ((bin D.ix (pure (l_thing)) (pure (.int 0))) >>= isaM .str))) (notM (asB (callM D_L_whole [(bin D.ix (pure (l_thing)) (pure (.int 1)))])))))) >>= fun k => if k then leave ((pure (.bl false)) >>= fun d => pure (.rt d)) else ((notM (asB (chainM (pure (.int 0)) (bin D.ix (pure (l_thing)) (pure (.int 1))) (callM (f1 D.len) [(pure (l_draft))]) D.le D.lt))) >>= fun k => if k then leave ((pure (.bl false)) >>= fun d => pure (.rt d)) else ((asB (bin D.eqA (bin D.ix (pure (l_thing)) (pure (.int 0))) (pure (.str "row")))) >>= fun k => if k then leave ((bin D.ix (pure (l_draft)) (bin D.ix (pure (l_thing)) (pure (.int 1)))) >>= fun l_hue => ((orM (asB (bin D.eqA (pure (l_hue)) ((pure (.int 1)) >>= D.neg))) (orM (notM (asB (callM D_L_whole [(bin D.ix (pure (l_thing)) (pure (.int 2)))]))) (notM (asB (chainM (pure (.int 1)) (bin D.ix (pure (l_thing)) (pure (.int 2))) (pure (.int 40)) D.le D.lt))))) >>= fun k => if k then leave ((pure (.bl false)) >>= fun d => pure (.rt d)) else ((callM D_L_places [(cutM (pure (l_thing)) (partM (pure (.int 1))) (pure none) D.cutI), (bin D.ix (pure (l_sizes)) (pure (l_hue)))]) >>= fun l_some => ((andV (bin D.lt (bin D.ix (pure (l_some)) ((pure (.int 1)) >>= D.neg)) (callM (f1 D.len) [(pure (l_draft))])) (bin D.eqA ((lcF ((pure (l_some)) >>= itemsL) tg1 (fun l_place => (asB (bin D.neA (bin D.ix (pure (l_draft)) (pure (l_place))) (pure (l_hue))))) (fun l_place => (pure (l_place)))) >>= fun ds => pure (.lst ds)) ((seqL []) >>= fun ds => pure (.lst ds)))) >>= fun d => pure (.rt d))))) else ((orM (asB (bin D.neA (bin D.ix (pure (l_thing)) (pure (.int 0))) (pure (.str "cases")))) (orM (asB (bin D.neA (bin D.ix (pure (l_draft)) (bin D.ix (pure (l_thing)) (pure (.int 1)))) ((pure (.int 1)) >>= D.neg))) (notM (asB ((bin D.ix (pure (l_thing)) (pure (.int 2))) >>= isaM .tuple))))) >>= fun k => if k then leave ((pure (.bl false)) >>= fun d => pure (.rt d)) else ((asB (bin D.neA (callM (f1 D.len) [(bin D.ix (pure (l_thing)) (pure (.int 2)))]) (callM (f1 D.len) [(pure (l_sizes))]))) >>= fun k => if k then leave ((pure (.bl false)) >>= fun d => pure (.rt d)) else (seqM (forF (enumM (bin D.ix (pure (l_thing)) (pure (.int 2)))) un2 () (fun p2 (s1 : Unit) => ((notM (asB (callM rc_L_shows [(pure (l_sizes)), (bin D.add (bin D.add (cutM (pure (l_draft)) (pure none) (partM (bin D.ix (pure (l_thing)) (pure (.int 1)))) D.cutI) (tupM [(pure (p2.1))])) (cutM (pure (l_draft)) (partM (bin D.add (bin D.ix (pure (l_thing)) (pure (.int 1))) (pure (.int 1)))) (pure none) D.cutI)), (pure (p2.2))]))) >>= fun k => if k then ((pure (.bl false)) >>= fun d => pure (.rt d)) else (pure (.nx ()))))) (fun (s1 : Unit) => ((pure (.bl true)) >>= fun d => pure (.rt d)))))))))
def Fl_L_shows (rc_L_shows : List D → M D) : List D → M (Fl Unit Empty)
  | [l_sizes, l_draft, l_thing] => B_L_shows rc_L_shows l_sizes l_draft l_thing
  | _ => fail
def D_L_shows : Nat → List D → M D
  | 0 => fun _ => endB false (fail : M (Fl Unit Empty))
  | n + 1 => fun ds => endB false (Fl_L_shows (D_L_shows n) ds)
theorem D_L_shows_eq (n : Nat) (l_sizes l_draft l_thing : D) : D_L_shows (n + 1) [l_sizes, l_draft, l_thing] = endB false (B_L_shows (D_L_shows n) l_sizes l_draft l_thing) := rfl

def B_L_cell_at (l_script l_k : D) : M (Fl Unit Empty) :=
  ((asB (bin D.lt (pure (l_k)) (callM (f1 D.len) [(pure (l_script))]))) >>= fun k => if k then leave ((bin D.ix (pure (l_script)) (pure (l_k))) >>= fun d => pure (.rt d)) else ((pure (.int 0)) >>= fun d => pure (.rt d)))
def Fl_L_cell_at : List D → M (Fl Unit Empty)
  | [l_script, l_k] => B_L_cell_at l_script l_k
  | _ => fail
def D_L_cell_at (ds : List D) : M D := endB false (Fl_L_cell_at ds)
theorem D_L_cell_at_eq (l_script l_k : D) : D_L_cell_at [l_script, l_k] = endB false (B_L_cell_at l_script l_k) := rfl

def B_L_rows (l_length l_size : D) : M (Fl Unit Empty) :=
  ((seqL []) >>= fun l_found => (seqM (forF (rng1 [(pure (l_length))]) tg1 (l_found) (fun l_first (s1 : List D) => (seqM (forF (rng2 [(pure (.int 1)), (pure (l_length))]) tg1 (s1) (fun l_step (s2 : List D) => (seqM ((asB (bin D.lt (bin D.add (pure (l_first)) (bin D.mulA (bin D.sub (pure (l_size)) (pure (.int 1))) (pure (l_step)))) (pure (l_length)))) >>= fun k => if k then (appM (s2) (tupM [(pure (l_first)), (pure (l_step))]) (fun d4 => (pure (.nx (s2 ++ [d4]))))) else (pure (.nx (s2)))) (fun (s3 : List D) => (pure (.nx (s3))))))) (fun (s2 : List D) => (pure (.nx (s2))))))) (fun (s1 : List D) => ((pure (.lst (s1))) >>= fun d => pure (.rt d)))))
def Fl_L_rows : List D → M (Fl Unit Empty)
  | [l_length, l_size] => B_L_rows l_length l_size
  | _ => fail
def D_L_rows (ds : List D) : M D := endB false (Fl_L_rows ds)
theorem D_L_rows_eq (l_length l_size : D) : D_L_rows [l_length, l_size] = endB false (B_L_rows l_length l_size) := rfl

def B_L_wrong (l_sizes l_draft : D) : M (Fl Unit Empty) :=
  ((seqL []) >>= fun l_found => (seqM (forF (enumM (pure (l_sizes))) un2 (l_found) (fun p2 (s1 : List D) => (seqM (forF ((callM D_L_rows [(callM (f1 D.len) [(pure (l_draft))]), (pure (p2.2))]) >>= itemsL) tg1 (s1) (fun l_row (s3 : List D) => (seqM ((asB (bin D.eqA ((lcF ((callM D_L_places [(pure (l_row)), (pure (p2.2))]) >>= itemsL) tg1 (fun l_place => (asB (bin D.neA (bin D.ix (pure (l_draft)) (pure (l_place))) (pure (p2.1))))) (fun l_place => (pure (l_place)))) >>= fun ds => pure (.lst ds)) ((seqL []) >>= fun ds => pure (.lst ds)))) >>= fun k => if k then (appM (s3) (pure (l_row)) (fun d5 => (pure (.nx (s3 ++ [d5]))))) else (pure (.nx (s3)))) (fun (s4 : List D) => (pure (.nx (s4))))))) (fun (s3 : List D) => (pure (.nx (s3))))))) (fun (s1 : List D) => (((seqL [(pure (.lst (s1)))] >>= fo1 D.sortT) >>= fun ds => pure (.lst ds)) >>= fun d => pure (.rt d)))))
def Fl_L_wrong : List D → M (Fl Unit Empty)
  | [l_sizes, l_draft] => B_L_wrong l_sizes l_draft
  | _ => fail
def D_L_wrong (ds : List D) : M D := endB false (Fl_L_wrong ds)
theorem D_L_wrong_eq (l_sizes l_draft : D) : D_L_wrong [l_sizes, l_draft] = endB false (B_L_wrong l_sizes l_draft) := rfl

def B_L_can (rc_L_can : List D → M D) (l_sizes l_draft : D) : M (Fl Unit Empty) :=
  ((asB (bin D.neA (callM D_L_wrong [(pure (l_sizes)), (pure (l_draft))]) ((seqL []) >>= fun ds => pure (.lst ds)))) >>= fun k => if k then leave ((pure (.bl false)) >>= fun d => pure (.rt d)) else (((lcF (enumM (pure (l_draft))) un2 (fun p1 => (asB (bin D.eqA (pure (p1.2)) ((pure (.int 1)) >>= D.neg)))) (fun p1 => (pure (p1.1)))) >>= fun ds => pure (.lst ds)) >>= fun l_blank => ((asB (bin D.eqA (pure (l_blank)) ((seqL []) >>= fun ds => pure (.lst ds)))) >>= fun k => if k then leave ((pure (.bl true)) >>= fun d => pure (.rt d)) else (seqM (forF (rng1 [(callM (f1 D.len) [(pure (l_sizes))])]) tg1 () (fun l_hue (s2 : Unit) => ((asB (callM rc_L_can [(pure (l_sizes)), (bin D.add (bin D.add (cutM (pure (l_draft)) (pure none) (partM (bin D.ix (pure (l_blank)) (pure (.int 0)))) D.cutI) (tupM [(pure (l_hue))])) (cutM (pure (l_draft)) (partM (bin D.add (bin D.ix (pure (l_blank)) (pure (.int 0))) (pure (.int 1)))) (pure none) D.cutI))])) >>= fun k => if k then ((pure (.bl true)) >>= fun d => pure (.rt d)) else (pure (.nx ()))))) (fun (s2 : Unit) => ((pure (.bl false)) >>= fun d => pure (.rt d)))))))
def Fl_L_can (rc_L_can : List D → M D) : List D → M (Fl Unit Empty)
  | [l_sizes, l_draft] => B_L_can rc_L_can l_sizes l_draft
  | _ => fail
def D_L_can : Nat → List D → M D
  | 0 => fun _ => endB false (fail : M (Fl Unit Empty))
  | n + 1 => fun ds => endB false (Fl_L_can (D_L_can n) ds)
theorem D_L_can_eq (n : Nat) (l_sizes l_draft : D) : D_L_can (n + 1) [l_sizes, l_draft] = endB false (B_L_can (D_L_can n) l_sizes l_draft) := rfl

def B_is_row_paper (v_sizes v_draft v_thing : D) : M (Fl Unit Empty) :=
  ((orM (asB (bin D.neA (callM (f1 D.len) [(pure (v_thing))]) (pure (.int 3)))) (orM (notM (asB (callM D_is_between [(bin D.ix (pure (v_thing)) (pure (.int 1))), (pure (.int 0)), (bin D.sub (callM (f1 D.len) [(pure (v_draft))]) (pure (.int 1)))]))) (notM (asB (callM D_is_between [(bin D.ix (pure (v_thing)) (pure (.int 2))), (pure (.int 1)), (callM (f1 D.len) [(pure (v_draft))])]))))) >>= fun k => if k then leave ((pure (.bl false)) >>= fun d => pure (.rt d)) else ((bin D.ix (pure (v_draft)) (bin D.ix (pure (v_thing)) (pure (.int 1)))) >>= fun v_hue => ((asB (bin D.lt (pure (v_hue)) (pure (.int 0)))) >>= fun k => if k then leave ((pure (.bl false)) >>= fun d => pure (.rt d)) else ((callM D_row_places [(cutM (pure (v_thing)) (partM (pure (.int 1))) (pure none) D.cutI), (bin D.ix (pure (v_sizes)) (pure (v_hue)))]) >>= fun v_places => ((andV (bin D.lt (bin D.ix (pure (v_places)) ((pure (.int 1)) >>= D.neg)) (callM (f1 D.len) [(pure (v_draft))])) (callM (f1 D.all) [((lcF ((pure (v_places)) >>= itemsL) tg1 (fun v_place => (pure true)) (fun v_place => (bin D.eqA (bin D.ix (pure (v_draft)) (pure (v_place))) (pure (v_hue))))) >>= fun ds => pure (.lst ds))])) >>= fun d => pure (.rt d))))))
def Fl_is_row_paper : List D → M (Fl Unit Empty)
  | [v_sizes, v_draft, v_thing] => B_is_row_paper v_sizes v_draft v_thing
  | _ => fail
def D_is_row_paper (ds : List D) : M D := endB false (Fl_is_row_paper ds)
theorem D_is_row_paper_eq (v_sizes v_draft v_thing : D) : D_is_row_paper [v_sizes, v_draft, v_thing] = endB false (B_is_row_paper v_sizes v_draft v_thing) := rfl

def B_is_blank (v_draft v_place : D) : M (Fl Unit Empty) :=
  ((andV (callM D_is_between [(pure (v_place)), (pure (.int 0)), (bin D.sub (callM (f1 D.len) [(pure (v_draft))]) (pure (.int 1)))]) (bin D.eqA (bin D.ix (pure (v_draft)) (pure (v_place))) (pure (.int (-1))))) >>= fun d => pure (.rt d))
def Fl_is_blank : List D → M (Fl Unit Empty)
  | [v_draft, v_place] => B_is_blank v_draft v_place
  | _ => fail
def D_is_blank (ds : List D) : M D := endB false (Fl_is_blank ds)
theorem D_is_blank_eq (v_draft v_place : D) : D_is_blank [v_draft, v_place] = endB false (B_is_blank v_draft v_place) := rfl

def B_good_paper (rc_good_paper : List D → M D) (v_sizes v_draft v_thing : D) : M (Fl Unit Empty) :=
  ((orM (notM (asB ((pure (v_thing)) >>= isaM .tuple))) (orM (asB (bin D.neA (callM (f1 D.len) [(pure (v_thing))]) (pure (.int 3)))) (notM (asB ((bin D.ix (pure (v_thing)) (pure (.int 0))) >>= isaM .str))))) >>= fun k => if k then leave ((pure (.bl false)) >>= fun d => pure (.rt d)) else ((asB (bin D.eqA (bin D.ix (pure (v_thing)) (pure (.int 0))) (pure (.str "row")))) >>= fun k => if k then leave ((callM D_is_row_paper [(pure (v_sizes)), (pure (v_draft)), (pure (v_thing))]) >>= fun d => pure (.rt d)) else ((orM (asB (bin D.neA (bin D.ix (pure (v_thing)) (pure (.int 0))) (pure (.str "cases")))) (notM (asB (callM D_is_blank [(pure (v_draft)), (bin D.ix (pure (v_thing)) (pure (.int 1)))])))) >>= fun k => if k then leave ((pure (.bl false)) >>= fun d => pure (.rt d)) else ((orM (notM (asB ((bin D.ix (pure (v_thing)) (pure (.int 2))) >>= isaM .tuple))) (asB (bin D.neA (callM (f1 D.len) [(bin D.ix (pure (v_thing)) (pure (.int 2)))]) (callM (f1 D.len) [(pure (v_sizes))])))) >>= fun k => if k then leave ((pure (.bl false)) >>= fun d => pure (.rt d)) else (seqM (forF (enumM (bin D.ix (pure (v_thing)) (pure (.int 2)))) un2 () (fun p2 (s1 : Unit) => ((notM (asB (callM rc_good_paper [(pure (v_sizes)), (callM D_with_hue [(pure (v_draft)), (bin D.ix (pure (v_thing)) (pure (.int 1))), (pure (p2.1))]), (pure (p2.2))]))) >>= fun k => if k then ((pure (.bl false)) >>= fun d => pure (.rt d)) else (pure (.nx ()))))) (fun (s1 : Unit) => ((pure (.bl true)) >>= fun d => pure (.rt d))))))))
def Fl_good_paper (rc_good_paper : List D → M D) : List D → M (Fl Unit Empty)
  | [v_sizes, v_draft, v_thing] => B_good_paper rc_good_paper v_sizes v_draft v_thing
  | _ => fail
def D_good_paper : Nat → List D → M D
  | 0 => fun _ => endB false (fail : M (Fl Unit Empty))
  | n + 1 => fun ds => endB false (Fl_good_paper (D_good_paper n) ds)
theorem D_good_paper_eq (n : Nat) (v_sizes v_draft v_thing : D) : D_good_paper (n + 1) [v_sizes, v_draft, v_thing] = endB false (B_good_paper (D_good_paper n) v_sizes v_draft v_thing) := rfl

def B_is_paper (v_sizes v_draft v_thing : D) : M (Fl Unit Empty) :=
  ((callM D_need_draft [(pure (v_sizes)), (pure (v_draft))]) >>= fun _ => ((callM (D_good_paper 40) [(pure (v_sizes)), (pure (v_draft)), (pure (v_thing))]) >>= fun d => pure (.rt d)))
def Fl_is_paper : List D → M (Fl Unit Empty)
  | [v_sizes, v_draft, v_thing] => B_is_paper v_sizes v_draft v_thing
  | _ => fail
def D_is_paper (ds : List D) : M D := endB false (Fl_is_paper ds)
theorem D_is_paper_eq (v_sizes v_draft v_thing : D) : D_is_paper [v_sizes, v_draft, v_thing] = endB false (B_is_paper v_sizes v_draft v_thing) := rfl

def B_law (l_script : D) : M (Fl Unit Empty) :=
  (seqM (forF (rng1 [(callM (f2 D.max2) [(pure (.int 1)), (callM (f2 D.min2) [(callM (f1 D.len) [(pure (l_script))]), (pure (.int 4))])])]) tg1 () (fun l_k (s1 : Unit) => ((callM D_L_pen [(callM D_L_cell_at [(pure (l_script)), (pure (l_k))])] >>= asL) >>= fun l_pen_here => guard (penOk false l_pen_here) >>= fun _ => ((callM D_L_few [(pure (.pen false))]) >>= fun l_sizes => ((callM D_L_knot [(pure (.pen false)), (pure (l_sizes)), (pure (.int 14)), (bin D.ix ((seqL [(pure (.int 0)), (pure (.int 5)), (bin D.sub (pure (.int 7)) (callM (f1 D.toInt) [(bin D.gt (pure (l_k)) (pure (.int 0)))])), (pure (.int 4))]) >>= fun ds => pure (.lst ds)) (callM (f1 D.len) [(pure (l_sizes))]))]) >>= fun l_draft => (seqM (forF ((tupM [(pure (l_draft)), (cutSM (pure (l_draft)) (pure none) (pure none) (partM ((pure (.int 1)) >>= D.neg))), (bin D.add (cutM (pure (l_draft)) (pure none) (partM (pure (.int 9))) D.cutI) (tupM [(pure (.int 0))])), (bin D.add (tupM [(pure (.int 0))]) (pure (l_draft)))]) >>= itemsL) tg1 () (fun l_some (s2 : Unit) => ((callM (D_L_can 40) [(pure (l_sizes)), (pure (l_some))]) >>= fun l_can_here => (seqM (forF (rng1 [(pure (.int 2))]) tg1 () (fun l_turn (s3 : Unit) => ((callM D_paper_for [(pure (l_sizes)), (pure (l_some))]) >>= fun l_found => ((asB (bin D.neA (bin isNF (pure (l_found)) (pure .non)) (pure (l_can_here)))) >>= fun k => if k then leave ((pure (.bl false)) >>= fun d => pure (.rt d)) else ((andM (asB (bin notNF (pure (l_found)) (pure .non))) (notM (asB (callM (D_L_shows 40) [(pure (l_sizes)), (pure (l_some)), (pure (l_found))])))) >>= fun k => if k then leave ((pure (.bl false)) >>= fun d => pure (.rt d)) else ((andM (asB (bin notNF (pure (l_found)) (pure .non))) (notM (asB (callM D_is_paper [(pure (l_sizes)), (pure (l_some)), (pure (l_found))])))) >>= fun k => if k then ((pure (.bl false)) >>= fun d => pure (.rt d)) else (pure (.nx ())))))))) (fun (s3 : Unit) => (pure (.nx ()))))))) (fun (s2 : Unit) => (pure (.nx ()))))))))) (fun (s1 : Unit) => (seqM (forF (((seqL [(tupM [(tupM [(pure (.int 2)), (pure (.int 2)), (pure (.int 2))]), (tupM [(pure (.int 0)), ((pure (.int 1)) >>= D.neg), ((pure (.int 1)) >>= D.neg), ((pure (.int 1)) >>= D.neg)])]), (tupM [(tupM [(pure (.int 2))]), (tupM [(pure (.int 0)), (pure (.int 0))])]), (tupM [(tupM [(pure (.int 2)), (pure (.int 3))]), (tupM [(pure (.int 0)), ((pure (.int 1)) >>= D.neg), ((pure (.int 1)) >>= D.neg), ((pure (.int 1)) >>= D.neg)])])]) >>= fun ds => pure (.lst ds)) >>= itemsL) un2 () (fun p5 (s4 : Unit) => ((notM (asB (callM (D_L_shows 40) [(pure (p5.1)), (pure (p5.2)), (callM D_paper_for [(pure (p5.1)), (pure (p5.2))])]))) >>= fun k => if k then ((pure (.bl false)) >>= fun d => pure (.rt d)) else (pure (.nx ()))))) (fun (s4 : Unit) => ((callM D_paper_for [(tupM [(pure (.int 3)), (pure (.int 3))]), (bin D.mulA (tupM [((pure (.int 1)) >>= D.neg)]) (pure (.int 9)))]) >>= fun l_found => ((andV (callM (D_L_shows 40) [(tupM [(pure (.int 3)), (pure (.int 3))]), (bin D.mulA (tupM [((pure (.int 1)) >>= D.neg)]) (pure (.int 9))), (pure (l_found))]) (bin isNF (callM D_paper_for [(tupM [(pure (.int 3)), (pure (.int 3))]), (bin D.mulA (tupM [((pure (.int 1)) >>= D.neg)]) (pure (.int 8)))]) (pure .non))) >>= fun d => pure (.rt d)))))))
def Fl_law : List D → M (Fl Unit Empty)
  | [l_script] => B_law l_script
  | _ => fail
def D_law (ds : List D) : M D := endB false (Fl_law ds)
theorem D_law_eq (l_script : D) : D_law [l_script] = endB false (B_law l_script) := rfl

end Ev

set_option maxHeartbeats 4000000
namespace Ev
open PySem PySem.Spec L2
variable [Tb]
def topS (i : Nat) : Stmt := PySem.Challenge.pw_evenhues_k32_papers_told.main.body.getD i (.Pass ⟨0, 0, 0, 0⟩)
structure Tx (K : PySem.W.Frag) (mg : Str → Option Value) : Prop where
  b_all : mg "all" = none
  b_bool : mg "bool" = none
  b_divmod : mg "divmod" = none
  b_enumerate : mg "enumerate" = none
  b_int : mg "int" = none
  b_isinstance : mg "isinstance" = none
  b_len : mg "len" = none
  b_max : mg "max" = none
  b_min : mg "min" = none
  b_range : mg "range" = none
  b_sorted : mg "sorted" = none
  b_str : mg "str" = none
  b_tuple : mg "tuple" = none
  c_BLANK : ∃ t : Tok, mg "BLANK" = some (.int (-1) t)
  c_HUES : ∃ t : Tok, mg "HUES" = some (.int 4 t)
  c_LEAST_SIZE : ∃ t : Tok, mg "LEAST_SIZE" = some (.int 2 t)
  c_MOST_PLACES : ∃ t : Tok, mg "MOST_PLACES" = some (.int 40 t)
  c_MOST_SIZE : ∃ t : Tok, mg "MOST_SIZE" = some (.int 8 t)
  c_MOST_WAYS : ∃ t : Tok, mg "MOST_WAYS" = some (.int 512 t)
  x_NoDraft : Xc K mg "NoDraft"
  x_NoSizes : Xc K mg "NoSizes"
  n_TooGreat : ∃ N : Addr, mg "TooGreat" = some (.ref N)
  n_HueError : ∃ N : Addr, mg "HueError" = some (.ref N)
section
variable {P : Program} {w : World} {K : PySem.W.Frag} {mg : Str → Option Value} {base : Heap}
abbrev st_Too : Stmt := (clsB (topS 4)).getD 0 (.Pass ⟨0, 0, 0, 0⟩)
theorem sc_Too : FnScope ["self", "many", "most"] ["self", "many", "most"] (defScope st_Too) := ⟨rfl, rfl, rfl, by decide +kernel, rfl, by decide +kernel, by decide +kernel⟩
theorem ok_Too {C fI B : Addr} {fd : FuncData} {mc : Value} (hC : mg "TooGreat" = some (.ref C)) (tc : TgC K C) (fi : PySem.W.findIn K (.ref C) "__init__" = some (some (.ref fI))) (ti : PySem.W.typeIn K (.ref fI) = some (.type "function"))
    (Fn : L2.Fun K "__init__" "TooGreat.__init__" st_Too fI fd) (bd : Binds K fd ["self", "many", "most"] []) (hB : mg "HueError" = some (.ref B)) (rd : ClX.CRead K B mc) (bi : PySem.W.findCls K (.ref B) mc "__init__" = some (.val (.builtin "ValueError.__init__"))) : Tg P w K mg base :=
  tg_of hC tc fi ti Fn bd sc_Too fun cdv A outer s H E => pss_cons (ps_expr (pe_binit rfl hB rd bi (pa_cons (pv 0) (pa_cons pe_str pa_nil)))) (pss_cons (ps_ost (pv 0) (pv 1)) (pss_one (ps_ost (pv 0) (pv 2))))
abbrev st_is_whole : Stmt := topS 8
abbrev N_is_whole : List Str := ["thing"]
theorem sc_is_whole : FnScope N_is_whole ["thing"] (defScope st_is_whole) := ⟨rfl, rfl, rfl, by decide +kernel, rfl, by decide +kernel, by decide +kernel⟩
theorem ok_is_whole (T : Tx K mg) (d : Df K mg "is_whole" st_is_whole ["thing"])  : Cd false P w K mg base "is_whole" 1 ["thing"] (spD K mg false 1 D_is_whole) := by
  refine cd_of (k := 0) false (F := Fl_is_whole) d sc_is_whole fun f cdv A outer s H E hr hg => ⟨_, (pss_one (ps_ret (pe_and (pe_callB (call_isiK (K := K) rfl) (by exact rfl) T.b_isinstance bt_isinstance (pa_cons (pv 0) (pa_cons (pe_bltn (v := V.ty "int") (by exact rfl) T.b_int bt_int rfl) pa_nil))) (pe_one (pe_not (pe_callB (call_isiK (K := K) rfl) (by exact rfl) T.b_isinstance bt_isinstance (pa_cons (pv 0) (pa_cons (pe_bltn (v := V.ty "bool") (by exact rfl) T.b_bool bt_bool rfl) pa_nil)))))))), fun ds hl => ?_⟩
  match ds, hl with
  | [v_thing], _ =>
    show SS _ _ _ [.val (v_thing)] (enc0 1) _ (B_is_whole v_thing)
    unfold B_is_whole
    exact (ss_ret (se_and (se_isa .int (se_var (k := 0) rfl)) (se_not (se_isa .bool (se_var (k := 0) rfl)))))

abbrev st_is_between : Stmt := topS 9
abbrev N_is_between : List Str := ["thing", "least", "most"]
theorem sc_is_between : FnScope N_is_between ["thing", "least", "most"] (defScope st_is_between) := ⟨rfl, rfl, rfl, by decide +kernel, rfl, by decide +kernel, by decide +kernel⟩
theorem ok_is_between (T : Tx K mg) (d : Df K mg "is_between" st_is_between ["thing", "least", "most"]) (c_is_whole : Cd false P w K mg base "is_whole" 1 ["thing"] (spD K mg false 1 D_is_whole)) : Cd false P w K mg base "is_between" 2 ["thing", "least", "most"] (spD K mg false 3 D_is_between) := by
  refine cd_of (k := 1) false (F := Fl_is_between) d sc_is_between fun f cdv A outer s H E hr hg => ⟨_, (pss_one (ps_ret (pe_and (pe_cd c_is_whole hr (fun z => nomatch z) pass_def (pa_cons (pv 0) pa_nil)) (pe_one (pe_chain op_le op_le (pv 1) (pv 0) (pv 2)))))), fun ds hl => ?_⟩
  match ds, hl with
  | [v_thing, v_least, v_most], _ =>
    show SS _ _ _ [.val (v_thing), .val (v_least), .val (v_most)] (enc0 3) _ (B_is_between v_thing v_least v_most)
    unfold B_is_between
    exact (ss_ret (se_and (se_g (sa_cons (se_var (k := 0) rfl) sa_nil) rfl) (se_chain os_le os_le (se_var (k := 1) rfl) (se_var (k := 0) rfl) (se_var (k := 2) rfl))))

abbrev st_are_sizes : Stmt := topS 17
abbrev N_are_sizes : List Str := ["thing", "size"]
theorem sc_are_sizes : FnScope N_are_sizes ["thing"] (defScope st_are_sizes) := ⟨rfl, rfl, rfl, by decide +kernel, rfl, by decide +kernel, by decide +kernel⟩
theorem ok_are_sizes (T : Tx K mg) (d : Df K mg "are_sizes" st_are_sizes ["thing"]) (c_is_between : Cd false P w K mg base "is_between" 2 ["thing", "least", "most"] (spD K mg false 3 D_is_between)) : Cd false P w K mg base "are_sizes" 3 ["thing"] (spD K mg false 1 D_are_sizes) := by
  obtain ⟨t_HUES, g_HUES⟩ := T.c_HUES
  obtain ⟨t_LEAST_SIZE, g_LEAST_SIZE⟩ := T.c_LEAST_SIZE
  obtain ⟨t_MOST_SIZE, g_MOST_SIZE⟩ := T.c_MOST_SIZE
  refine cd_of (k := 2) false (F := Fl_are_sizes) d sc_are_sizes fun f cdv A outer s H E hr hg => ⟨_, (pss_cons (ps_if (PW.pt (pw_or (pt_not (pt_val (pe_callB (call_isiK (K := K) rfl) (by exact rfl) T.b_isinstance bt_isinstance (pa_cons (pv 0) (pa_cons (pe_bltn (v := V.ty "tuple") (by exact rfl) T.b_tuple bt_tuple rfl) pa_nil))))) (pw_or1 (pt_not (pt_chain op_le op_le pe_int (pe_callB (call_lenK (K := K) rfl) (by exact rfl) T.b_len bt_len (pa_cons (pv 0) pa_nil)) (pe_glob (v := V.int 4) (by exact rfl) g_HUES ⟨_, rfl⟩)))))) (pss_one (ps_ret pe_bl)) pss_nil) (pss_one (ps_ret (pe_callB (call_allK (K := K) rfl rfl) (by exact rfl) T.b_all bt_all (pa_cons (pe_lc (own := [("size", 1)]) rfl sc_are_sizes.nd (pi_seqK (K := K) rfl (pv 0)) (blkOk_by (own := [("size", 1)]) (N := N_are_sizes) (sc := defScope st_are_sizes) (by decide +kernel)) (fun _ _ _ _ _ => (pg_name (i := 1) sc_are_sizes.nd rfl (by first | exact .inl rfl | exact .inr rfl))) (fun _ _ _ _ _ => pts_nil) (fun _ _ _ _ _ => (pe_cd c_is_between hr (fun z => nomatch z) passL (pa_cons (pv 1) (pa_cons (pe_glob (v := V.int 2) (by exact rfl) g_LEAST_SIZE ⟨_, rfl⟩) (pa_cons (pe_glob (v := V.int 8) (by exact rfl) g_MOST_SIZE ⟨_, rfl⟩) pa_nil)))))) pa_nil))))), fun ds hl => ?_⟩
  match ds, hl with
  | [v_thing], _ =>
    show SS _ _ _ [.val (v_thing), .no] (enc0 2) _ (B_are_sizes v_thing)
    unfold B_are_sizes
    exact (ss_ifl (sb_or (sb_not (sb_val (se_isa .tuple (se_var (k := 0) rfl)))) (sb_not (sb_test (se_chain os_le os_le se_int (se_cb cs_len (sa_cons (se_var (k := 0) rfl) sa_nil)) (se_int (i := 4)))))) (ss_ret se_bl) (ss_ret (se_cb cs_all (sa_cons (so_se (so_lc (si_seq (se_var (k := 0) rfl)) (sg_name (i := 1)) (by decide) (fun (v_size : D) => sb_yes) (fun (v_size : D) => (se_g (sa_cons (se_var (k := 1) rfl) (sa_cons (se_int (i := 2)) (sa_cons (se_int (i := 8)) sa_nil))) rfl)))) sa_nil))))

abbrev st_need_sizes : Stmt := topS 18
abbrev N_need_sizes : List Str := ["sizes"]
theorem sc_need_sizes : FnScope N_need_sizes ["sizes"] (defScope st_need_sizes) := ⟨rfl, rfl, rfl, by decide +kernel, rfl, by decide +kernel, by decide +kernel⟩
theorem ok_need_sizes (T : Tx K mg) (d : Df K mg "need_sizes" st_need_sizes ["sizes"]) (c_are_sizes : Cd false P w K mg base "are_sizes" 3 ["thing"] (spD K mg false 1 D_are_sizes)) : Cd false P w K mg base "need_sizes" 4 ["sizes"] (spD K mg false 1 D_need_sizes) := by
  obtain ⟨C_NoSizes, xg_NoSizes, xx_NoSizes, xk_NoSizes, xb_NoSizes, xt_NoSizes⟩ := T.x_NoSizes
  refine cd_of (k := 3) false (F := Fl_need_sizes) d sc_need_sizes fun f cdv A outer s H E hr hg => ⟨_, (pss_one (ps_if (pt_not (pt_val (pe_cd c_are_sizes hr (fun z => nomatch z) pass_def (pa_cons (pv 0) pa_nil)))) (pss_one (ps_raise rfl (takes_of (E := E) rfl rfl rfl rfl) (pmk_own PySem.F.excBase_ValueError xx_NoSizes xg_NoSizes xk_NoSizes (raises_own xb_NoSizes xt_NoSizes) (by exact rfl)))) pss_nil)), fun ds hl => ?_⟩
  match ds, hl with
  | [v_sizes], _ =>
    show SS _ _ _ [.val (v_sizes)] (enc0 1) _ (B_need_sizes v_sizes)
    unfold B_need_sizes
    exact (ss_if (sb_not (sb_val (se_g (sa_cons (se_var (k := 0) rfl) sa_nil) rfl))) (ss_raise (x := "NoSizes") xg_NoSizes) (ss_next (.no .nil)))

abbrev st_good_draft : Stmt := topS 23
abbrev N_good_draft : List Str := ["sizes", "thing", "hue"]
theorem sc_good_draft : FnScope N_good_draft ["sizes", "thing"] (defScope st_good_draft) := ⟨rfl, rfl, rfl, by decide +kernel, rfl, by decide +kernel, by decide +kernel⟩
theorem ok_good_draft (T : Tx K mg) (d : Df K mg "good_draft" st_good_draft ["sizes", "thing"]) (c_is_between : Cd false P w K mg base "is_between" 2 ["thing", "least", "most"] (spD K mg false 3 D_is_between)) : Cd false P w K mg base "good_draft" 3 ["sizes", "thing"] (spD K mg false 2 D_good_draft) := by
  obtain ⟨t_MOST_PLACES, g_MOST_PLACES⟩ := T.c_MOST_PLACES
  obtain ⟨t_BLANK, g_BLANK⟩ := T.c_BLANK
  refine cd_of (k := 2) false (F := Fl_good_draft) d sc_good_draft fun f cdv A outer s H E hr hg => ⟨_, (pss_cons (ps_if (PW.pt (pw_or (pt_not (pt_val (pe_callB (call_isiK (K := K) rfl) (by exact rfl) T.b_isinstance bt_isinstance (pa_cons (pv 1) (pa_cons (pe_bltn (v := V.ty "tuple") (by exact rfl) T.b_tuple bt_tuple rfl) pa_nil))))) (pw_or1 (pt_cmpR op_gt (pe_callB (call_lenK (K := K) rfl) (by exact rfl) T.b_len bt_len (pa_cons (pv 1) pa_nil)) (pe_glob (v := V.int 40) (by exact rfl) g_MOST_PLACES ⟨_, rfl⟩) (nomark _))))) (pss_one (ps_ret pe_bl)) pss_nil) (pss_one (ps_ret (pe_callB (call_allK (K := K) rfl rfl) (by exact rfl) T.b_all bt_all (pa_cons (pe_lc (own := [("hue", 2)]) rfl sc_good_draft.nd (pi_seqK (K := K) rfl (pv 1)) (blkOk_by (own := [("hue", 2)]) (N := N_good_draft) (sc := defScope st_good_draft) (by decide +kernel)) (fun _ _ _ _ _ => (pg_name (i := 2) sc_good_draft.nd rfl (by first | exact .inl rfl | exact .inr rfl))) (fun _ _ _ _ _ => pts_nil) (fun _ _ _ _ _ => (pe_cd c_is_between hr (fun z => nomatch z) passL (pa_cons (pv 2) (pa_cons (pe_glob (v := V.int (-1)) (by exact rfl) g_BLANK ⟨_, rfl⟩) (pa_cons (pe_op op_sub (pe_callB (call_lenK (K := K) rfl) (by exact rfl) T.b_len bt_len (pa_cons (pv 0) pa_nil)) pe_int) pa_nil)))))) pa_nil))))), fun ds hl => ?_⟩
  match ds, hl with
  | [v_sizes, v_thing], _ =>
    show SS _ _ _ [.val (v_sizes), .val (v_thing), .no] (enc0 3) _ (B_good_draft v_sizes v_thing)
    unfold B_good_draft
    exact (ss_ifl (sb_or (sb_not (sb_val (se_isa .tuple (se_var (k := 1) rfl)))) (sb_test (se_op os_gt (se_cb cs_len (sa_cons (se_var (k := 1) rfl) sa_nil)) (se_int (i := 40))))) (ss_ret se_bl) (ss_ret (se_cb cs_all (sa_cons (so_se (so_lc (si_seq (se_var (k := 1) rfl)) (sg_name (i := 2)) (by decide) (fun (v_hue : D) => sb_yes) (fun (v_hue : D) => (se_g (sa_cons (se_var (k := 2) rfl) (sa_cons (se_int (i := (-1))) (sa_cons (se_op os_sub (se_cb cs_len (sa_cons (se_var (k := 0) rfl) sa_nil)) se_int) sa_nil))) rfl)))) sa_nil))))

abbrev st_need_draft : Stmt := topS 24
abbrev N_need_draft : List Str := ["sizes", "draft"]
theorem sc_need_draft : FnScope N_need_draft ["sizes", "draft"] (defScope st_need_draft) := ⟨rfl, rfl, rfl, by decide +kernel, rfl, by decide +kernel, by decide +kernel⟩
theorem ok_need_draft (T : Tx K mg) (d : Df K mg "need_draft" st_need_draft ["sizes", "draft"]) (c_need_sizes : Cd false P w K mg base "need_sizes" 4 ["sizes"] (spD K mg false 1 D_need_sizes)) (c_good_draft : Cd false P w K mg base "good_draft" 3 ["sizes", "thing"] (spD K mg false 2 D_good_draft)) : Cd false P w K mg base "need_draft" 5 ["sizes", "draft"] (spD K mg false 2 D_need_draft) := by
  obtain ⟨C_NoDraft, xg_NoDraft, xx_NoDraft, xk_NoDraft, xb_NoDraft, xt_NoDraft⟩ := T.x_NoDraft
  refine cd_of (k := 4) false (F := Fl_need_draft) d sc_need_draft fun f cdv A outer s H E hr hg => ⟨_, (pss_cons (ps_expr (pe_cd c_need_sizes hr (fun z => nomatch z) pass_def (pa_cons (pv 0) pa_nil))) (pss_one (ps_if (pt_not (pt_val (pe_cd c_good_draft hr (fun z => nomatch z) pass_def (pa_cons (pv 0) (pa_cons (pv 1) pa_nil))))) (pss_one (ps_raise rfl (takes_of (E := E) rfl rfl rfl rfl) (pmk_own PySem.F.excBase_ValueError xx_NoDraft xg_NoDraft xk_NoDraft (raises_own xb_NoDraft xt_NoDraft) (by exact rfl)))) pss_nil))), fun ds hl => ?_⟩
  match ds, hl with
  | [v_sizes, v_draft], _ =>
    show SS _ _ _ [.val (v_sizes), .val (v_draft)] (enc0 2) _ (B_need_draft v_sizes v_draft)
    unfold B_need_draft
    exact (ss_expr (se_g (sa_cons (se_var (k := 0) rfl) sa_nil) rfl) (ss_if (sb_not (sb_val (se_g (sa_cons (se_var (k := 0) rfl) (sa_cons (se_var (k := 1) rfl) sa_nil)) rfl))) (ss_raise (x := "NoDraft") xg_NoDraft) (ss_next (.no (.no .nil)))))

abbrev st_blanks : Stmt := topS 25
abbrev N_blanks : List Str := ["draft", "place", "hue"]
theorem sc_blanks : FnScope N_blanks ["draft"] (defScope st_blanks) := ⟨rfl, rfl, rfl, by decide +kernel, rfl, by decide +kernel, by decide +kernel⟩
theorem ok_blanks (T : Tx K mg) (d : Df K mg "blanks" st_blanks ["draft"])  : Cd false P w K mg base "blanks" 1 ["draft"] (spD K mg false 1 D_blanks) := by
  obtain ⟨t_BLANK, g_BLANK⟩ := T.c_BLANK
  refine cd_of (k := 0) false (F := Fl_blanks) d sc_blanks fun f cdv A outer s H E hr hg => ⟨_, (pss_one (ps_ret (pe_lc (own := [("place", 1), ("hue", 2)]) rfl sc_blanks.nd (pi_enumA (K := K) rfl (by exact rfl) T.b_enumerate (pa_cons (pv 0) pa_nil)) (blkOk_by (own := [("place", 1), ("hue", 2)]) (N := N_blanks) (sc := defScope st_blanks) (by decide +kernel)) (fun _ _ _ _ _ => (pg_tupK (n := 2) (K := K) rfl rfl (pgs_cons (pg_name (i := 1) sc_blanks.nd rfl (by first | exact .inl rfl | exact .inr rfl)) (pgs_cons (pg_name (i := 2) sc_blanks.nd rfl (by first | exact .inl rfl | exact .inr rfl)) pgs_nil)))) (fun _ _ _ _ _ => (pts_one (pt_cmpR (op_eqK (K := K) rfl hr.units) (pv 2) (pe_glob (v := V.int (-1)) (by exact rfl) g_BLANK ⟨_, rfl⟩) (nomark _)))) (fun _ _ _ _ _ => (pv 1))))), fun ds hl => ?_⟩
  match ds, hl with
  | [v_draft], _ =>
    show SS _ _ _ [.val (v_draft), .no, .no] (enc0 3) _ (B_blanks v_draft)
    unfold B_blanks
    exact (ss_ret (so_se (so_lc (si_enum (se_var (k := 0) rfl)) (sg_two (i := 1) (j := 2)) (by decide) (fun (p1 : D × D) => (sb_test (se_op os_eqA (se_var (k := 2) rfl) (se_int (i := (-1)))))) (fun (p1 : D × D) => (se_var (k := 1) rfl)))))

abbrev st_ways_to_put : Stmt := topS 32
abbrev N_ways_to_put : List Str := ["sizes", "draft", "found", "place"]
theorem sc_ways_to_put : FnScope N_ways_to_put ["sizes", "draft"] (defScope st_ways_to_put) := ⟨rfl, rfl, rfl, by decide +kernel, rfl, by decide +kernel, by decide +kernel⟩
theorem ok_ways_to_put (T : Tx K mg) (d : Df K mg "ways_to_put" st_ways_to_put ["sizes", "draft"]) (c_blanks : Cd false P w K mg base "blanks" 1 ["draft"] (spD K mg false 1 D_blanks)) : Cd false P w K mg base "ways_to_put" 2 ["sizes", "draft"] (spD K mg false 2 D_ways_to_put) := by
  refine cd_of (k := 1) false (F := Fl_ways_to_put) d sc_ways_to_put fun f cdv A outer s H E hr hg => ⟨_, (pss_cons (ps_set (i := 2) sc_ways_to_put.nd rfl (by first | exact .inl rfl | exact .inr rfl) pe_int) (pss_cons (ps_for (passes_of rfl) rfl (pi_seqK (K := K) rfl (pe_cd c_blanks hr (fun z => nomatch z) pass_def (pa_cons (pv 1) pa_nil))) (pg_name (i := 3) sc_ways_to_put.nd rfl (by first | exact .inl rfl | exact .inr rfl)) (pss_cons (ps_set (i := 2) sc_ways_to_put.nd rfl (by first | exact .inl rfl | exact .inr rfl) (pe_op (op_mulB (K := K) rfl) (pv 2) (pe_callB (call_max2 rfl) (by exact rfl) T.b_max bt_max (pa_cons pe_int (pa_cons (pe_callB (call_lenK (K := K) rfl) (by exact rfl) T.b_len bt_len (pa_cons (pv 0) pa_nil)) pa_nil))))) pss_nil)) (pss_one (ps_ret (pv 2))))), fun ds hl => ?_⟩
  match ds, hl with
  | [v_sizes, v_draft], _ =>
    show SS _ _ _ [.val (v_sizes), .val (v_draft), .no, .no] (enc0 4) _ (B_ways_to_put v_sizes v_draft)
    unfold B_ways_to_put
    exact (ss_set se_int (fun v_found => (ss_seq (enc := fun (s1 : D) => [.val (v_sizes), .no, .val (s1), .no]) (ss_for (enc := fun (s1 : D) => [.val (v_sizes), .no, .val (s1), .no]) (s0 := (v_found)) (si_seq (se_g (sa_cons (se_var (k := 1) rfl) sa_nil) rfl)) (.same (.no (.same (.no .nil)))) (fun s1 => (sg_name (i := 3))) (fun s1 v_place => (ss_set (se_op os_mulB (se_var (k := 2) rfl) (se_cb cs_max2 (sa_cons se_int (sa_cons (se_cb cs_len (sa_cons (se_var (k := 0) rfl) sa_nil)) sa_nil)))) (fun v_found => (ss_next (.same (.no (.same (.no .nil))))))))) (fun s1 => (ss_ret (se_var (k := 2) rfl))))))

abbrev st_need_few : Stmt := topS 33
abbrev N_need_few : List Str := ["sizes", "draft", "most"]
theorem sc_need_few : FnScope N_need_few ["sizes", "draft", "most"] (defScope st_need_few) := ⟨rfl, rfl, rfl, by decide +kernel, rfl, by decide +kernel, by decide +kernel⟩
theorem ok_need_few (T : Tx K mg) (d : Df K mg "need_few" st_need_few ["sizes", "draft", "most"]) (c_need_draft : Cd false P w K mg base "need_draft" 5 ["sizes", "draft"] (spD K mg false 2 D_need_draft)) (c_ways_to_put : Cd false P w K mg base "ways_to_put" 2 ["sizes", "draft"] (spD K mg false 2 D_ways_to_put)) (c_too : Tg P w K mg base) : Cd false P w K mg base "need_few" 6 ["sizes", "draft", "most"] (spD K mg false 3 D_need_few) := by
  obtain ⟨N_TooGreat, gn_TooGreat⟩ := T.n_TooGreat
  refine cd_of (k := 5) false (F := Fl_need_few) d sc_need_few fun f cdv A outer s H E hr hg => ⟨_, (pss_cons (ps_expr (pe_cd c_need_draft hr (fun z => nomatch z) pass_def (pa_cons (pv 0) (pa_cons (pv 1) pa_nil)))) (pss_one (ps_if (pt_cmpR op_gt (pe_cd c_ways_to_put hr (fun z => nomatch z) pass_def (pa_cons (pv 0) (pa_cons (pv 1) pa_nil))) (pv 2) (nomark _)) (pss_one (ps_raise rfl (takes_of (E := E) rfl rfl rfl rfl) (pmk_too c_too gn_TooGreat (hr.mono (by decide)) (pa_cons (pe_cd c_ways_to_put hr (fun z => nomatch z) pass_def (pa_cons (pv 0) (pa_cons (pv 1) pa_nil))) (pa_cons (pv 2) pa_nil))))) pss_nil))), fun ds hl => ?_⟩
  match ds, hl with
  | [v_sizes, v_draft, v_most], _ =>
    show SS _ _ _ [.val (v_sizes), .val (v_draft), .val (v_most)] (enc0 3) _ (B_need_few v_sizes v_draft v_most)
    unfold B_need_few
    exact (ss_expr (se_g (sa_cons (se_var (k := 0) rfl) (sa_cons (se_var (k := 1) rfl) sa_nil)) rfl) (ss_if (sb_test (se_op os_gt (se_g (sa_cons (se_var (k := 0) rfl) (sa_cons (se_var (k := 1) rfl) sa_nil)) rfl) (se_var (k := 2) rfl))) (ss_too gn_TooGreat (sa_cons (se_g (sa_cons (se_var (k := 0) rfl) (sa_cons (se_var (k := 1) rfl) sa_nil)) rfl) (sa_cons (se_var (k := 2) rfl) sa_nil))) (ss_next (.no (.no (.no .nil))))))

abbrev st_lying_rows : Stmt := topS 14
abbrev N_lying_rows : List Str := ["length", "size", "found", "first", "widest", "step"]
theorem sc_lying_rows : FnScope N_lying_rows ["length", "size"] (defScope st_lying_rows) := ⟨rfl, rfl, rfl, by decide +kernel, rfl, by decide +kernel, by decide +kernel⟩
theorem ok_lying_rows (T : Tx K mg) (d : Df K mg "lying_rows" st_lying_rows ["length", "size"])  : Cd false P w K mg base "lying_rows" 1 ["length", "size"] (spD K mg false 2 D_lying_rows) := by
  refine cd_of (k := 0) false (F := Fl_lying_rows) d sc_lying_rows fun f cdv A outer s H E hr hg => ⟨_, (pss_cons (ps_set (i := 2) sc_lying_rows.nd rfl (by first | exact .inl rfl | exact .inr rfl) (pe_lst pa_nil)) (pss_cons (ps_for (passes_of rfl) rfl (pi_range1 (by exact rfl) T.b_range (pa_cons (pv 0) pa_nil)) (pg_name (i := 3) sc_lying_rows.nd rfl (by first | exact .inl rfl | exact .inr rfl)) (pss_cons (ps_set (i := 4) sc_lying_rows.nd rfl (by first | exact .inl rfl | exact .inr rfl) (pe_op op_fdiv (pe_op op_sub (pe_op op_sub (pv 0) pe_int) (pv 3)) (pe_op op_sub (pv 1) pe_int))) (pss_cons (ps_expr (pe_bm PySem.F.plainAttrs_list PySem.F.slot_list_extend PySem.F.type_list_extend mt_extend (pv 2) (pa_cons (pe_lc (own := [("step", 5)]) rfl sc_lying_rows.nd (pi_range2 (by exact rfl) T.b_range (pa_cons pe_int (pa_cons (pe_op (op_addK (K := K) rfl) (pv 4) pe_int) pa_nil))) (blkOk_by (own := [("step", 5)]) (N := N_lying_rows) (sc := defScope st_lying_rows) (by decide +kernel)) (fun _ _ _ _ _ => (pg_name (i := 5) sc_lying_rows.nd rfl (by first | exact .inl rfl | exact .inr rfl))) (fun _ _ _ _ _ => pts_nil) (fun _ _ _ _ _ => (pe_tupB (pa_cons (pv 3) (pa_cons (pv 5) pa_nil))))) pa_nil))) pss_nil))) (pss_one (ps_ret (pv 2))))), fun ds hl => ?_⟩
  match ds, hl with
  | [v_length, v_size], _ =>
    show SS _ _ _ [.val (v_length), .val (v_size), .no, .no, .no, .no] (enc0 6) _ (B_lying_rows v_length v_size)
    unfold B_lying_rows
    exact (ss_seto (so_lst sa_nil (Nat.le_of_ble_eq_true rfl)) (fun v_found => (ss_seq (enc := fun (s1 : List D) => [.val (v_length), .val (v_size), .own (s1), .no, .no, .no]) (ss_for (enc := fun (s1 : List D) => [.val (v_length), .val (v_size), .own (s1), .no, .no, .no]) (s0 := (v_found)) (si_rng1 (sa_cons (se_var (k := 0) rfl) sa_nil)) (.same (.same (.same (.no (.no (.no .nil)))))) (fun s1 => (sg_name (i := 3))) (fun s1 v_first => (ss_set (se_op os_fdiv (se_op os_sub (se_op os_sub (se_var (k := 0) rfl) se_int) (se_var (k := 3) rfl)) (se_op os_sub (se_var (k := 1) rfl) se_int)) (fun v_widest => (ss_ext (i := 2) rfl (so_se (so_lc (si_rng2 (sa_cons se_int (sa_cons (se_op os_add (se_var (k := 4) rfl) se_int) sa_nil))) (sg_name (i := 5)) (by decide) (fun (v_step : D) => sb_yes) (fun (v_step : D) => (se_tup (sa_cons (se_var (k := 3) rfl) (sa_cons (se_var (k := 5) rfl) sa_nil)) (Nat.le_of_ble_eq_true rfl))))) (fun d2 => (ss_next (.same (.same (.same (.no (.no (.no .nil))))))))))))) (fun s1 => (ss_freeze (i := 2) rfl (ss_ret (se_var (k := 2) rfl)))))))

abbrev st_row_places : Stmt := topS 13
abbrev N_row_places : List Str := ["row", "size", "k"]
theorem sc_row_places : FnScope N_row_places ["row", "size"] (defScope st_row_places) := ⟨rfl, rfl, rfl, by decide +kernel, rfl, by decide +kernel, by decide +kernel⟩
theorem ok_row_places (T : Tx K mg) (d : Df K mg "row_places" st_row_places ["row", "size"])  : Cd false P w K mg base "row_places" 1 ["row", "size"] (spD K mg false 2 D_row_places) := by
  refine cd_of (k := 0) false (F := Fl_row_places) d sc_row_places fun f cdv A outer s H E hr hg => ⟨_, (pss_one (ps_ret (pe_callTy (call_tupleK (K := K) rfl) (by exact rfl) T.b_tuple bt_tuple (pa_cons (pe_lc (own := [("k", 2)]) rfl sc_row_places.nd (pi_range1 (by exact rfl) T.b_range (pa_cons (pv 1) pa_nil)) (blkOk_by (own := [("k", 2)]) (N := N_row_places) (sc := defScope st_row_places) (by decide +kernel)) (fun _ _ _ _ _ => (pg_name (i := 2) sc_row_places.nd rfl (by first | exact .inl rfl | exact .inr rfl))) (fun _ _ _ _ _ => pts_nil) (fun _ _ _ _ _ => (pe_op (op_addK (K := K) rfl) (pe_ix (ix_anyK (K := K) rfl) (pv 0) pe_int (fun _ _ => rfl)) (pe_op (op_mulB (K := K) rfl) (pv 2) (pe_ix (ix_anyK (K := K) rfl) (pv 0) pe_int (fun _ _ => rfl)))))) pa_nil)))), fun ds hl => ?_⟩
  match ds, hl with
  | [v_row, v_size], _ =>
    show SS _ _ _ [.val (v_row), .val (v_size), .no] (enc0 3) _ (B_row_places v_row v_size)
    unfold B_row_places
    exact (ss_ret (se_cb cs_tup (sa_cons (so_se (so_lc (si_rng1 (sa_cons (se_var (k := 1) rfl) sa_nil)) (sg_name (i := 2)) (by decide) (fun (v_k : D) => sb_yes) (fun (v_k : D) => (se_op os_add (se_op os_ix (se_var (k := 0) rfl) se_int) (se_op os_mulB (se_var (k := 2) rfl) (se_op os_ix (se_var (k := 0) rfl) se_int)))))) sa_nil)))

abbrev st_has_hue : Stmt := topS 19
abbrev N_has_hue : List Str := ["strip", "row", "size", "hue", "place"]
theorem sc_has_hue : FnScope N_has_hue ["strip", "row", "size", "hue"] (defScope st_has_hue) := ⟨rfl, rfl, rfl, by decide +kernel, rfl, by decide +kernel, by decide +kernel⟩
theorem ok_has_hue (T : Tx K mg) (d : Df K mg "has_hue" st_has_hue ["strip", "row", "size", "hue"]) (c_row_places : Cd false P w K mg base "row_places" 1 ["row", "size"] (spD K mg false 2 D_row_places)) : Cd false P w K mg base "has_hue" 2 ["strip", "row", "size", "hue"] (spD K mg false 4 D_has_hue) := by
  refine cd_of (k := 1) false (F := Fl_has_hue) d sc_has_hue fun f cdv A outer s H E hr hg => ⟨_, (pss_one (ps_ret (pe_callB (call_allK (K := K) rfl rfl) (by exact rfl) T.b_all bt_all (pa_cons (pe_lc (own := [("place", 4)]) rfl sc_has_hue.nd (pi_seqK (K := K) rfl (pe_cd c_row_places hr (fun z => nomatch z) pass_def (pa_cons (pv 1) (pa_cons (pv 2) pa_nil)))) (blkOk_by (own := [("place", 4)]) (N := N_has_hue) (sc := defScope st_has_hue) (by decide +kernel)) (fun _ _ _ _ _ => (pg_name (i := 4) sc_has_hue.nd rfl (by first | exact .inl rfl | exact .inr rfl))) (fun _ _ _ _ _ => pts_nil) (fun _ _ _ _ _ => (pe_cmpR (op_eqK (K := K) rfl hr.units) (pe_ix (ix_anyK (K := K) rfl) (pv 0) (pv 4) (fun _ _ => rfl)) (pv 3) (nomark _)))) pa_nil)))), fun ds hl => ?_⟩
  match ds, hl with
  | [v_strip, v_row, v_size, v_hue], _ =>
    show SS _ _ _ [.val (v_strip), .val (v_row), .val (v_size), .val (v_hue), .no] (enc0 5) _ (B_has_hue v_strip v_row v_size v_hue)
    unfold B_has_hue
    exact (ss_ret (se_cb cs_all (sa_cons (so_se (so_lc (si_seq (se_g (sa_cons (se_var (k := 1) rfl) (sa_cons (se_var (k := 2) rfl) sa_nil)) rfl)) (sg_name (i := 4)) (by decide) (fun (v_place : D) => sb_yes) (fun (v_place : D) => (se_op os_eqA (se_op os_ix (se_var (k := 0) rfl) (se_var (k := 4) rfl)) (se_var (k := 3) rfl))))) sa_nil)))

abbrev st_wrong_rows : Stmt := topS 20
abbrev N_wrong_rows : List Str := ["sizes", "strip", "found", "hue", "size", "row"]
theorem sc_wrong_rows : FnScope N_wrong_rows ["sizes", "strip"] (defScope st_wrong_rows) := ⟨rfl, rfl, rfl, by decide +kernel, rfl, by decide +kernel, by decide +kernel⟩
theorem ok_wrong_rows (T : Tx K mg) (d : Df K mg "wrong_rows" st_wrong_rows ["sizes", "strip"]) (c_lying_rows : Cd false P w K mg base "lying_rows" 1 ["length", "size"] (spD K mg false 2 D_lying_rows)) (c_has_hue : Cd false P w K mg base "has_hue" 2 ["strip", "row", "size", "hue"] (spD K mg false 4 D_has_hue)) : Cd false P w K mg base "wrong_rows" 3 ["sizes", "strip"] (spD K mg false 2 D_wrong_rows) := by
  refine cd_of (k := 2) false (F := Fl_wrong_rows) d sc_wrong_rows fun f cdv A outer s H E hr hg => ⟨_, (pss_cons (ps_set (i := 2) sc_wrong_rows.nd rfl (by first | exact .inl rfl | exact .inr rfl) (pe_lst pa_nil)) (pss_cons (ps_for (passes_of rfl) rfl (pi_enumA (K := K) rfl (by exact rfl) T.b_enumerate (pa_cons (pv 0) pa_nil)) (pg_tupK (n := 2) (K := K) rfl rfl (pgs_cons (pg_name (i := 3) sc_wrong_rows.nd rfl (by first | exact .inl rfl | exact .inr rfl)) (pgs_cons (pg_name (i := 4) sc_wrong_rows.nd rfl (by first | exact .inl rfl | exact .inr rfl)) pgs_nil))) (pss_cons (ps_expr (pe_bm PySem.F.plainAttrs_list PySem.F.slot_list_extend PySem.F.type_list_extend mt_extend (pv 2) (pa_cons (pe_lc (own := [("row", 5)]) rfl sc_wrong_rows.nd (pi_seqK (K := K) rfl (pe_cd c_lying_rows hr (fun z => nomatch z) pass_def (pa_cons (pe_callB (call_lenK (K := K) rfl) (by exact rfl) T.b_len bt_len (pa_cons (pv 1) pa_nil)) (pa_cons (pv 4) pa_nil)))) (blkOk_by (own := [("row", 5)]) (N := N_wrong_rows) (sc := defScope st_wrong_rows) (by decide +kernel)) (fun _ _ _ _ _ => (pg_name (i := 5) sc_wrong_rows.nd rfl (by first | exact .inl rfl | exact .inr rfl))) (fun _ _ _ _ _ => (pts_one (pt_val (pe_cd c_has_hue hr (fun z => nomatch z) passL (pa_cons (pv 1) (pa_cons (pv 5) (pa_cons (pv 4) (pa_cons (pv 3) pa_nil)))))))) (fun _ _ _ _ _ => (pv 5))) pa_nil))) pss_nil)) (pss_one (ps_ret (pe_callB (call_sortK (K := K) rfl) (by exact rfl) T.b_sorted bt_sorted (pa_cons (pv 2) pa_nil)))))), fun ds hl => ?_⟩
  match ds, hl with
  | [v_sizes, v_strip], _ =>
    show SS _ _ _ [.val (v_sizes), .val (v_strip), .no, .no, .no, .no] (enc0 6) _ (B_wrong_rows v_sizes v_strip)
    unfold B_wrong_rows
    exact (ss_seto (so_lst sa_nil (Nat.le_of_ble_eq_true rfl)) (fun v_found => (ss_seq (enc := fun (s1 : List D) => [.no, .val (v_strip), .own (s1), .no, .no, .no]) (ss_for (enc := fun (s1 : List D) => [.no, .val (v_strip), .own (s1), .no, .no, .no]) (s0 := (v_found)) (si_enum (se_var (k := 0) rfl)) (.no (.same (.same (.no (.no (.no .nil)))))) (fun s1 => (sg_two (i := 3) (j := 4))) (fun s1 p2 => (ss_ext (i := 2) rfl (so_se (so_lc (si_seq (se_g (sa_cons (se_cb cs_len (sa_cons (se_var (k := 1) rfl) sa_nil)) (sa_cons (se_var (k := 4) rfl) sa_nil)) rfl)) (sg_name (i := 5)) (by decide) (fun (v_row : D) => (sb_val (se_g (sa_cons (se_var (k := 1) rfl) (sa_cons (se_var (k := 5) rfl) (sa_cons (se_var (k := 4) rfl) (sa_cons (se_var (k := 3) rfl) sa_nil)))) rfl))) (fun (v_row : D) => (se_var (k := 5) rfl)))) (fun d3 => (ss_next (.no (.same (.same (.no (.no (.no .nil))))))))))) (fun s1 => (ss_freeze (i := 2) rfl (ss_ret (so_se (so_cb co_sort (sa_cons (se_var (k := 2) rfl) sa_nil)))))))))

abbrev st_with_hue : Stmt := topS 26
abbrev N_with_hue : List Str := ["draft", "place", "hue"]
theorem sc_with_hue : FnScope N_with_hue ["draft", "place", "hue"] (defScope st_with_hue) := ⟨rfl, rfl, rfl, by decide +kernel, rfl, by decide +kernel, by decide +kernel⟩
theorem ok_with_hue (T : Tx K mg) (d : Df K mg "with_hue" st_with_hue ["draft", "place", "hue"])  : Cd false P w K mg base "with_hue" 1 ["draft", "place", "hue"] (spD K mg false 3 D_with_hue) := by
  refine cd_of (k := 0) false (F := Fl_with_hue) d sc_with_hue fun f cdv A outer s H E hr hg => ⟨_, (pss_one (ps_ret (pe_op (op_addK (K := K) rfl) (pe_op (op_addK (K := K) rfl) (pe_slice (sl_anyK (K := K) rfl) (pv 0) po_none (po_some (pv 1))) (pe_tupB (pa_cons (pv 2) pa_nil))) (pe_slice (sl_anyK (K := K) rfl) (pv 0) (po_some (pe_op (op_addK (K := K) rfl) (pv 1) pe_int)) po_none)))), fun ds hl => ?_⟩
  match ds, hl with
  | [v_draft, v_place, v_hue], _ =>
    show SS _ _ _ [.val (v_draft), .val (v_place), .val (v_hue)] (enc0 3) _ (B_with_hue v_draft v_place v_hue)
    unfold B_with_hue
    exact (ss_ret (se_op os_add (se_op os_add (se_slice ss_cut (se_var (k := 0) rfl) sp_none (sp_some (se_var (k := 1) rfl))) (se_tup (sa_cons (se_var (k := 2) rfl) sa_nil) (Nat.le_of_ble_eq_true rfl))) (se_slice ss_cut (se_var (k := 0) rfl) (sp_some (se_op os_add (se_var (k := 1) rfl) se_int)) sp_none)))

abbrev st_rows_through : Stmt := topS 15
abbrev N_rows_through : List Str := ["length", "size", "place", "found", "step", "k", "first"]
theorem sc_rows_through : FnScope N_rows_through ["length", "size", "place"] (defScope st_rows_through) := ⟨rfl, rfl, rfl, by decide +kernel, rfl, by decide +kernel, by decide +kernel⟩
theorem ok_rows_through (T : Tx K mg) (d : Df K mg "rows_through" st_rows_through ["length", "size", "place"])  : Cd false P w K mg base "rows_through" 1 ["length", "size", "place"] (spD K mg false 3 D_rows_through) := by
  refine cd_of (k := 0) false (F := Fl_rows_through) d sc_rows_through fun f cdv A outer s H E hr hg => ⟨_, (pss_cons (ps_set (i := 3) sc_rows_through.nd rfl (by first | exact .inl rfl | exact .inr rfl) (pe_lst pa_nil)) (pss_cons (ps_for (passes_of rfl) rfl (pi_range2 (by exact rfl) T.b_range (pa_cons pe_int (pa_cons (pe_op (op_addK (K := K) rfl) (pe_op op_fdiv (pe_op op_sub (pv 0) pe_int) (pe_op op_sub (pv 1) pe_int)) pe_int) pa_nil))) (pg_name (i := 4) sc_rows_through.nd rfl (by first | exact .inl rfl | exact .inr rfl)) (pss_cons (ps_for (passes_of rfl) rfl (pi_range1 (by exact rfl) T.b_range (pa_cons (pv 1) pa_nil)) (pg_name (i := 5) sc_rows_through.nd rfl (by first | exact .inl rfl | exact .inr rfl)) (pss_cons (ps_set (i := 6) sc_rows_through.nd rfl (by first | exact .inl rfl | exact .inr rfl) (pe_op op_sub (pv 2) (pe_op (op_mulB (K := K) rfl) (pv 5) (pv 4)))) (pss_cons (ps_if (PW.pt (pw_and (pt_cmpR op_ge (pv 6) pe_int (nomark _)) (pw_and1 (pt_cmpR op_lt (pe_op (op_addK (K := K) rfl) (pv 6) (pe_op (op_mulB (K := K) rfl) (pe_op op_sub (pv 1) pe_int) (pv 4))) (pv 0) (nomark _))))) (pss_cons (ps_expr (pe_bm PySem.F.plainAttrs_list PySem.F.slot_list_append PySem.F.type_list_append mt_append (pv 3) (pa_cons (pe_tupB (pa_cons (pv 6) (pa_cons (pv 4) pa_nil))) pa_nil))) pss_nil) pss_nil) pss_nil))) pss_nil)) (pss_one (ps_ret (pe_callB (call_sortK (K := K) rfl) (by exact rfl) T.b_sorted bt_sorted (pa_cons (pv 3) pa_nil)))))), fun ds hl => ?_⟩
  match ds, hl with
  | [v_length, v_size, v_place], _ =>
    show SS _ _ _ [.val (v_length), .val (v_size), .val (v_place), .no, .no, .no, .no] (enc0 7) _ (B_rows_through v_length v_size v_place)
    unfold B_rows_through
    exact (ss_seto (so_lst sa_nil (Nat.le_of_ble_eq_true rfl)) (fun v_found => (ss_seq (enc := fun (s1 : List D) => [.val (v_length), .val (v_size), .val (v_place), .own (s1), .no, .no, .no]) (ss_for (enc := fun (s1 : List D) => [.val (v_length), .val (v_size), .val (v_place), .own (s1), .no, .no, .no]) (s0 := (v_found)) (si_rng2 (sa_cons se_int (sa_cons (se_op os_add (se_op os_fdiv (se_op os_sub (se_var (k := 0) rfl) se_int) (se_op os_sub (se_var (k := 1) rfl) se_int)) se_int) sa_nil))) (.same (.same (.same (.same (.no (.no (.no .nil))))))) (fun s1 => (sg_name (i := 4))) (fun s1 v_step => (ss_seq (enc := fun (s2 : List D) => [.val (v_length), .val (v_size), .val (v_place), .own (s2), .val (v_step), .no, .no]) (ss_for (enc := fun (s2 : List D) => [.val (v_length), .val (v_size), .val (v_place), .own (s2), .val (v_step), .no, .no]) (s0 := (s1)) (si_rng1 (sa_cons (se_var (k := 1) rfl) sa_nil)) (.same (.same (.same (.same (.same (.no (.no .nil))))))) (fun s2 => (sg_name (i := 5))) (fun s2 v_k => (ss_set (se_op os_sub (se_var (k := 2) rfl) (se_op os_mulB (se_var (k := 5) rfl) (se_var (k := 4) rfl))) (fun v_first => (ss_seq (T := List D) (enc := fun s3 => [.val (v_length), .val (v_size), .val (v_place), .own (s3), .val (v_step), .no, .no]) (ss_if (sb_and (sb_test (se_op os_ge (se_var (k := 6) rfl) se_int)) (sb_test (se_op os_lt (se_op os_add (se_var (k := 6) rfl) (se_op os_mulB (se_op os_sub (se_var (k := 1) rfl) se_int) (se_var (k := 4) rfl))) (se_var (k := 0) rfl)))) (ss_app (i := 3) rfl (se_tup (sa_cons (se_var (k := 6) rfl) (sa_cons (se_var (k := 4) rfl) sa_nil)) (Nat.le_of_ble_eq_true rfl)) (fun d4 => (ss_next (.same (.same (.same (.same (.same (.no (.no .nil)))))))))) (ss_next (.same (.same (.same (.same (.same (.no (.no .nil))))))))) (fun s3 => (ss_next (.same (.same (.same (.same (.same (.no (.no .nil)))))))))))))) (fun s2 => (ss_next (.same (.same (.same (.same (.no (.no (.no .nil)))))))))))) (fun s1 => (ss_freeze (i := 3) rfl (ss_ret (so_se (so_cb co_sort (sa_cons (se_var (k := 3) rfl) sa_nil)))))))))

abbrev st_bars_at : Stmt := topS 27
abbrev N_bars_at : List Str := ["sizes", "draft", "place", "hue", "size", "full", "found", "row", "one"]
theorem sc_bars_at : FnScope N_bars_at ["sizes", "draft", "place", "hue"] (defScope st_bars_at) := ⟨rfl, rfl, rfl, by decide +kernel, rfl, by decide +kernel, by decide +kernel⟩
theorem ok_bars_at (T : Tx K mg) (d : Df K mg "bars_at" st_bars_at ["sizes", "draft", "place", "hue"]) (c_with_hue : Cd false P w K mg base "with_hue" 1 ["draft", "place", "hue"] (spD K mg false 3 D_with_hue)) (c_rows_through : Cd false P w K mg base "rows_through" 1 ["length", "size", "place"] (spD K mg false 3 D_rows_through)) (c_row_places : Cd false P w K mg base "row_places" 1 ["row", "size"] (spD K mg false 2 D_row_places)) : Cd false P w K mg base "bars_at" 2 ["sizes", "draft", "place", "hue"] (spD K mg false 4 D_bars_at) := by
  refine cd_of (k := 1) false (F := Fl_bars_at) d sc_bars_at fun f cdv A outer s H E hr hg => ⟨_, (pss_cons (ps_set (i := 4) sc_bars_at.nd rfl (by first | exact .inl rfl | exact .inr rfl) (pe_ix (ix_anyK (K := K) rfl) (pv 0) (pv 3) (fun _ _ => rfl))) (pss_cons (ps_set (i := 5) sc_bars_at.nd rfl (by first | exact .inl rfl | exact .inr rfl) (pe_cd c_with_hue hr (fun z => nomatch z) pass_def (pa_cons (pv 1) (pa_cons (pv 2) (pa_cons (pv 3) pa_nil))))) (pss_cons (ps_set (i := 6) sc_bars_at.nd rfl (by first | exact .inl rfl | exact .inr rfl) (pe_lst pa_nil)) (pss_cons (ps_for (passes_of rfl) rfl (pi_seqK (K := K) rfl (pe_cd c_rows_through hr (fun z => nomatch z) pass_def (pa_cons (pe_callB (call_lenK (K := K) rfl) (by exact rfl) T.b_len bt_len (pa_cons (pv 1) pa_nil)) (pa_cons (pv 4) (pa_cons (pv 2) pa_nil))))) (pg_name (i := 7) sc_bars_at.nd rfl (by first | exact .inl rfl | exact .inr rfl)) (pss_cons (ps_if (pt_val (pe_callB (call_allK (K := K) rfl rfl) (by exact rfl) T.b_all bt_all (pa_cons (pe_lc (own := [("one", 8)]) rfl sc_bars_at.nd (pi_seqK (K := K) rfl (pe_cd c_row_places hr (fun z => nomatch z) pass_def (pa_cons (pv 7) (pa_cons (pv 4) pa_nil)))) (blkOk_by (own := [("one", 8)]) (N := N_bars_at) (sc := defScope st_bars_at) (by decide +kernel)) (fun _ _ _ _ _ => (pg_name (i := 8) sc_bars_at.nd rfl (by first | exact .inl rfl | exact .inr rfl))) (fun _ _ _ _ _ => pts_nil) (fun _ _ _ _ _ => (pe_cmpR (op_eqK (K := K) rfl hr.units) (pe_ix (ix_anyK (K := K) rfl) (pv 5) (pv 8) (fun _ _ => rfl)) (pv 3) (nomark _)))) pa_nil))) (pss_cons (ps_expr (pe_bm PySem.F.plainAttrs_list PySem.F.slot_list_append PySem.F.type_list_append mt_append (pv 6) (pa_cons (pv 7) pa_nil))) pss_nil) pss_nil) pss_nil)) (pss_one (ps_ret (pv 6))))))), fun ds hl => ?_⟩
  match ds, hl with
  | [v_sizes, v_draft, v_place, v_hue], _ =>
    show SS _ _ _ [.val (v_sizes), .val (v_draft), .val (v_place), .val (v_hue), .no, .no, .no, .no, .no] (enc0 9) _ (B_bars_at v_sizes v_draft v_place v_hue)
    unfold B_bars_at
    exact (ss_set (se_op os_ix (se_var (k := 0) rfl) (se_var (k := 3) rfl)) (fun v_size => (ss_set (se_g (sa_cons (se_var (k := 1) rfl) (sa_cons (se_var (k := 2) rfl) (sa_cons (se_var (k := 3) rfl) sa_nil))) rfl) (fun v_full => (ss_seto (so_lst sa_nil (Nat.le_of_ble_eq_true rfl)) (fun v_found => (ss_seq (enc := fun (s1 : List D) => [.no, .no, .no, .val (v_hue), .val (v_size), .val (v_full), .own (s1), .no, .no]) (ss_for (enc := fun (s1 : List D) => [.no, .no, .no, .val (v_hue), .val (v_size), .val (v_full), .own (s1), .no, .no]) (s0 := (v_found)) (si_seq (se_g (sa_cons (se_cb cs_len (sa_cons (se_var (k := 1) rfl) sa_nil)) (sa_cons (se_var (k := 4) rfl) (sa_cons (se_var (k := 2) rfl) sa_nil))) rfl)) (.no (.no (.no (.same (.same (.same (.same (.no (.no .nil))))))))) (fun s1 => (sg_name (i := 7))) (fun s1 v_row => (ss_seq (T := List D) (enc := fun s2 => [.no, .no, .no, .val (v_hue), .val (v_size), .val (v_full), .own (s2), .no, .no]) (ss_if (sb_val (se_cb cs_all (sa_cons (so_se (so_lc (si_seq (se_g (sa_cons (se_var (k := 7) rfl) (sa_cons (se_var (k := 4) rfl) sa_nil)) rfl)) (sg_name (i := 8)) (by decide) (fun (v_one : D) => sb_yes) (fun (v_one : D) => (se_op os_eqA (se_op os_ix (se_var (k := 5) rfl) (se_var (k := 8) rfl)) (se_var (k := 3) rfl))))) sa_nil))) (ss_app (i := 6) rfl (se_var (k := 7) rfl) (fun d3 => (ss_next (.no (.no (.no (.same (.same (.same (.same (.no (.no .nil)))))))))))) (ss_next (.no (.no (.no (.same (.same (.same (.same (.no (.no .nil))))))))))) (fun s2 => (ss_next (.no (.no (.no (.same (.same (.same (.same (.no (.no .nil)))))))))))))) (fun s1 => (ss_freeze (i := 6) rfl (ss_ret (se_var (k := 6) rfl)))))))))))

abbrev st_open_at : Stmt := topS 28
abbrev N_open_at : List Str := ["sizes", "draft", "place", "hue"]
theorem sc_open_at : FnScope N_open_at ["sizes", "draft", "place"] (defScope st_open_at) := ⟨rfl, rfl, rfl, by decide +kernel, rfl, by decide +kernel, by decide +kernel⟩
theorem ok_open_at (T : Tx K mg) (d : Df K mg "open_at" st_open_at ["sizes", "draft", "place"]) (c_bars_at : Cd false P w K mg base "bars_at" 2 ["sizes", "draft", "place", "hue"] (spD K mg false 4 D_bars_at)) : Cd false P w K mg base "open_at" 3 ["sizes", "draft", "place"] (spD K mg false 3 D_open_at) := by
  refine cd_of (k := 2) false (F := Fl_open_at) d sc_open_at fun f cdv A outer s H E hr hg => ⟨_, (pss_one (ps_ret (pe_callTy (call_tupleK (K := K) rfl) (by exact rfl) T.b_tuple bt_tuple (pa_cons (pe_lc (own := [("hue", 3)]) rfl sc_open_at.nd (pi_range1 (by exact rfl) T.b_range (pa_cons (pe_callB (call_lenK (K := K) rfl) (by exact rfl) T.b_len bt_len (pa_cons (pv 0) pa_nil)) pa_nil)) (blkOk_by (own := [("hue", 3)]) (N := N_open_at) (sc := defScope st_open_at) (by decide +kernel)) (fun _ _ _ _ _ => (pg_name (i := 3) sc_open_at.nd rfl (by first | exact .inl rfl | exact .inr rfl))) (fun _ _ _ _ _ => (pts_one (pt_cmpR (op_eqK (K := K) rfl hr.units) (pe_cd c_bars_at hr (fun z => nomatch z) passL (pa_cons (pv 0) (pa_cons (pv 1) (pa_cons (pv 2) (pa_cons (pv 3) pa_nil))))) (pe_lst pa_nil) (nomark _)))) (fun _ _ _ _ _ => (pv 3))) pa_nil)))), fun ds hl => ?_⟩
  match ds, hl with
  | [v_sizes, v_draft, v_place], _ =>
    show SS _ _ _ [.val (v_sizes), .val (v_draft), .val (v_place), .no] (enc0 4) _ (B_open_at v_sizes v_draft v_place)
    unfold B_open_at
    exact (ss_ret (se_cb cs_tup (sa_cons (so_se (so_lc (si_rng1 (sa_cons (se_cb cs_len (sa_cons (se_var (k := 0) rfl) sa_nil)) sa_nil)) (sg_name (i := 3)) (by decide) (fun (v_hue : D) => (sb_test (se_op os_eqA (se_g (sa_cons (se_var (k := 0) rfl) (sa_cons (se_var (k := 1) rfl) (sa_cons (se_var (k := 2) rfl) (sa_cons (se_var (k := 3) rfl) sa_nil)))) rfl) (so_se (so_lst sa_nil (Nat.le_of_ble_eq_true rfl)))))) (fun (v_hue : D) => (se_var (k := 3) rfl)))) sa_nil)))

abbrev st_first_narrow : Stmt := topS 35
abbrev N_first_narrow : List Str := ["sizes", "draft", "place", "hues"]
theorem sc_first_narrow : FnScope N_first_narrow ["sizes", "draft"] (defScope st_first_narrow) := ⟨rfl, rfl, rfl, by decide +kernel, rfl, by decide +kernel, by decide +kernel⟩
theorem ok_first_narrow (T : Tx K mg) (d : Df K mg "first_narrow" st_first_narrow ["sizes", "draft"]) (c_blanks : Cd false P w K mg base "blanks" 1 ["draft"] (spD K mg false 1 D_blanks)) (c_open_at : Cd false P w K mg base "open_at" 3 ["sizes", "draft", "place"] (spD K mg false 3 D_open_at)) : Cd false P w K mg base "first_narrow" 4 ["sizes", "draft"] (spD K mg false 2 D_first_narrow) := by
  refine cd_of (k := 3) false (F := Fl_first_narrow) d sc_first_narrow fun f cdv A outer s H E hr hg => ⟨_, (pss_cons (ps_for (passes_of rfl) rfl (pi_seqK (K := K) rfl (pe_cd c_blanks hr (fun z => nomatch z) pass_def (pa_cons (pv 1) pa_nil))) (pg_name (i := 2) sc_first_narrow.nd rfl (by first | exact .inl rfl | exact .inr rfl)) (pss_cons (ps_set (i := 3) sc_first_narrow.nd rfl (by first | exact .inl rfl | exact .inr rfl) (pe_cd c_open_at hr (fun z => nomatch z) pass_def (pa_cons (pv 0) (pa_cons (pv 1) (pa_cons (pv 2) pa_nil))))) (pss_one (ps_if (pt_cmpR op_lt (pe_callB (call_lenK (K := K) rfl) (by exact rfl) T.b_len bt_len (pa_cons (pv 3) pa_nil)) pe_int (nomark _)) (pss_one (ps_ret (pe_tupB (pa_cons (pv 2) (pa_cons (pv 3) pa_nil))))) pss_nil)))) (pss_one (ps_ret pe_non))), fun ds hl => ?_⟩
  match ds, hl with
  | [v_sizes, v_draft], _ =>
    show SS _ _ _ [.val (v_sizes), .val (v_draft), .no, .no] (enc0 4) _ (B_first_narrow v_sizes v_draft)
    unfold B_first_narrow
    exact (ss_seq (enc := fun (s1 : Unit) => [.val (v_sizes), .val (v_draft), .no, .no]) (ss_for (enc := fun (s1 : Unit) => [.val (v_sizes), .val (v_draft), .no, .no]) (s0 := ()) (si_seq (se_g (sa_cons (se_var (k := 1) rfl) sa_nil) rfl)) (.same (.same (.no (.no .nil)))) (fun s1 => (sg_name (i := 2))) (fun s1 v_place => (ss_set (se_g (sa_cons (se_var (k := 0) rfl) (sa_cons (se_var (k := 1) rfl) (sa_cons (se_var (k := 2) rfl) sa_nil))) rfl) (fun v_hues => (ss_if (sb_test (se_op os_lt (se_cb cs_len (sa_cons (se_var (k := 3) rfl) sa_nil)) se_int)) (ss_ret (se_tup (sa_cons (se_var (k := 2) rfl) (sa_cons (se_var (k := 3) rfl) sa_nil)) (Nat.le_of_ble_eq_true rfl))) (ss_next (.same (.same (.no (.no .nil)))))))))) (fun s1 => (ss_ret se_non)))

abbrev st_best_place : Stmt := topS 40
abbrev N_best_place : List Str := ["sizes", "draft", "found", "some"]
theorem sc_best_place : FnScope N_best_place ["sizes", "draft"] (defScope st_best_place) := ⟨rfl, rfl, rfl, by decide +kernel, rfl, by decide +kernel, by decide +kernel⟩
theorem ok_best_place (T : Tx K mg) (d : Df K mg "best_place" st_best_place ["sizes", "draft"]) (c_first_narrow : Cd false P w K mg base "first_narrow" 4 ["sizes", "draft"] (spD K mg false 2 D_first_narrow)) (c_blanks : Cd false P w K mg base "blanks" 1 ["draft"] (spD K mg false 1 D_blanks)) : Cd false P w K mg base "best_place" 5 ["sizes", "draft"] (spD K mg false 2 D_best_place) := by
  refine cd_of (k := 4) false (F := Fl_best_place) d sc_best_place fun f cdv A outer s H E hr hg => ⟨_, (pss_cons (ps_set (i := 2) sc_best_place.nd rfl (by first | exact .inl rfl | exact .inr rfl) (pe_cd c_first_narrow hr (fun z => nomatch z) pass_def (pa_cons (pv 0) (pa_cons (pv 1) pa_nil)))) (pss_cons (ps_if (pt_cmpR op_notN (pv 2) pe_non (nomark _)) (pss_one (ps_ret (pe_ix (ix_anyK (K := K) rfl) (pv 2) pe_int (fun _ _ => rfl)))) pss_nil) (pss_cons (ps_set (i := 3) sc_best_place.nd rfl (by first | exact .inl rfl | exact .inr rfl) (pe_cd c_blanks hr (fun z => nomatch z) pass_def (pa_cons (pv 1) pa_nil))) (pss_cons (ps_if (pt_cmpR (op_eqK (K := K) rfl hr.units) (pv 3) (pe_lst pa_nil) (nomark _)) (pss_one (ps_ret pe_non)) pss_nil) (pss_one (ps_ret (pe_ix (ix_anyK (K := K) rfl) (pv 3) pe_int (fun _ _ => rfl)))))))), fun ds hl => ?_⟩
  match ds, hl with
  | [v_sizes, v_draft], _ =>
    show SS _ _ _ [.val (v_sizes), .val (v_draft), .no, .no] (enc0 4) _ (B_best_place v_sizes v_draft)
    unfold B_best_place
    exact (ss_set (se_g (sa_cons (se_var (k := 0) rfl) (sa_cons (se_var (k := 1) rfl) sa_nil)) rfl) (fun v_found => (ss_ifl (sb_test (se_op os_notN (se_var (k := 2) rfl) se_non)) (ss_ret (se_op os_ix (se_var (k := 2) rfl) se_int)) (ss_set (se_g (sa_cons (se_var (k := 1) rfl) sa_nil) rfl) (fun v_some => (ss_ifl (sb_test (se_op os_eqA (se_var (k := 3) rfl) (so_se (so_lst sa_nil (Nat.le_of_ble_eq_true rfl))))) (ss_ret se_non) (ss_ret (se_op os_ix (se_var (k := 3) rfl) se_int))))))))

abbrev st_made_paper : Stmt := topS 41
abbrev N_made_paper : List Str := ["sizes", "draft", "place", "papers", "hue", "rows", "paper"]
theorem sc_made_paper : FnScope N_made_paper ["sizes", "draft"] (defScope st_made_paper) := ⟨rfl, rfl, rfl, by decide +kernel, rfl, by decide +kernel, by decide +kernel⟩
theorem okr_made_paper (T : Tx K mg) (d : Df K mg "made_paper" st_made_paper ["sizes", "draft"]) (c_best_place : Cd false P w K mg base "best_place" 5 ["sizes", "draft"] (spD K mg false 2 D_best_place)) (c_bars_at : Cd false P w K mg base "bars_at" 2 ["sizes", "draft", "place", "hue"] (spD K mg false 4 D_bars_at)) (c_with_hue : Cd false P w K mg base "with_hue" 1 ["draft", "place", "hue"] (spD K mg false 3 D_with_hue)) : ∀ n : Nat, Cd false P w K mg base "made_paper" (6 + n) ["sizes", "draft"] (spD K mg false 2 (D_made_paper n))
 | 0 => by
    refine cd_of (k := 5) false (F := fun _ => fail) d sc_made_paper fun f cdv A outer s H E hr hg => ⟨_, pss_never, fun ds hl => ?_⟩
    exact ss_never
 | n + 1 => by
  have c_made_paper := okr_made_paper T d c_best_place c_bars_at c_with_hue n
  refine cd_of (k := 6 + n) false (F := Fl_made_paper (D_made_paper n)) d sc_made_paper fun f cdv A outer s H E hr hg => ⟨_, (pss_cons (ps_set (i := 2) sc_made_paper.nd rfl (by first | exact .inl rfl | exact .inr rfl) (pe_cd c_best_place hr (fun z => nomatch z) pass_def (pa_cons (pv 0) (pa_cons (pv 1) pa_nil)) (hjk := by omega))) (pss_cons (ps_if (pt_cmpR op_isN (pv 2) pe_non (nomark _)) (pss_one (ps_ret pe_non)) pss_nil) (pss_cons (ps_set (i := 3) sc_made_paper.nd rfl (by first | exact .inl rfl | exact .inr rfl) (pe_lst pa_nil)) (pss_cons (ps_for (passes_of rfl) rfl (pi_range1 (by exact rfl) T.b_range (pa_cons (pe_callB (call_lenK (K := K) rfl) (by exact rfl) T.b_len bt_len (pa_cons (pv 0) pa_nil)) pa_nil)) (pg_name (i := 4) sc_made_paper.nd rfl (by first | exact .inl rfl | exact .inr rfl)) (pss_cons (ps_set (i := 5) sc_made_paper.nd rfl (by first | exact .inl rfl | exact .inr rfl) (pe_cd c_bars_at hr (fun z => nomatch z) pass_def (pa_cons (pv 0) (pa_cons (pv 1) (pa_cons (pv 2) (pa_cons (pv 4) pa_nil)))) (hjk := by omega))) (pss_cons (ps_set (i := 6) sc_made_paper.nd rfl (by first | exact .inl rfl | exact .inr rfl) (pe_ifExp (pt_cmpR (op_neK (K := K) rfl hr.units) (pv 5) (pe_lst pa_nil) (nomark _)) (pe_op (op_addK (K := K) rfl) (pe_tupB (pa_cons pe_str pa_nil)) (pe_ix (ix_anyK (K := K) rfl) (pv 5) pe_int (fun _ _ => rfl))) (pe_cd c_made_paper hr (fun z => nomatch z) pass_def (pa_cons (pv 0) (pa_cons (pe_cd c_with_hue hr (fun z => nomatch z) pass_def (pa_cons (pv 1) (pa_cons (pv 2) (pa_cons (pv 4) pa_nil))) (hjk := by omega)) pa_nil)) (hjk := by omega)))) (pss_cons (ps_if (pt_cmpR op_isN (pv 6) pe_non (nomark _)) (pss_one (ps_ret pe_non)) pss_nil) (pss_cons (ps_expr (pe_bm PySem.F.plainAttrs_list PySem.F.slot_list_append PySem.F.type_list_append mt_append (pv 3) (pa_cons (pv 6) pa_nil))) pss_nil))))) (pss_one (ps_ret (pe_tupB (pa_cons pe_str (pa_cons (pv 2) (pa_cons (pe_callTy (call_tupleK (K := K) rfl) (by exact rfl) T.b_tuple bt_tuple (pa_cons (pv 3) pa_nil)) pa_nil)))))))))), fun ds hl => ?_⟩
  match ds, hl with
  | [v_sizes, v_draft], _ =>
    show SS _ _ _ [.val (v_sizes), .val (v_draft), .no, .no, .no, .no, .no] (enc0 7) _ (B_made_paper (D_made_paper n) v_sizes v_draft)
    unfold B_made_paper
    exact (ss_set (se_g (sa_cons (se_var (k := 0) rfl) (sa_cons (se_var (k := 1) rfl) sa_nil)) rfl) (fun v_place => (ss_ifl (sb_test (se_op os_isN (se_var (k := 2) rfl) se_non)) (ss_ret se_non) (ss_seto (so_lst sa_nil (Nat.le_of_ble_eq_true rfl)) (fun v_papers => (ss_seq (enc := fun (s1 : List D) => [.val (v_sizes), .val (v_draft), .val (v_place), .own (s1), .no, .no, .no]) (ss_for (enc := fun (s1 : List D) => [.val (v_sizes), .val (v_draft), .val (v_place), .own (s1), .no, .no, .no]) (s0 := (v_papers)) (si_rng1 (sa_cons (se_cb cs_len (sa_cons (se_var (k := 0) rfl) sa_nil)) sa_nil)) (.same (.same (.same (.same (.no (.no (.no .nil))))))) (fun s1 => (sg_name (i := 4))) (fun s1 v_hue => (ss_set (se_g (sa_cons (se_var (k := 0) rfl) (sa_cons (se_var (k := 1) rfl) (sa_cons (se_var (k := 2) rfl) (sa_cons (se_var (k := 4) rfl) sa_nil)))) rfl) (fun v_rows => (ss_set (se_if (sb_test (se_op os_neA (se_var (k := 5) rfl) (so_se (so_lst sa_nil (Nat.le_of_ble_eq_true rfl))))) (se_op os_add (se_tup (sa_cons se_str sa_nil) (Nat.le_of_ble_eq_true rfl)) (se_op os_ix (se_var (k := 5) rfl) se_int)) (se_g (sa_cons (se_var (k := 0) rfl) (sa_cons (se_g (sa_cons (se_var (k := 1) rfl) (sa_cons (se_var (k := 2) rfl) (sa_cons (se_var (k := 4) rfl) sa_nil))) rfl) sa_nil)) rfl)) (fun v_paper => (ss_ifl (sb_test (se_op os_isN (se_var (k := 6) rfl) se_non)) (ss_ret se_non) (ss_app (i := 3) rfl (se_var (k := 6) rfl) (fun d2 => (ss_next (.same (.same (.same (.same (.no (.no (.no .nil))))))))))))))))) (fun s1 => (ss_freeze (i := 3) rfl (ss_ret (se_tup (sa_cons se_str (sa_cons (se_var (k := 2) rfl) (sa_cons (se_cb cs_tup (sa_cons (se_var (k := 3) rfl) sa_nil)) sa_nil))) (Nat.le_of_ble_eq_true rfl)))))))))))
theorem ok_made_paper (T : Tx K mg) (d : Df K mg "made_paper" st_made_paper ["sizes", "draft"]) (c_best_place : Cd false P w K mg base "best_place" 5 ["sizes", "draft"] (spD K mg false 2 D_best_place)) (c_bars_at : Cd false P w K mg base "bars_at" 2 ["sizes", "draft", "place", "hue"] (spD K mg false 4 D_bars_at)) (c_with_hue : Cd false P w K mg base "with_hue" 1 ["draft", "place", "hue"] (spD K mg false 3 D_with_hue)) : Cd false P w K mg base "made_paper" 46 ["sizes", "draft"] (spD K mg false 2 (D_made_paper 40)) := okr_made_paper T d c_best_place c_bars_at c_with_hue 40

abbrev st_some_paper : Stmt := topS 42
abbrev N_some_paper : List Str := ["sizes", "draft", "rows"]
theorem sc_some_paper : FnScope N_some_paper ["sizes", "draft"] (defScope st_some_paper) := ⟨rfl, rfl, rfl, by decide +kernel, rfl, by decide +kernel, by decide +kernel⟩
theorem ok_some_paper (T : Tx K mg) (d : Df K mg "some_paper" st_some_paper ["sizes", "draft"]) (c_wrong_rows : Cd false P w K mg base "wrong_rows" 3 ["sizes", "strip"] (spD K mg false 2 D_wrong_rows)) (c_made_paper : Cd false P w K mg base "made_paper" 46 ["sizes", "draft"] (spD K mg false 2 (D_made_paper 40))) : Cd false P w K mg base "some_paper" 47 ["sizes", "draft"] (spD K mg false 2 D_some_paper) := by
  refine cd_of (k := 46) false (F := Fl_some_paper) d sc_some_paper fun f cdv A outer s H E hr hg => ⟨_, (pss_cons (ps_set (i := 2) sc_some_paper.nd rfl (by first | exact .inl rfl | exact .inr rfl) (pe_cd c_wrong_rows hr (fun z => nomatch z) pass_def (pa_cons (pv 0) (pa_cons (pv 1) pa_nil)))) (pss_cons (ps_if (pt_cmpR (op_neK (K := K) rfl hr.units) (pv 2) (pe_lst pa_nil) (nomark _)) (pss_one (ps_ret (pe_op (op_addK (K := K) rfl) (pe_tupB (pa_cons pe_str pa_nil)) (pe_ix (ix_anyK (K := K) rfl) (pv 2) pe_int (fun _ _ => rfl))))) pss_nil) (pss_one (ps_ret (pe_cd c_made_paper hr (fun z => nomatch z) pass_def (pa_cons (pv 0) (pa_cons (pv 1) pa_nil))))))), fun ds hl => ?_⟩
  match ds, hl with
  | [v_sizes, v_draft], _ =>
    show SS _ _ _ [.val (v_sizes), .val (v_draft), .no] (enc0 3) _ (B_some_paper v_sizes v_draft)
    unfold B_some_paper
    exact (ss_set (se_g (sa_cons (se_var (k := 0) rfl) (sa_cons (se_var (k := 1) rfl) sa_nil)) rfl) (fun v_rows => (ss_ifl (sb_test (se_op os_neA (se_var (k := 2) rfl) (so_se (so_lst sa_nil (Nat.le_of_ble_eq_true rfl))))) (ss_ret (se_op os_add (se_tup (sa_cons se_str sa_nil) (Nat.le_of_ble_eq_true rfl)) (se_op os_ix (se_var (k := 2) rfl) se_int))) (ss_ret (se_g (sa_cons (se_var (k := 0) rfl) (sa_cons (se_var (k := 1) rfl) sa_nil)) rfl)))))

abbrev st_paper_for : Stmt := topS 43
abbrev N_paper_for : List Str := ["sizes", "draft"]
theorem sc_paper_for : FnScope N_paper_for ["sizes", "draft"] (defScope st_paper_for) := ⟨rfl, rfl, rfl, by decide +kernel, rfl, by decide +kernel, by decide +kernel⟩
theorem ok_paper_for (T : Tx K mg) (d : Df K mg "paper_for" st_paper_for ["sizes", "draft"]) (c_need_few : Cd false P w K mg base "need_few" 6 ["sizes", "draft", "most"] (spD K mg false 3 D_need_few)) (c_some_paper : Cd false P w K mg base "some_paper" 47 ["sizes", "draft"] (spD K mg false 2 D_some_paper)) : Cd false P w K mg base "paper_for" 48 ["sizes", "draft"] (spD K mg false 2 D_paper_for) := by
  obtain ⟨t_MOST_WAYS, g_MOST_WAYS⟩ := T.c_MOST_WAYS
  refine cd_of (k := 47) false (F := Fl_paper_for) d sc_paper_for fun f cdv A outer s H E hr hg => ⟨_, (pss_cons (ps_expr (pe_cd c_need_few hr (fun z => nomatch z) pass_def (pa_cons (pv 0) (pa_cons (pv 1) (pa_cons (pe_glob (v := V.int 512) (by exact rfl) g_MOST_WAYS ⟨_, rfl⟩) pa_nil))))) (pss_one (ps_ret (pe_cd c_some_paper hr (fun z => nomatch z) pass_def (pa_cons (pv 0) (pa_cons (pv 1) pa_nil)))))), fun ds hl => ?_⟩
  match ds, hl with
  | [v_sizes, v_draft], _ =>
    show SS _ _ _ [.val (v_sizes), .val (v_draft)] (enc0 2) _ (B_paper_for v_sizes v_draft)
    unfold B_paper_for
    exact (ss_expr (se_g (sa_cons (se_var (k := 0) rfl) (sa_cons (se_var (k := 1) rfl) (sa_cons (se_int (i := 512)) sa_nil))) rfl) (ss_ret (se_g (sa_cons (se_var (k := 0) rfl) (sa_cons (se_var (k := 1) rfl) sa_nil)) rfl)))

abbrev st_L_pen : Stmt := topS 46
abbrev N_L_pen : List Str := ["_law_cell", "_law_left"]
theorem sc_L_pen : FnScope N_L_pen ["_law_cell"] (defScope st_L_pen) := ⟨rfl, rfl, rfl, by decide +kernel, rfl, by decide +kernel, by decide +kernel⟩
theorem ok_L_pen (T : Tx K mg) (d : Df K mg "_law_pen" st_L_pen ["_law_cell"])  : Cd false P w K mg base "_law_pen" 1 ["_law_cell"] (spD K mg true 1 D_L_pen) := by
  refine cd_of (k := 0) true (F := Fl_L_pen) d sc_L_pen fun f cdv A outer s H E hr hg => ⟨_, (pss_cons (ps_set (i := 1) sc_L_pen.nd rfl (by first | exact .inl rfl | exact .inr rfl) (pe_callB (call_max2 rfl) (by exact rfl) T.b_max bt_max (pa_cons (pv 0) (pa_cons (pe_op op_sub pe_int (pv 0)) pa_nil)))) (pss_one (ps_ret (pe_lst (pa_cons (pe_op (op_mulB (K := K) rfl) (pv 1) (pe_callTy call_int1 (by exact rfl) T.b_int bt_int (pa_cons (pe_cmpR op_ge (pv 1) (pe_op op_pow pe_int pe_int) (nomark _)) pa_nil))) (pa_cons (pe_op op_mod (pv 1) pe_int) pa_nil)))))), fun ds hl => ?_⟩
  match ds, hl with
  | [l_cell], _ =>
    show SS _ _ _ [.val (l_cell), .no] (enc0 2) _ (B_L_pen l_cell)
    unfold B_L_pen
    exact (ss_set (se_cb cs_max2 (sa_cons (se_var (k := 0) rfl) (sa_cons (se_op os_sub se_int (se_var (k := 0) rfl)) sa_nil))) (fun l_left => (ss_reto (so_lst (sa_cons (se_op os_mulB (se_var (k := 1) rfl) (se_cb cs_int (sa_cons (se_op os_ge (se_var (k := 1) rfl) (se_op os_pow se_int se_int)) sa_nil))) (sa_cons (se_op os_mod (se_var (k := 1) rfl) se_int) sa_nil)) (Nat.le_of_ble_eq_true rfl)))))

abbrev st_L_draw : Stmt := topS 47
abbrev N_L_draw : List Str := ["_law_pen_here", "_law_many", "_law_left", "_law_found", "_law_mixed"]
theorem sc_L_draw : FnScope N_L_draw ["_law_pen_here", "_law_many"] (defScope st_L_draw) := ⟨rfl, rfl, rfl, by decide +kernel, rfl, by decide +kernel, by decide +kernel⟩
theorem ok_L_draw (T : Tx K mg) (d : Df K mg "_law_draw" st_L_draw ["_law_pen_here", "_law_many"]) : Cd false P w K mg base "_law_draw" 1 ["_law_pen_here", "_law_many"] (spD K mg false 2 (drawF false)) := by
  obtain ⟨f, fd, Fn, g, b, bb⟩ := d
  refine ⟨f, fd, g, Fn.kp, b, g_fn (N := N_L_draw) Fn sc_L_draw ?_ ?_⟩
  · rintro vs H Q E ⟨W, ds, _, r, l, _⟩
    rw [r.length]
    exact l
  · intro cdv A outer s H vs Q E _ hr hg h
    obtain ⟨W, a, o, many, w, rfl, hN, ha, hp, m0, m1, q⟩ := draw_in h
    obtain ⟨x, y, rfl, x0, y0, y1⟩ := hp
    refine ⟨_, pss_cons (ps_if (pt_cmpR op_gt (pe_ix ix_list (pv 0) pe_int (fun _ _ => rfl)) pe_int (nomark _))
        (pss_cons (ps_asg (pe_callB call_divmod (by exact rfl) T.b_divmod bt_divmod (pa_cons (pe_ix ix_list (pv 0) pe_int (fun _ _ => rfl)) (pa_cons (pv 1) pa_nil))) (pg_tupK (K := K) rfl rfl (pgs_cons (pg_name (i := 2) sc_L_draw.nd rfl (.inl rfl)) (pgs_cons (pg_name (i := 3) sc_L_draw.nd rfl (.inl rfl)) pgs_nil))))
        (pss_cons (ps_asg (pv 2) (pg_sub (pv 0) pe_int set_list)) (pss_one (ps_ret (pv 3))))) pss_nil)
      (pss_cons (ps_asg (pe_op op_mod (pe_op op_add (pe_op op_mul (pe_ix ix_list (pv 0) pe_int (fun _ _ => rfl)) pe_int) pe_int) pe_int) (pg_sub (pv 0) pe_int set_list))
      (pss_cons (ps_set (i := 4) sc_L_draw.nd rfl (.inl rfl) (pe_op op_mod (pe_op op_add (pe_op op_add (pe_op op_mul (pe_ix ix_list (pv 0) pe_int (fun _ _ => rfl)) (pe_ix ix_list (pv 0) pe_int (fun _ _ => rfl))) (pe_op op_mul pe_int (pe_ix ix_list (pv 0) pe_int (fun _ _ => rfl)))) pe_int) pe_int))
      (pss_one (ps_ret (pe_op op_mod (pe_op op_fdiv (pv 4) pe_int) (pv 1)))))), ?_⟩
    have hS : SqL K H a [.int x, .int y] := .inl (.inl ha)
    refine ⟨_, rfl, a, _, 0, .int x, rfl, rfl, hS, rfl, _, _, rfl, rfl, _, rfl, ite2 (fun e => ?_) (fun e => ?_)⟩
    · refine ⟨_, rfl, a, _, 0, .int x, rfl, rfl, hS, rfl, _, rfl, _, _, rfl, ⟨m0, m1⟩, fun p hp => ?_⟩
      have s1 : Step W H W (upd H p (.tup [.int (x / many), .int (x % many)])) := Step.raw w hp
      have ha' : (upd H p (.tup [.int (x / many), .int (x % many)])) a = some (.lst [.int x, .int y]) := by rw [upd_ne (ne_of_none ha hp)]; exact ha
      refine ⟨p, _, rfl, .inl (.inl upd_same), rfl, _, _, rfl, _, _, rfl, rfl, ?_⟩
      refine ⟨_, rfl, _, rfl, a, _, 0, 0, rfl, rfl, ha', rfl, _, rfl, ?_⟩
      have s2 := Step.turn (o := .lst [.int (x / many), .int y]) s1.ok hN ⟨_, _, rfl, Int.ediv_nonneg x0 (Int.le_of_lt m0), y0, y1⟩
      exact q _ _ _ (Int.emod_nonneg _ (by omega)) (Int.emod_lt_of_pos _ m0) (s1.trans w s2)
    · refine ⟨_, rfl, a, _, 1, .int y, rfl, rfl, hS, rfl, _, _, rfl, rfl, .inl ⟨by omega, by omega⟩, _, _, rfl, rfl, _, _, rfl, rfl, (show (0 : Int) < _ by decide), ?_⟩
      refine ⟨_, rfl, a, _, 1, 1, rfl, rfl, ha, rfl, ?_⟩
      have s2 := Step.turn (o := .lst [.int x, .int ((y * 48271 + 30269) % 2147483629)]) w hN ⟨_, _, rfl, x0, Int.emod_nonneg _ (by decide), Int.emod_lt_of_pos _ (by decide)⟩
      have hz0 : 0 ≤ (y * 48271 + 30269) % 2147483629 := Int.emod_nonneg _ (by decide)
      have hz1 : (y * 48271 + 30269) % 2147483629 < 2147483629 := Int.emod_lt_of_pos _ (by decide)
      have hS2 : SqL K (upd H a (.lst [.int x, .int ((y * 48271 + 30269) % 2147483629)])) a [.int x, .int ((y * 48271 + 30269) % 2147483629)] := .inl (.inl upd_same)
      refine ⟨_, rfl, a, _, 1, _, rfl, rfl, hS2, rfl, _, rfl, a, _, 1, _, rfl, rfl, hS2, rfl, _, _, rfl, rfl, .inl ⟨by omega, by omega⟩, _, rfl, a, _, 1, _, rfl, rfl, hS2, rfl, _, _, rfl, rfl, .inl ⟨by omega, by omega⟩,
        _, _, rfl, rfl, _, _, rfl, rfl, _, _, rfl, rfl, (show (0 : Int) < _ by decide), ?_⟩
      refine ⟨_, rfl, _, _, rfl, rfl, ⟨by decide, by decide⟩, _, rfl, _, _, rfl, rfl, m0, ?_⟩
      exact q _ _ _ (Int.emod_nonneg _ (by omega)) (Int.emod_lt_of_pos _ m0) s2

abbrev st_L_few : Stmt := topS 51
abbrev N_L_few : List Str := ["_law_pen_here", "_law_some"]
theorem sc_L_few : FnScope N_L_few ["_law_pen_here"] (defScope st_L_few) := ⟨rfl, rfl, rfl, by decide +kernel, rfl, by decide +kernel, by decide +kernel⟩
theorem ok_L_few (T : Tx K mg) (d : Df K mg "_law_few" st_L_few ["_law_pen_here"]) (c_L_draw : Cd false P w K mg base "_law_draw" 1 ["_law_pen_here", "_law_many"] (spD K mg false 2 (drawF false))) : Cd false P w K mg base "_law_few" 2 ["_law_pen_here"] (spD K mg false 1 D_L_few) := by
  refine cd_of (k := 1) false (F := Fl_L_few) d sc_L_few fun f cdv A outer s H E hr hg => ⟨_, (pss_cons (ps_set (i := 1) sc_L_few.nd rfl (by first | exact .inl rfl | exact .inr rfl) (pe_lst (pa_cons (pe_tupB (pa_cons pe_int (pa_cons pe_int pa_nil))) (pa_cons (pe_tupB (pa_cons pe_int (pa_cons pe_int pa_nil))) (pa_cons (pe_tupB (pa_cons pe_int (pa_cons pe_int pa_nil))) (pa_cons (pe_tupB (pa_cons pe_int (pa_cons pe_int pa_nil))) (pa_cons (pe_tupB (pa_cons pe_int (pa_cons pe_int (pa_cons pe_int pa_nil)))) (pa_cons (pe_tupB (pa_cons pe_int (pa_cons pe_int pa_nil))) (pa_cons (pe_tupB (pa_cons pe_int (pa_cons pe_int pa_nil))) (pa_cons (pe_tupB (pa_cons pe_int (pa_cons pe_int pa_nil))) (pa_cons (pe_tupB (pa_cons pe_int pa_nil)) (pa_cons (pe_tupB (pa_cons pe_int (pa_cons pe_int (pa_cons pe_int pa_nil)))) (pa_cons (pe_tupB (pa_cons pe_int (pa_cons pe_int (pa_cons pe_int pa_nil)))) (pa_cons (pe_tupB (pa_cons pe_int (pa_cons pe_int pa_nil))) pa_nil)))))))))))))) (pss_one (ps_ret (pe_ix (ix_anyK (K := K) rfl) (pv 1) (pe_cd c_L_draw hr (fun z => nomatch z) pass_def (pa_cons (pv 0) (pa_cons pe_int pa_nil))) (fun _ _ => rfl))))), fun ds hl => ?_⟩
  match ds, hl with
  | [l_pen_here], _ =>
    show SS _ _ _ [.val (l_pen_here), .no] (enc0 2) _ (B_L_few l_pen_here)
    unfold B_L_few
    exact (ss_set (so_se (so_lst (sa_cons (se_tup (sa_cons se_int (sa_cons se_int sa_nil)) (Nat.le_of_ble_eq_true rfl)) (sa_cons (se_tup (sa_cons se_int (sa_cons se_int sa_nil)) (Nat.le_of_ble_eq_true rfl)) (sa_cons (se_tup (sa_cons se_int (sa_cons se_int sa_nil)) (Nat.le_of_ble_eq_true rfl)) (sa_cons (se_tup (sa_cons se_int (sa_cons se_int sa_nil)) (Nat.le_of_ble_eq_true rfl)) (sa_cons (se_tup (sa_cons se_int (sa_cons se_int (sa_cons se_int sa_nil))) (Nat.le_of_ble_eq_true rfl)) (sa_cons (se_tup (sa_cons se_int (sa_cons se_int sa_nil)) (Nat.le_of_ble_eq_true rfl)) (sa_cons (se_tup (sa_cons se_int (sa_cons se_int sa_nil)) (Nat.le_of_ble_eq_true rfl)) (sa_cons (se_tup (sa_cons se_int (sa_cons se_int sa_nil)) (Nat.le_of_ble_eq_true rfl)) (sa_cons (se_tup (sa_cons se_int sa_nil) (Nat.le_of_ble_eq_true rfl)) (sa_cons (se_tup (sa_cons se_int (sa_cons se_int (sa_cons se_int sa_nil))) (Nat.le_of_ble_eq_true rfl)) (sa_cons (se_tup (sa_cons se_int (sa_cons se_int (sa_cons se_int sa_nil))) (Nat.le_of_ble_eq_true rfl)) (sa_cons (se_tup (sa_cons se_int (sa_cons se_int sa_nil)) (Nat.le_of_ble_eq_true rfl)) sa_nil)))))))))))) (Nat.le_of_ble_eq_true rfl))) (fun l_some => (ss_ret (se_op os_ix (se_var (k := 1) rfl) (se_g (sa_cons (se_var (k := 0) rfl) (sa_cons se_int sa_nil)) rfl)))))

abbrev st_L_ended : Stmt := topS 52
abbrev N_L_ended : List Str := ["_law_sizes", "_law_found", "_law_hue", "_law_here", "_law_size", "_law_step", "_law_k"]
theorem sc_L_ended : FnScope N_L_ended ["_law_sizes", "_law_found", "_law_hue"] (defScope st_L_ended) := ⟨rfl, rfl, rfl, by decide +kernel, rfl, by decide +kernel, by decide +kernel⟩
theorem ok_L_ended (T : Tx K mg) (d : Df K mg "_law_ended" st_L_ended ["_law_sizes", "_law_found", "_law_hue"])  : Cd false P w K mg base "_law_ended" 1 ["_law_sizes", "_law_found", "_law_hue"] (spD K mg false 3 D_L_ended) := by
  refine cd_of (k := 0) false (F := Fl_L_ended) d sc_L_ended fun f cdv A outer s H E hr hg => ⟨_, (pss_cons (ps_asg (pe_tupB (pa_cons (pe_callB (call_lenK (K := K) rfl) (by exact rfl) T.b_len bt_len (pa_cons (pv 1) pa_nil)) (pa_cons (pe_ix (ix_anyK (K := K) rfl) (pv 0) (pv 2) (fun _ _ => rfl)) pa_nil))) (pg_tupK (n := 2) (K := K) rfl rfl (pgs_cons (pg_name (i := 3) sc_L_ended.nd rfl (by first | exact .inl rfl | exact .inr rfl)) (pgs_cons (pg_name (i := 4) sc_L_ended.nd rfl (by first | exact .inl rfl | exact .inr rfl)) pgs_nil)))) (pss_cons (ps_for (passes_of rfl) rfl (pi_range2 (by exact rfl) T.b_range (pa_cons pe_int (pa_cons (pe_op (op_addK (K := K) rfl) (pe_op op_fdiv (pv 3) (pe_op op_sub (pv 4) pe_int)) pe_int) pa_nil))) (pg_name (i := 5) sc_L_ended.nd rfl (by first | exact .inl rfl | exact .inr rfl)) (pss_one (ps_if (pt_cmpR (op_eqK (K := K) rfl hr.units) (pe_lc (own := [("_law_k", 6)]) rfl sc_L_ended.nd (pi_range2 (by exact rfl) T.b_range (pa_cons pe_int (pa_cons (pv 4) pa_nil))) (blkOk_by (own := [("_law_k", 6)]) (N := N_L_ended) (sc := defScope st_L_ended) (by decide +kernel)) (fun _ _ _ _ _ => (pg_name (i := 6) sc_L_ended.nd rfl (by first | exact .inl rfl | exact .inr rfl))) (fun _ _ _ _ _ => (pts_one (pt_cmpR (op_neK (K := K) rfl hr.units) (pe_ix (ix_anyK (K := K) rfl) (pv 1) (pe_op op_sub (pv 3) (pe_op (op_mulB (K := K) rfl) (pv 6) (pv 5))) (fun _ _ => rfl)) (pv 2) (nomark _)))) (fun _ _ _ _ _ => (pv 6))) (pe_lst pa_nil) (nomark _)) (pss_one (ps_ret pe_bl)) pss_nil))) (pss_one (ps_ret pe_bl)))), fun ds hl => ?_⟩
  match ds, hl with
  | [l_sizes, l_found, l_hue], _ =>
    show SS _ _ _ [.val (l_sizes), .val (l_found), .val (l_hue), .no, .no, .no, .no] (enc0 7) _ (B_L_ended l_sizes l_found l_hue)
    unfold B_L_ended
    exact (ss_asg (se_tup (sa_cons (se_cb cs_len (sa_cons (se_var (k := 1) rfl) sa_nil)) (sa_cons (se_op os_ix (se_var (k := 0) rfl) (se_var (k := 2) rfl)) sa_nil)) (Nat.le_of_ble_eq_true rfl)) (sg_two (i := 3) (j := 4)) (fun p1 => (ss_seq (enc := fun (s2 : Unit) => [.no, .val (l_found), .val (l_hue), .val (p1.1), .val (p1.2), .no, .no]) (ss_for (enc := fun (s2 : Unit) => [.no, .val (l_found), .val (l_hue), .val (p1.1), .val (p1.2), .no, .no]) (s0 := ()) (si_rng2 (sa_cons se_int (sa_cons (se_op os_add (se_op os_fdiv (se_var (k := 3) rfl) (se_op os_sub (se_var (k := 4) rfl) se_int)) se_int) sa_nil))) (.no (.same (.same (.same (.same (.no (.no .nil))))))) (fun s2 => (sg_name (i := 5))) (fun s2 l_step => (ss_if (sb_test (se_op os_eqA (so_se (so_lc (si_rng2 (sa_cons se_int (sa_cons (se_var (k := 4) rfl) sa_nil))) (sg_name (i := 6)) (by decide) (fun (l_k : D) => (sb_test (se_op os_neA (se_op os_ix (se_var (k := 1) rfl) (se_op os_sub (se_var (k := 3) rfl) (se_op os_mulB (se_var (k := 6) rfl) (se_var (k := 5) rfl)))) (se_var (k := 2) rfl)))) (fun (l_k : D) => (se_var (k := 6) rfl)))) (so_se (so_lst sa_nil (Nat.le_of_ble_eq_true rfl))))) (ss_ret se_bl) (ss_next (.no (.same (.same (.same (.same (.no (.no .nil))))))))))) (fun s2 => (ss_ret se_bl)))))

abbrev st_L_knot : Stmt := topS 53
abbrev N_L_knot : List Str := ["_law_pen_here", "_law_sizes", "_law_limit", "_law_spare", "_law_share", "_law_length", "_law_found", "_law_place", "_law_hue", "_law_skip", "_law_some", "_law_good", "_law_k", "_law_one"]
theorem sc_L_knot : FnScope N_L_knot ["_law_pen_here", "_law_sizes", "_law_limit", "_law_spare"] (defScope st_L_knot) := ⟨rfl, rfl, rfl, by decide +kernel, rfl, by decide +kernel, by decide +kernel⟩
theorem ok_L_knot (T : Tx K mg) (d : Df K mg "_law_knot" st_L_knot ["_law_pen_here", "_law_sizes", "_law_limit", "_law_spare"]) (c_L_draw : Cd false P w K mg base "_law_draw" 1 ["_law_pen_here", "_law_many"] (spD K mg false 2 (drawF false))) (c_L_ended : Cd false P w K mg base "_law_ended" 1 ["_law_sizes", "_law_found", "_law_hue"] (spD K mg false 3 D_L_ended)) : Cd false P w K mg base "_law_knot" 2 ["_law_pen_here", "_law_sizes", "_law_limit", "_law_spare"] (spD K mg false 4 D_L_knot) := by
  refine cd_of (k := 1) false (F := Fl_L_knot) d sc_L_knot fun f cdv A outer s H E hr hg => ⟨_, (pss_cons (ps_par (i := 4) (j := 5) (by rfl) sc_L_knot.nd rfl rfl (by decide) rfl rfl (pa_cons (pe_op (op_addK (K := K) rfl) pe_int (pe_cd c_L_draw hr (fun z => nomatch z) pass_def (pa_cons (pv 0) (pa_cons pe_int pa_nil)))) (pa_cons (pe_cd c_L_draw hr (fun z => nomatch z) pass_def (pa_cons (pv 0) (pa_cons (pe_op (op_addK (K := K) rfl) (pv 2) pe_int) pa_nil))) pa_nil)) (by rfl)) (pss_cons (ps_set (i := 6) sc_L_knot.nd rfl (by first | exact .inl rfl | exact .inr rfl) (pe_lst pa_nil)) (pss_cons (ps_for (passes_of rfl) rfl (pi_range1 (by exact rfl) T.b_range (pa_cons (pv 5) pa_nil)) (pg_name (i := 7) sc_L_knot.nd rfl (by first | exact .inl rfl | exact .inr rfl)) (pss_cons (ps_asg (pe_tupB (pa_cons (pe_cd c_L_draw hr (fun z => nomatch z) pass_def (pa_cons (pv 0) (pa_cons (pe_callB (call_lenK (K := K) rfl) (by exact rfl) T.b_len bt_len (pa_cons (pv 1) pa_nil)) pa_nil))) (pa_cons (pe_cmpR (op_eqK (K := K) rfl hr.units) (pe_cd c_L_draw hr (fun z => nomatch z) pass_def (pa_cons (pv 0) (pa_cons (pv 4) pa_nil))) pe_int (nomark _)) pa_nil))) (pg_tupK (n := 2) (K := K) rfl rfl (pgs_cons (pg_name (i := 8) sc_L_knot.nd rfl (by first | exact .inl rfl | exact .inr rfl)) (pgs_cons (pg_name (i := 9) sc_L_knot.nd rfl (by first | exact .inl rfl | exact .inr rfl)) pgs_nil)))) (pss_cons (ps_setLc (i := 10) (own := [("_law_k", 12)]) rfl sc_L_knot.nd rfl rfl (sw_true rfl rfl rfl (by decide +kernel)) (pi_range1 (by exact rfl) T.b_range (pa_cons (pe_callB (call_lenK (K := K) rfl) (by exact rfl) T.b_len bt_len (pa_cons (pv 1) pa_nil)) pa_nil)) (blkOk_by (own := [("_law_k", 12)]) (N := N_L_knot) (sc := defScope st_L_knot) (by decide +kernel)) (fun _ _ _ _ _ => (pg_name (i := 12) sc_L_knot.nd rfl (by first | exact .inl rfl | exact .inr rfl))) (fun _ _ _ _ _ => pts_nil) (fun _ _ _ _ _ => (pe_op op_mod (pe_op (op_addK (K := K) rfl) (pv 8) (pv 12)) (pe_callB (call_lenK (K := K) rfl) (by exact rfl) T.b_len bt_len (pa_cons (pv 1) pa_nil))))) (pss_cons (ps_setLc (i := 11) (own := [("_law_one", 13)]) rfl sc_L_knot.nd rfl rfl (sw_true rfl rfl rfl (by decide +kernel)) (pi_seqK (K := K) rfl (pv 10)) (blkOk_by (own := [("_law_one", 13)]) (N := N_L_knot) (sc := defScope st_L_knot) (by decide +kernel)) (fun _ _ _ _ _ => (pg_name (i := 13) sc_L_knot.nd rfl (by first | exact .inl rfl | exact .inr rfl))) (fun _ _ _ _ _ => (pts_one (PW.pt (pw_and (pt_not (pt_val (pv 9))) (pw_and1 (pt_not (pt_val (pe_cd c_L_ended hr (fun z => nomatch z) passL (pa_cons (pv 1) (pa_cons (pv 6) (pa_cons (pv 13) pa_nil))))))))))) (fun _ _ _ _ _ => (pv 13))) (pss_cons (ps_if (PW.pt (pw_and (pt_cmpR (op_eqK (K := K) rfl hr.units) (pv 11) (pe_lst pa_nil) (nomark _)) (pw_and1 (pt_cmpR (op_eqK (K := K) rfl hr.units) (pe_metK (K := K) rfl PySem.F.plainAttrs_list PySem.F.slot_list_count PySem.F.type_list_count (mt_countK (K := K) rfl) (pv 6) (pa_cons (pe_un un_neg pe_int) pa_nil)) (pv 3) (nomark _))))) (pss_one (ps_ret (pe_callTy (call_tupleK (K := K) rfl) (by exact rfl) T.b_tuple bt_tuple (pa_cons (pv 6) pa_nil)))) pss_nil) (pss_cons (ps_expr (pe_bm PySem.F.plainAttrs_list PySem.F.slot_list_append PySem.F.type_list_append mt_append (pv 6) (pa_cons (pe_ix (ix_anyK (K := K) rfl) (pe_op (op_addK (K := K) rfl) (pv 11) (pe_lst (pa_cons (pe_un un_neg pe_int) pa_nil))) pe_int (fun _ _ => rfl)) pa_nil))) pss_nil)))))) (pss_one (ps_ret (pe_callTy (call_tupleK (K := K) rfl) (by exact rfl) T.b_tuple bt_tuple (pa_cons (pv 6) pa_nil))))))), fun ds hl => ?_⟩
  match ds, hl with
  | [l_pen_here, l_sizes, l_limit, l_spare], _ =>
    show SS _ _ _ [.val (l_pen_here), .val (l_sizes), .val (l_limit), .val (l_spare), .no, .no, .no, .no, .no, .no, .no, .no, .no, .no] (enc0 14) _ (B_L_knot l_pen_here l_sizes l_limit l_spare)
    unfold B_L_knot
    exact (ss_par (sa_cons (se_op os_add se_int (se_g (sa_cons (se_var (k := 0) rfl) (sa_cons se_int sa_nil)) rfl)) (sa_cons (se_g (sa_cons (se_var (k := 0) rfl) (sa_cons (se_op os_add (se_var (k := 2) rfl) se_int) sa_nil)) rfl) sa_nil)) (fun l_share l_length => (ss_seto (so_lst sa_nil (Nat.le_of_ble_eq_true rfl)) (fun l_found => (ss_seq (enc := fun (s1 : List D) => [.val (l_pen_here), .val (l_sizes), .no, .val (l_spare), .val (l_share), .no, .own (s1), .no, .no, .no, .no, .no, .no, .no]) (ss_for (enc := fun (s1 : List D) => [.val (l_pen_here), .val (l_sizes), .no, .val (l_spare), .val (l_share), .no, .own (s1), .no, .no, .no, .no, .no, .no, .no]) (s0 := (l_found)) (si_rng1 (sa_cons (se_var (k := 5) rfl) sa_nil)) (.same (.same (.no (.same (.same (.no (.same (.no (.no (.no (.no (.no (.no (.no .nil)))))))))))))) (fun s1 => (sg_name (i := 7))) (fun s1 l_place => (ss_asg (se_tup (sa_cons (se_g (sa_cons (se_var (k := 0) rfl) (sa_cons (se_cb cs_len (sa_cons (se_var (k := 1) rfl) sa_nil)) sa_nil)) rfl) (sa_cons (se_op os_eqA (se_g (sa_cons (se_var (k := 0) rfl) (sa_cons (se_var (k := 4) rfl) sa_nil)) rfl) se_int) sa_nil)) (Nat.le_of_ble_eq_true rfl)) (sg_two (i := 8) (j := 9)) (fun p2 => (ss_set (so_se (so_lc (si_rng1 (sa_cons (se_cb cs_len (sa_cons (se_var (k := 1) rfl) sa_nil)) sa_nil)) (sg_name (i := 12)) (by decide) (fun (l_k : D) => sb_yes) (fun (l_k : D) => (se_op os_mod (se_op os_add (se_var (k := 8) rfl) (se_var (k := 12) rfl)) (se_cb cs_len (sa_cons (se_var (k := 1) rfl) sa_nil)))))) (fun l_some => (ss_set (so_se (so_lend (i := 6) rfl (so_lc (si_seq (se_var (k := 10) rfl)) (sg_name (i := 13)) (by decide) (fun (l_one : D) => (sb_and (sb_not (sb_val (se_var (k := 9) rfl))) (sb_not (sb_val (se_g (sa_cons (se_var (k := 1) rfl) (sa_cons (se_var (k := 6) rfl) (sa_cons (se_var (k := 13) rfl) sa_nil))) rfl))))) (fun (l_one : D) => (se_var (k := 13) rfl))))) (fun l_good => (ss_ifl (sb_lend (i := 6) rfl (sb_and (sb_test (se_op os_eqA (se_var (k := 11) rfl) (so_se (so_lst sa_nil (Nat.le_of_ble_eq_true rfl))))) (sb_test (se_op os_eqA (se_met me_count (se_var (k := 6) rfl) (sa_cons (se_un us_neg se_int) sa_nil)) (se_var (k := 3) rfl))))) (ss_freeze (i := 6) rfl (ss_ret (se_cb cs_tup (sa_cons (se_var (k := 6) rfl) sa_nil)))) (ss_app (i := 6) rfl (se_op os_ix (se_op os_add (se_var (k := 11) rfl) (so_se (so_lst (sa_cons (se_un us_neg se_int) sa_nil) (Nat.le_of_ble_eq_true rfl)))) se_int) (fun d3 => (ss_next (.same (.same (.no (.same (.same (.no (.same (.no (.no (.no (.no (.no (.no (.no .nil)))))))))))))))))))))))))) (fun s1 => (ss_freeze (i := 6) rfl (ss_ret (se_cb cs_tup (sa_cons (se_var (k := 6) rfl) sa_nil))))))))))

abbrev st_L_places : Stmt := topS 49
abbrev N_L_places : List Str := ["_law_row", "_law_size", "_law_k"]
theorem sc_L_places : FnScope N_L_places ["_law_row", "_law_size"] (defScope st_L_places) := ⟨rfl, rfl, rfl, by decide +kernel, rfl, by decide +kernel, by decide +kernel⟩
theorem ok_L_places (T : Tx K mg) (d : Df K mg "_law_places" st_L_places ["_law_row", "_law_size"])  : Cd false P w K mg base "_law_places" 1 ["_law_row", "_law_size"] (spD K mg false 2 D_L_places) := by
  refine cd_of (k := 0) false (F := Fl_L_places) d sc_L_places fun f cdv A outer s H E hr hg => ⟨_, (pss_one (ps_ret (pe_lc (own := [("_law_k", 2)]) rfl sc_L_places.nd (pi_range1 (by exact rfl) T.b_range (pa_cons (pv 1) pa_nil)) (blkOk_by (own := [("_law_k", 2)]) (N := N_L_places) (sc := defScope st_L_places) (by decide +kernel)) (fun _ _ _ _ _ => (pg_name (i := 2) sc_L_places.nd rfl (by first | exact .inl rfl | exact .inr rfl))) (fun _ _ _ _ _ => pts_nil) (fun _ _ _ _ _ => (pe_op (op_addK (K := K) rfl) (pe_ix (ix_anyK (K := K) rfl) (pv 0) pe_int (fun _ _ => rfl)) (pe_op (op_mulB (K := K) rfl) (pv 2) (pe_ix (ix_anyK (K := K) rfl) (pv 0) pe_int (fun _ _ => rfl)))))))), fun ds hl => ?_⟩
  match ds, hl with
  | [l_row, l_size], _ =>
    show SS _ _ _ [.val (l_row), .val (l_size), .no] (enc0 3) _ (B_L_places l_row l_size)
    unfold B_L_places
    exact (ss_ret (so_se (so_lc (si_rng1 (sa_cons (se_var (k := 1) rfl) sa_nil)) (sg_name (i := 2)) (by decide) (fun (l_k : D) => sb_yes) (fun (l_k : D) => (se_op os_add (se_op os_ix (se_var (k := 0) rfl) se_int) (se_op os_mulB (se_var (k := 2) rfl) (se_op os_ix (se_var (k := 0) rfl) se_int)))))))

abbrev st_L_whole : Stmt := topS 54
abbrev N_L_whole : List Str := ["_law_thing"]
theorem sc_L_whole : FnScope N_L_whole ["_law_thing"] (defScope st_L_whole) := ⟨rfl, rfl, rfl, by decide +kernel, rfl, by decide +kernel, by decide +kernel⟩
theorem ok_L_whole (T : Tx K mg) (d : Df K mg "_law_whole" st_L_whole ["_law_thing"])  : Cd false P w K mg base "_law_whole" 1 ["_law_thing"] (spD K mg false 1 D_L_whole) := by
  refine cd_of (k := 0) false (F := Fl_L_whole) d sc_L_whole fun f cdv A outer s H E hr hg => ⟨_, (pss_one (ps_ret (pe_and (pe_callB (call_isiK (K := K) rfl) (by exact rfl) T.b_isinstance bt_isinstance (pa_cons (pv 0) (pa_cons (pe_bltn (v := V.ty "int") (by exact rfl) T.b_int bt_int rfl) pa_nil))) (pe_one (pe_not (pe_callB (call_isiK (K := K) rfl) (by exact rfl) T.b_isinstance bt_isinstance (pa_cons (pv 0) (pa_cons (pe_bltn (v := V.ty "bool") (by exact rfl) T.b_bool bt_bool rfl) pa_nil)))))))), fun ds hl => ?_⟩
  match ds, hl with
  | [l_thing], _ =>
    show SS _ _ _ [.val (l_thing)] (enc0 1) _ (B_L_whole l_thing)
    unfold B_L_whole
    exact (ss_ret (se_and (se_isa .int (se_var (k := 0) rfl)) (se_not (se_isa .bool (se_var (k := 0) rfl)))))

abbrev st_L_shows : Stmt := topS 55
abbrev N_L_shows : List Str := ["_law_sizes", "_law_draft", "_law_thing", "_law_hue", "_law_some", "_law_paper", "_law_place"]
theorem sc_L_shows : FnScope N_L_shows ["_law_sizes", "_law_draft", "_law_thing"] (defScope st_L_shows) := ⟨rfl, rfl, rfl, by decide +kernel, rfl, by decide +kernel, by decide +kernel⟩
theorem okr_L_shows (T : Tx K mg) (d : Df K mg "_law_shows" st_L_shows ["_law_sizes", "_law_draft", "_law_thing"]) (c_L_whole : Cd false P w K mg base "_law_whole" 1 ["_law_thing"] (spD K mg false 1 D_L_whole)) (c_L_places : Cd false P w K mg base "_law_places" 1 ["_law_row", "_law_size"] (spD K mg false 2 D_L_places)) : ∀ n : Nat, Cd false P w K mg base "_law_shows" (2 + n) ["_law_sizes", "_law_draft", "_law_thing"] (spD K mg false 3 (D_L_shows n))
 | 0 => by
    refine cd_of (k := 1) false (F := fun _ => fail) d sc_L_shows fun f cdv A outer s H E hr hg => ⟨_, pss_never, fun ds hl => ?_⟩
    exact ss_never
 | n + 1 => by
  have c_L_shows := okr_L_shows T d c_L_whole c_L_places n
  refine cd_of (k := 2 + n) false (F := Fl_L_shows (D_L_shows n)) d sc_L_shows fun f cdv A outer s H E hr hg => ⟨_, (pss_cons (ps_if (PW.pt (pw_or (pt_not (pt_val (pe_callB (call_isiK (K := K) rfl) (by exact rfl) T.b_isinstance bt_isinstance (pa_cons (pv 2) (pa_cons (pe_bltn (v := V.ty "tuple") (by exact rfl) T.b_tuple bt_tuple rfl) pa_nil))))) (pw_or (pt_cmpR (op_neK (K := K) rfl hr.units) (pe_callB (call_lenK (K := K) rfl) (by exact rfl) T.b_len bt_len (pa_cons (pv 2) pa_nil)) pe_int (nomark _)) (pw_or (pt_not (pt_val (pe_callB (call_isiK (K := K) rfl) (by exact rfl) T.b_isinstance bt_isinstance (pa_cons (pe_ix (ix_anyK (K := K) rfl) (pv 2) pe_int (fun _ _ => rfl)) (pa_cons (pe_bltn (v := V.ty "str") (by exact rfl) T.b_str bt_str rfl) pa_nil))))) (pw_or1 (pt_not (pt_val (pe_cd c_L_whole hr (fun z => nomatch z) pass_def (pa_cons (pe_ix (ix_anyK (K := K) rfl) (pv 2) pe_int (fun _ _ => rfl)) pa_nil) (hjk := by omega))))))))) (pss_one (ps_ret pe_bl)) pss_nil) (pss_cons (ps_if (pt_not (pt_chain op_le op_lt pe_int (pe_ix (ix_anyK (K := K) rfl) (pv 2) pe_int (fun _ _ => rfl)) (pe_callB (call_lenK (K := K) rfl) (by exact rfl) T.b_len bt_len (pa_cons (pv 1) pa_nil)))) (pss_one (ps_ret pe_bl)) pss_nil) (pss_cons (ps_if (pt_cmpR (op_eqK (K := K) rfl hr.units) (pe_ix (ix_anyK (K := K) rfl) (pv 2) pe_int (fun _ _ => rfl)) pe_str (nomark _)) (pss_cons (ps_set (i := 3) sc_L_shows.nd rfl (by first | exact .inl rfl | exact .inr rfl) (pe_ix (ix_anyK (K := K) rfl) (pv 1) (pe_ix (ix_anyK (K := K) rfl) (pv 2) pe_int (fun _ _ => rfl)) (fun _ _ => rfl))) (pss_cons (ps_if (PW.pt (pw_or (pt_cmpR (op_eqK (K := K) rfl hr.units) (pv 3) (pe_un un_neg pe_int) (nomark _)) (pw_or (pt_not (pt_val (pe_cd c_L_whole hr (fun z => nomatch z) pass_def (pa_cons (pe_ix (ix_anyK (K := K) rfl) (pv 2) pe_int (fun _ _ => rfl)) pa_nil) (hjk := by omega)))) (pw_or1 (pt_not (pt_chain op_le op_lt pe_int (pe_ix (ix_anyK (K := K) rfl) (pv 2) pe_int (fun _ _ => rfl)) pe_int)))))) (pss_one (ps_ret pe_bl)) pss_nil) (pss_cons (ps_set (i := 4) sc_L_shows.nd rfl (by first | exact .inl rfl | exact .inr rfl) (pe_cd c_L_places hr (fun z => nomatch z) pass_def (pa_cons (pe_slice (sl_anyK (K := K) rfl) (pv 2) (po_some pe_int) po_none) (pa_cons (pe_ix (ix_anyK (K := K) rfl) (pv 0) (pv 3) (fun _ _ => rfl)) pa_nil)) (hjk := by omega))) (pss_one (ps_ret (pe_and (pe_cmpR op_lt (pe_ix (ix_anyK (K := K) rfl) (pv 4) (pe_un un_neg pe_int) (fun _ _ => rfl)) (pe_callB (call_lenK (K := K) rfl) (by exact rfl) T.b_len bt_len (pa_cons (pv 1) pa_nil)) (nomark _)) (pe_one (pe_cmpR (op_eqK (K := K) rfl hr.units) (pe_lc (own := [("_law_place", 6)]) rfl sc_L_shows.nd (pi_seqK (K := K) rfl (pv 4)) (blkOk_by (own := [("_law_place", 6)]) (N := N_L_shows) (sc := defScope st_L_shows) (by decide +kernel)) (fun _ _ _ _ _ => (pg_name (i := 6) sc_L_shows.nd rfl (by first | exact .inl rfl | exact .inr rfl))) (fun _ _ _ _ _ => (pts_one (pt_cmpR (op_neK (K := K) rfl hr.units) (pe_ix (ix_anyK (K := K) rfl) (pv 1) (pv 6) (fun _ _ => rfl)) (pv 3) (nomark _)))) (fun _ _ _ _ _ => (pv 6))) (pe_lst pa_nil) (nomark _))))))))) pss_nil) (pss_cons (ps_if (PW.pt (pw_or (pt_cmpR (op_neK (K := K) rfl hr.units) (pe_ix (ix_anyK (K := K) rfl) (pv 2) pe_int (fun _ _ => rfl)) pe_str (nomark _)) (pw_or (pt_cmpR (op_neK (K := K) rfl hr.units) (pe_ix (ix_anyK (K := K) rfl) (pv 1) (pe_ix (ix_anyK (K := K) rfl) (pv 2) pe_int (fun _ _ => rfl)) (fun _ _ => rfl)) (pe_un un_neg pe_int) (nomark _)) (pw_or1 (pt_not (pt_val (pe_callB (call_isiK (K := K) rfl) (by exact rfl) T.b_isinstance bt_isinstance (pa_cons (pe_ix (ix_anyK (K := K) rfl) (pv 2) pe_int (fun _ _ => rfl)) (pa_cons (pe_bltn (v := V.ty "tuple") (by exact rfl) T.b_tuple bt_tuple rfl) pa_nil))))))))) (pss_one (ps_ret pe_bl)) pss_nil) (pss_cons (ps_if (pt_cmpR (op_neK (K := K) rfl hr.units) (pe_callB (call_lenK (K := K) rfl) (by exact rfl) T.b_len bt_len (pa_cons (pe_ix (ix_anyK (K := K) rfl) (pv 2) pe_int (fun _ _ => rfl)) pa_nil)) (pe_callB (call_lenK (K := K) rfl) (by exact rfl) T.b_len bt_len (pa_cons (pv 0) pa_nil)) (nomark _)) (pss_one (ps_ret pe_bl)) pss_nil) (pss_cons (ps_for (passes_of rfl) rfl (pi_enumA (K := K) rfl (by exact rfl) T.b_enumerate (pa_cons (pe_ix (ix_anyK (K := K) rfl) (pv 2) pe_int (fun _ _ => rfl)) pa_nil)) (pg_tupK (n := 2) (K := K) rfl rfl (pgs_cons (pg_name (i := 3) sc_L_shows.nd rfl (by first | exact .inl rfl | exact .inr rfl)) (pgs_cons (pg_name (i := 5) sc_L_shows.nd rfl (by first | exact .inl rfl | exact .inr rfl)) pgs_nil))) (pss_one (ps_if (pt_not (pt_val (pe_cd c_L_shows hr (fun z => nomatch z) pass_def (pa_cons (pv 0) (pa_cons (pe_op (op_addK (K := K) rfl) (pe_op (op_addK (K := K) rfl) (pe_slice (sl_anyK (K := K) rfl) (pv 1) po_none (po_some (pe_ix (ix_anyK (K := K) rfl) (pv 2) pe_int (fun _ _ => rfl)))) (pe_tupB (pa_cons (pv 3) pa_nil))) (pe_slice (sl_anyK (K := K) rfl) (pv 1) (po_some (pe_op (op_addK (K := K) rfl) (pe_ix (ix_anyK (K := K) rfl) (pv 2) pe_int (fun _ _ => rfl)) pe_int)) po_none)) (pa_cons (pv 5) pa_nil))) (hjk := by omega)))) (pss_one (ps_ret pe_bl)) pss_nil))) (pss_one (ps_ret pe_bl)))))))), fun ds hl => ?_⟩
  match ds, hl with
  | [l_sizes, l_draft, l_thing], _ =>
    show SS _ _ _ [.val (l_sizes), .val (l_draft), .val (l_thing), .no, .no, .no, .no] (enc0 7) _ (B_L_shows (D_L_shows n) l_sizes l_draft l_thing)
    unfold B_L_shows
    exact (ss_ifl (sb_or (sb_not (sb_val (se_isa .tuple (se_var (k := 2) rfl)))) (sb_or (sb_test (se_op os_neA (se_cb cs_len (sa_cons (se_var (k := 2) rfl) sa_nil)) se_int)) (sb_or (sb_not (sb_val (se_isa .str (se_op os_ix (se_var (k := 2) rfl) se_int)))) (sb_not (sb_val (se_g (sa_cons (se_op os_ix (se_var (k := 2) rfl) se_int) sa_nil) rfl)))))) (ss_ret se_bl) (ss_ifl (sb_not (sb_test (se_chain os_le os_lt se_int (se_op os_ix (se_var (k := 2) rfl) se_int) (se_cb cs_len (sa_cons (se_var (k := 1) rfl) sa_nil))))) (ss_ret se_bl) (ss_ifl (sb_test (se_op os_eqA (se_op os_ix (se_var (k := 2) rfl) se_int) se_str)) (ss_set (se_op os_ix (se_var (k := 1) rfl) (se_op os_ix (se_var (k := 2) rfl) se_int)) (fun l_hue => (ss_ifl (sb_or (sb_test (se_op os_eqA (se_var (k := 3) rfl) (se_un us_neg se_int))) (sb_or (sb_not (sb_val (se_g (sa_cons (se_op os_ix (se_var (k := 2) rfl) se_int) sa_nil) rfl))) (sb_not (sb_test (se_chain os_le os_lt se_int (se_op os_ix (se_var (k := 2) rfl) se_int) se_int))))) (ss_ret se_bl) (ss_set (se_g (sa_cons (se_slice ss_cut (se_var (k := 2) rfl) (sp_some se_int) sp_none) (sa_cons (se_op os_ix (se_var (k := 0) rfl) (se_var (k := 3) rfl)) sa_nil)) rfl) (fun l_some => (ss_ret (se_and (se_op os_lt (se_op os_ix (se_var (k := 4) rfl) (se_un us_neg se_int)) (se_cb cs_len (sa_cons (se_var (k := 1) rfl) sa_nil))) (se_op os_eqA (so_se (so_lc (si_seq (se_var (k := 4) rfl)) (sg_name (i := 6)) (by decide) (fun (l_place : D) => (sb_test (se_op os_neA (se_op os_ix (se_var (k := 1) rfl) (se_var (k := 6) rfl)) (se_var (k := 3) rfl)))) (fun (l_place : D) => (se_var (k := 6) rfl)))) (so_se (so_lst sa_nil (Nat.le_of_ble_eq_true rfl))))))))))) (ss_ifl (sb_or (sb_test (se_op os_neA (se_op os_ix (se_var (k := 2) rfl) se_int) se_str)) (sb_or (sb_test (se_op os_neA (se_op os_ix (se_var (k := 1) rfl) (se_op os_ix (se_var (k := 2) rfl) se_int)) (se_un us_neg se_int))) (sb_not (sb_val (se_isa .tuple (se_op os_ix (se_var (k := 2) rfl) se_int)))))) (ss_ret se_bl) (ss_ifl (sb_test (se_op os_neA (se_cb cs_len (sa_cons (se_op os_ix (se_var (k := 2) rfl) se_int) sa_nil)) (se_cb cs_len (sa_cons (se_var (k := 0) rfl) sa_nil)))) (ss_ret se_bl) (ss_seq (enc := fun (s1 : Unit) => [.val (l_sizes), .val (l_draft), .val (l_thing), .no, .no, .no, .no]) (ss_for (enc := fun (s1 : Unit) => [.val (l_sizes), .val (l_draft), .val (l_thing), .no, .no, .no, .no]) (s0 := ()) (si_enum (se_op os_ix (se_var (k := 2) rfl) se_int)) (.same (.same (.same (.no (.no (.no (.no .nil))))))) (fun s1 => (sg_two (i := 3) (j := 5))) (fun s1 p2 => (ss_if (sb_not (sb_val (se_g (sa_cons (se_var (k := 0) rfl) (sa_cons (se_op os_add (se_op os_add (se_slice ss_cut (se_var (k := 1) rfl) sp_none (sp_some (se_op os_ix (se_var (k := 2) rfl) se_int))) (se_tup (sa_cons (se_var (k := 3) rfl) sa_nil) (Nat.le_of_ble_eq_true rfl))) (se_slice ss_cut (se_var (k := 1) rfl) (sp_some (se_op os_add (se_op os_ix (se_var (k := 2) rfl) se_int) se_int)) sp_none)) (sa_cons (se_var (k := 5) rfl) sa_nil))) rfl))) (ss_ret se_bl) (ss_next (.same (.same (.same (.no (.no (.no (.no .nil))))))))))) (fun s1 => (ss_ret se_bl))))))))
theorem ok_L_shows (T : Tx K mg) (d : Df K mg "_law_shows" st_L_shows ["_law_sizes", "_law_draft", "_law_thing"]) (c_L_whole : Cd false P w K mg base "_law_whole" 1 ["_law_thing"] (spD K mg false 1 D_L_whole)) (c_L_places : Cd false P w K mg base "_law_places" 1 ["_law_row", "_law_size"] (spD K mg false 2 D_L_places)) : Cd false P w K mg base "_law_shows" 42 ["_law_sizes", "_law_draft", "_law_thing"] (spD K mg false 3 (D_L_shows 40)) := okr_L_shows T d c_L_whole c_L_places 40

abbrev st_L_cell_at : Stmt := topS 45
abbrev N_L_cell_at : List Str := ["_law_script", "_law_k"]
theorem sc_L_cell_at : FnScope N_L_cell_at ["_law_script", "_law_k"] (defScope st_L_cell_at) := ⟨rfl, rfl, rfl, by decide +kernel, rfl, by decide +kernel, by decide +kernel⟩
theorem ok_L_cell_at (T : Tx K mg) (d : Df K mg "_law_cell_at" st_L_cell_at ["_law_script", "_law_k"])  : Cd false P w K mg base "_law_cell_at" 1 ["_law_script", "_law_k"] (spD K mg false 2 D_L_cell_at) := by
  refine cd_of (k := 0) false (F := Fl_L_cell_at) d sc_L_cell_at fun f cdv A outer s H E hr hg => ⟨_, (pss_cons (ps_if (pt_cmpR op_lt (pv 1) (pe_callB (call_lenK (K := K) rfl) (by exact rfl) T.b_len bt_len (pa_cons (pv 0) pa_nil)) (nomark _)) (pss_one (ps_ret (pe_ix (ix_anyK (K := K) rfl) (pv 0) (pv 1) (fun _ _ => rfl)))) pss_nil) (pss_one (ps_ret pe_int))), fun ds hl => ?_⟩
  match ds, hl with
  | [l_script, l_k], _ =>
    show SS _ _ _ [.val (l_script), .val (l_k)] (enc0 2) _ (B_L_cell_at l_script l_k)
    unfold B_L_cell_at
    exact (ss_ifl (sb_test (se_op os_lt (se_var (k := 1) rfl) (se_cb cs_len (sa_cons (se_var (k := 0) rfl) sa_nil)))) (ss_ret (se_op os_ix (se_var (k := 0) rfl) (se_var (k := 1) rfl))) (ss_ret se_int))

abbrev st_L_rows : Stmt := topS 48
abbrev N_L_rows : List Str := ["_law_length", "_law_size", "_law_found", "_law_first", "_law_step"]
theorem sc_L_rows : FnScope N_L_rows ["_law_length", "_law_size"] (defScope st_L_rows) := ⟨rfl, rfl, rfl, by decide +kernel, rfl, by decide +kernel, by decide +kernel⟩
theorem ok_L_rows (T : Tx K mg) (d : Df K mg "_law_rows" st_L_rows ["_law_length", "_law_size"])  : Cd false P w K mg base "_law_rows" 1 ["_law_length", "_law_size"] (spD K mg false 2 D_L_rows) := by
  refine cd_of (k := 0) false (F := Fl_L_rows) d sc_L_rows fun f cdv A outer s H E hr hg => ⟨_, (pss_cons (ps_set (i := 2) sc_L_rows.nd rfl (by first | exact .inl rfl | exact .inr rfl) (pe_lst pa_nil)) (pss_cons (ps_for (passes_of rfl) rfl (pi_range1 (by exact rfl) T.b_range (pa_cons (pv 0) pa_nil)) (pg_name (i := 3) sc_L_rows.nd rfl (by first | exact .inl rfl | exact .inr rfl)) (pss_cons (ps_for (passes_of rfl) rfl (pi_range2 (by exact rfl) T.b_range (pa_cons pe_int (pa_cons (pv 0) pa_nil))) (pg_name (i := 4) sc_L_rows.nd rfl (by first | exact .inl rfl | exact .inr rfl)) (pss_cons (ps_if (pt_cmpR op_lt (pe_op (op_addK (K := K) rfl) (pv 3) (pe_op (op_mulB (K := K) rfl) (pe_op op_sub (pv 1) pe_int) (pv 4))) (pv 0) (nomark _)) (pss_cons (ps_expr (pe_bm PySem.F.plainAttrs_list PySem.F.slot_list_append PySem.F.type_list_append mt_append (pv 2) (pa_cons (pe_tupB (pa_cons (pv 3) (pa_cons (pv 4) pa_nil))) pa_nil))) pss_nil) pss_nil) pss_nil)) pss_nil)) (pss_one (ps_ret (pv 2))))), fun ds hl => ?_⟩
  match ds, hl with
  | [l_length, l_size], _ =>
    show SS _ _ _ [.val (l_length), .val (l_size), .no, .no, .no] (enc0 5) _ (B_L_rows l_length l_size)
    unfold B_L_rows
    exact (ss_seto (so_lst sa_nil (Nat.le_of_ble_eq_true rfl)) (fun l_found => (ss_seq (enc := fun (s1 : List D) => [.val (l_length), .val (l_size), .own (s1), .no, .no]) (ss_for (enc := fun (s1 : List D) => [.val (l_length), .val (l_size), .own (s1), .no, .no]) (s0 := (l_found)) (si_rng1 (sa_cons (se_var (k := 0) rfl) sa_nil)) (.same (.same (.same (.no (.no .nil))))) (fun s1 => (sg_name (i := 3))) (fun s1 l_first => (ss_seq (enc := fun (s2 : List D) => [.val (l_length), .val (l_size), .own (s2), .val (l_first), .no]) (ss_for (enc := fun (s2 : List D) => [.val (l_length), .val (l_size), .own (s2), .val (l_first), .no]) (s0 := (s1)) (si_rng2 (sa_cons se_int (sa_cons (se_var (k := 0) rfl) sa_nil))) (.same (.same (.same (.same (.no .nil))))) (fun s2 => (sg_name (i := 4))) (fun s2 l_step => (ss_seq (T := List D) (enc := fun s3 => [.val (l_length), .val (l_size), .own (s3), .val (l_first), .no]) (ss_if (sb_test (se_op os_lt (se_op os_add (se_var (k := 3) rfl) (se_op os_mulB (se_op os_sub (se_var (k := 1) rfl) se_int) (se_var (k := 4) rfl))) (se_var (k := 0) rfl))) (ss_app (i := 2) rfl (se_tup (sa_cons (se_var (k := 3) rfl) (sa_cons (se_var (k := 4) rfl) sa_nil)) (Nat.le_of_ble_eq_true rfl)) (fun d4 => (ss_next (.same (.same (.same (.same (.no .nil)))))))) (ss_next (.same (.same (.same (.same (.no .nil))))))) (fun s3 => (ss_next (.same (.same (.same (.same (.no .nil)))))))))) (fun s2 => (ss_next (.same (.same (.same (.no (.no .nil)))))))))) (fun s1 => (ss_freeze (i := 2) rfl (ss_ret (se_var (k := 2) rfl)))))))

abbrev st_L_wrong : Stmt := topS 50
abbrev N_L_wrong : List Str := ["_law_sizes", "_law_draft", "_law_found", "_law_hue", "_law_size", "_law_row", "_law_place"]
theorem sc_L_wrong : FnScope N_L_wrong ["_law_sizes", "_law_draft"] (defScope st_L_wrong) := ⟨rfl, rfl, rfl, by decide +kernel, rfl, by decide +kernel, by decide +kernel⟩
theorem ok_L_wrong (T : Tx K mg) (d : Df K mg "_law_wrong" st_L_wrong ["_law_sizes", "_law_draft"]) (c_L_rows : Cd false P w K mg base "_law_rows" 1 ["_law_length", "_law_size"] (spD K mg false 2 D_L_rows)) (c_L_places : Cd false P w K mg base "_law_places" 1 ["_law_row", "_law_size"] (spD K mg false 2 D_L_places)) : Cd false P w K mg base "_law_wrong" 2 ["_law_sizes", "_law_draft"] (spD K mg false 2 D_L_wrong) := by
  refine cd_of (k := 1) false (F := Fl_L_wrong) d sc_L_wrong fun f cdv A outer s H E hr hg => ⟨_, (pss_cons (ps_set (i := 2) sc_L_wrong.nd rfl (by first | exact .inl rfl | exact .inr rfl) (pe_lst pa_nil)) (pss_cons (ps_for (passes_of rfl) rfl (pi_enumA (K := K) rfl (by exact rfl) T.b_enumerate (pa_cons (pv 0) pa_nil)) (pg_tupK (n := 2) (K := K) rfl rfl (pgs_cons (pg_name (i := 3) sc_L_wrong.nd rfl (by first | exact .inl rfl | exact .inr rfl)) (pgs_cons (pg_name (i := 4) sc_L_wrong.nd rfl (by first | exact .inl rfl | exact .inr rfl)) pgs_nil))) (pss_cons (ps_for (passes_of rfl) rfl (pi_seqK (K := K) rfl (pe_cd c_L_rows hr (fun z => nomatch z) pass_def (pa_cons (pe_callB (call_lenK (K := K) rfl) (by exact rfl) T.b_len bt_len (pa_cons (pv 1) pa_nil)) (pa_cons (pv 4) pa_nil)))) (pg_name (i := 5) sc_L_wrong.nd rfl (by first | exact .inl rfl | exact .inr rfl)) (pss_cons (ps_if (pt_cmpR (op_eqK (K := K) rfl hr.units) (pe_lc (own := [("_law_place", 6)]) rfl sc_L_wrong.nd (pi_seqK (K := K) rfl (pe_cd c_L_places hr (fun z => nomatch z) pass_def (pa_cons (pv 5) (pa_cons (pv 4) pa_nil)))) (blkOk_by (own := [("_law_place", 6)]) (N := N_L_wrong) (sc := defScope st_L_wrong) (by decide +kernel)) (fun _ _ _ _ _ => (pg_name (i := 6) sc_L_wrong.nd rfl (by first | exact .inl rfl | exact .inr rfl))) (fun _ _ _ _ _ => (pts_one (pt_cmpR (op_neK (K := K) rfl hr.units) (pe_ix (ix_anyK (K := K) rfl) (pv 1) (pv 6) (fun _ _ => rfl)) (pv 3) (nomark _)))) (fun _ _ _ _ _ => (pv 6))) (pe_lst pa_nil) (nomark _)) (pss_cons (ps_expr (pe_bm PySem.F.plainAttrs_list PySem.F.slot_list_append PySem.F.type_list_append mt_append (pv 2) (pa_cons (pv 5) pa_nil))) pss_nil) pss_nil) pss_nil)) pss_nil)) (pss_one (ps_ret (pe_callB (call_sortK (K := K) rfl) (by exact rfl) T.b_sorted bt_sorted (pa_cons (pv 2) pa_nil)))))), fun ds hl => ?_⟩
  match ds, hl with
  | [l_sizes, l_draft], _ =>
    show SS _ _ _ [.val (l_sizes), .val (l_draft), .no, .no, .no, .no, .no] (enc0 7) _ (B_L_wrong l_sizes l_draft)
    unfold B_L_wrong
    exact (ss_seto (so_lst sa_nil (Nat.le_of_ble_eq_true rfl)) (fun l_found => (ss_seq (enc := fun (s1 : List D) => [.no, .val (l_draft), .own (s1), .no, .no, .no, .no]) (ss_for (enc := fun (s1 : List D) => [.no, .val (l_draft), .own (s1), .no, .no, .no, .no]) (s0 := (l_found)) (si_enum (se_var (k := 0) rfl)) (.no (.same (.same (.no (.no (.no (.no .nil))))))) (fun s1 => (sg_two (i := 3) (j := 4))) (fun s1 p2 => (ss_seq (enc := fun (s3 : List D) => [.no, .val (l_draft), .own (s3), .val (p2.1), .val (p2.2), .no, .no]) (ss_for (enc := fun (s3 : List D) => [.no, .val (l_draft), .own (s3), .val (p2.1), .val (p2.2), .no, .no]) (s0 := (s1)) (si_seq (se_g (sa_cons (se_cb cs_len (sa_cons (se_var (k := 1) rfl) sa_nil)) (sa_cons (se_var (k := 4) rfl) sa_nil)) rfl)) (.no (.same (.same (.same (.same (.no (.no .nil))))))) (fun s3 => (sg_name (i := 5))) (fun s3 l_row => (ss_seq (T := List D) (enc := fun s4 => [.no, .val (l_draft), .own (s4), .val (p2.1), .val (p2.2), .no, .no]) (ss_if (sb_test (se_op os_eqA (so_se (so_lc (si_seq (se_g (sa_cons (se_var (k := 5) rfl) (sa_cons (se_var (k := 4) rfl) sa_nil)) rfl)) (sg_name (i := 6)) (by decide) (fun (l_place : D) => (sb_test (se_op os_neA (se_op os_ix (se_var (k := 1) rfl) (se_var (k := 6) rfl)) (se_var (k := 3) rfl)))) (fun (l_place : D) => (se_var (k := 6) rfl)))) (so_se (so_lst sa_nil (Nat.le_of_ble_eq_true rfl))))) (ss_app (i := 2) rfl (se_var (k := 5) rfl) (fun d5 => (ss_next (.no (.same (.same (.same (.same (.no (.no .nil)))))))))) (ss_next (.no (.same (.same (.same (.same (.no (.no .nil))))))))) (fun s4 => (ss_next (.no (.same (.same (.same (.same (.no (.no .nil)))))))))))) (fun s3 => (ss_next (.no (.same (.same (.no (.no (.no (.no .nil)))))))))))) (fun s1 => (ss_freeze (i := 2) rfl (ss_ret (so_se (so_cb co_sort (sa_cons (se_var (k := 2) rfl) sa_nil)))))))))

abbrev st_L_can : Stmt := topS 56
abbrev N_L_can : List Str := ["_law_sizes", "_law_draft", "_law_blank", "_law_hue", "_law_place"]
theorem sc_L_can : FnScope N_L_can ["_law_sizes", "_law_draft"] (defScope st_L_can) := ⟨rfl, rfl, rfl, by decide +kernel, rfl, by decide +kernel, by decide +kernel⟩
theorem okr_L_can (T : Tx K mg) (d : Df K mg "_law_can" st_L_can ["_law_sizes", "_law_draft"]) (c_L_wrong : Cd false P w K mg base "_law_wrong" 2 ["_law_sizes", "_law_draft"] (spD K mg false 2 D_L_wrong)) : ∀ n : Nat, Cd false P w K mg base "_law_can" (3 + n) ["_law_sizes", "_law_draft"] (spD K mg false 2 (D_L_can n))
 | 0 => by
    refine cd_of (k := 2) false (F := fun _ => fail) d sc_L_can fun f cdv A outer s H E hr hg => ⟨_, pss_never, fun ds hl => ?_⟩
    exact ss_never
 | n + 1 => by
  have c_L_can := okr_L_can T d c_L_wrong n
  refine cd_of (k := 3 + n) false (F := Fl_L_can (D_L_can n)) d sc_L_can fun f cdv A outer s H E hr hg => ⟨_, (pss_cons (ps_if (pt_cmpR (op_neK (K := K) rfl hr.units) (pe_cd c_L_wrong hr (fun z => nomatch z) pass_def (pa_cons (pv 0) (pa_cons (pv 1) pa_nil)) (hjk := by omega)) (pe_lst pa_nil) (nomark _)) (pss_one (ps_ret pe_bl)) pss_nil) (pss_cons (ps_setLc (i := 2) (own := [("_law_place", 4), ("_law_hue", 3)]) rfl sc_L_can.nd rfl rfl (sw_true rfl rfl rfl (by decide +kernel)) (pi_enumA (K := K) rfl (by exact rfl) T.b_enumerate (pa_cons (pv 1) pa_nil)) (blkOk_by (own := [("_law_place", 4), ("_law_hue", 3)]) (N := N_L_can) (sc := defScope st_L_can) (by decide +kernel)) (fun _ _ _ _ _ => (pg_tupK (n := 2) (K := K) rfl rfl (pgs_cons (pg_name (i := 4) sc_L_can.nd rfl (by first | exact .inl rfl | exact .inr rfl)) (pgs_cons (pg_name (i := 3) sc_L_can.nd rfl (by first | exact .inl rfl | exact .inr rfl)) pgs_nil)))) (fun _ _ _ _ _ => (pts_one (pt_cmpR (op_eqK (K := K) rfl hr.units) (pv 3) (pe_un un_neg pe_int) (nomark _)))) (fun _ _ _ _ _ => (pv 4))) (pss_cons (ps_if (pt_cmpR (op_eqK (K := K) rfl hr.units) (pv 2) (pe_lst pa_nil) (nomark _)) (pss_one (ps_ret pe_bl)) pss_nil) (pss_cons (ps_for (passes_of rfl) rfl (pi_range1 (by exact rfl) T.b_range (pa_cons (pe_callB (call_lenK (K := K) rfl) (by exact rfl) T.b_len bt_len (pa_cons (pv 0) pa_nil)) pa_nil)) (pg_name (i := 3) sc_L_can.nd rfl (by first | exact .inl rfl | exact .inr rfl)) (pss_one (ps_if (pt_val (pe_cd c_L_can hr (fun z => nomatch z) pass_def (pa_cons (pv 0) (pa_cons (pe_op (op_addK (K := K) rfl) (pe_op (op_addK (K := K) rfl) (pe_slice (sl_anyK (K := K) rfl) (pv 1) po_none (po_some (pe_ix (ix_anyK (K := K) rfl) (pv 2) pe_int (fun _ _ => rfl)))) (pe_tupB (pa_cons (pv 3) pa_nil))) (pe_slice (sl_anyK (K := K) rfl) (pv 1) (po_some (pe_op (op_addK (K := K) rfl) (pe_ix (ix_anyK (K := K) rfl) (pv 2) pe_int (fun _ _ => rfl)) pe_int)) po_none)) pa_nil)) (hjk := by omega))) (pss_one (ps_ret pe_bl)) pss_nil))) (pss_one (ps_ret pe_bl)))))), fun ds hl => ?_⟩
  match ds, hl with
  | [l_sizes, l_draft], _ =>
    show SS _ _ _ [.val (l_sizes), .val (l_draft), .no, .no, .no] (enc0 5) _ (B_L_can (D_L_can n) l_sizes l_draft)
    unfold B_L_can
    exact (ss_ifl (sb_test (se_op os_neA (se_g (sa_cons (se_var (k := 0) rfl) (sa_cons (se_var (k := 1) rfl) sa_nil)) rfl) (so_se (so_lst sa_nil (Nat.le_of_ble_eq_true rfl))))) (ss_ret se_bl) (ss_set (so_se (so_lc (si_enum (se_var (k := 1) rfl)) (sg_two (i := 4) (j := 3)) (by decide) (fun (p1 : D × D) => (sb_test (se_op os_eqA (se_var (k := 3) rfl) (se_un us_neg se_int)))) (fun (p1 : D × D) => (se_var (k := 4) rfl)))) (fun l_blank => (ss_ifl (sb_test (se_op os_eqA (se_var (k := 2) rfl) (so_se (so_lst sa_nil (Nat.le_of_ble_eq_true rfl))))) (ss_ret se_bl) (ss_seq (enc := fun (s2 : Unit) => [.val (l_sizes), .val (l_draft), .val (l_blank), .no, .no]) (ss_for (enc := fun (s2 : Unit) => [.val (l_sizes), .val (l_draft), .val (l_blank), .no, .no]) (s0 := ()) (si_rng1 (sa_cons (se_cb cs_len (sa_cons (se_var (k := 0) rfl) sa_nil)) sa_nil)) (.same (.same (.same (.no (.no .nil))))) (fun s2 => (sg_name (i := 3))) (fun s2 l_hue => (ss_if (sb_val (se_g (sa_cons (se_var (k := 0) rfl) (sa_cons (se_op os_add (se_op os_add (se_slice ss_cut (se_var (k := 1) rfl) sp_none (sp_some (se_op os_ix (se_var (k := 2) rfl) se_int))) (se_tup (sa_cons (se_var (k := 3) rfl) sa_nil) (Nat.le_of_ble_eq_true rfl))) (se_slice ss_cut (se_var (k := 1) rfl) (sp_some (se_op os_add (se_op os_ix (se_var (k := 2) rfl) se_int) se_int)) sp_none)) sa_nil)) rfl)) (ss_ret se_bl) (ss_next (.same (.same (.same (.no (.no .nil))))))))) (fun s2 => (ss_ret se_bl)))))))
theorem ok_L_can (T : Tx K mg) (d : Df K mg "_law_can" st_L_can ["_law_sizes", "_law_draft"]) (c_L_wrong : Cd false P w K mg base "_law_wrong" 2 ["_law_sizes", "_law_draft"] (spD K mg false 2 D_L_wrong)) : Cd false P w K mg base "_law_can" 43 ["_law_sizes", "_law_draft"] (spD K mg false 2 (D_L_can 40)) := okr_L_can T d c_L_wrong 40

abbrev st_is_row_paper : Stmt := topS 37
abbrev N_is_row_paper : List Str := ["sizes", "draft", "thing", "hue", "places", "place"]
theorem sc_is_row_paper : FnScope N_is_row_paper ["sizes", "draft", "thing"] (defScope st_is_row_paper) := ⟨rfl, rfl, rfl, by decide +kernel, rfl, by decide +kernel, by decide +kernel⟩
theorem ok_is_row_paper (T : Tx K mg) (d : Df K mg "is_row_paper" st_is_row_paper ["sizes", "draft", "thing"]) (c_is_between : Cd false P w K mg base "is_between" 2 ["thing", "least", "most"] (spD K mg false 3 D_is_between)) (c_row_places : Cd false P w K mg base "row_places" 1 ["row", "size"] (spD K mg false 2 D_row_places)) : Cd false P w K mg base "is_row_paper" 3 ["sizes", "draft", "thing"] (spD K mg false 3 D_is_row_paper) := by
  refine cd_of (k := 2) false (F := Fl_is_row_paper) d sc_is_row_paper fun f cdv A outer s H E hr hg => ⟨_, (pss_cons (ps_if (PW.pt (pw_or (pt_cmpR (op_neK (K := K) rfl hr.units) (pe_callB (call_lenK (K := K) rfl) (by exact rfl) T.b_len bt_len (pa_cons (pv 2) pa_nil)) pe_int (nomark _)) (pw_or (pt_not (pt_val (pe_cd c_is_between hr (fun z => nomatch z) pass_def (pa_cons (pe_ix (ix_anyK (K := K) rfl) (pv 2) pe_int (fun _ _ => rfl)) (pa_cons pe_int (pa_cons (pe_op op_sub (pe_callB (call_lenK (K := K) rfl) (by exact rfl) T.b_len bt_len (pa_cons (pv 1) pa_nil)) pe_int) pa_nil)))))) (pw_or1 (pt_not (pt_val (pe_cd c_is_between hr (fun z => nomatch z) pass_def (pa_cons (pe_ix (ix_anyK (K := K) rfl) (pv 2) pe_int (fun _ _ => rfl)) (pa_cons pe_int (pa_cons (pe_callB (call_lenK (K := K) rfl) (by exact rfl) T.b_len bt_len (pa_cons (pv 1) pa_nil)) pa_nil)))))))))) (pss_one (ps_ret pe_bl)) pss_nil) (pss_cons (ps_set (i := 3) sc_is_row_paper.nd rfl (by first | exact .inl rfl | exact .inr rfl) (pe_ix (ix_anyK (K := K) rfl) (pv 1) (pe_ix (ix_anyK (K := K) rfl) (pv 2) pe_int (fun _ _ => rfl)) (fun _ _ => rfl))) (pss_cons (ps_if (pt_cmpR op_lt (pv 3) pe_int (nomark _)) (pss_one (ps_ret pe_bl)) pss_nil) (pss_cons (ps_set (i := 4) sc_is_row_paper.nd rfl (by first | exact .inl rfl | exact .inr rfl) (pe_cd c_row_places hr (fun z => nomatch z) pass_def (pa_cons (pe_slice (sl_anyK (K := K) rfl) (pv 2) (po_some pe_int) po_none) (pa_cons (pe_ix (ix_anyK (K := K) rfl) (pv 0) (pv 3) (fun _ _ => rfl)) pa_nil)))) (pss_one (ps_ret (pe_and (pe_cmpR op_lt (pe_ix (ix_anyK (K := K) rfl) (pv 4) (pe_un un_neg pe_int) (fun _ _ => rfl)) (pe_callB (call_lenK (K := K) rfl) (by exact rfl) T.b_len bt_len (pa_cons (pv 1) pa_nil)) (nomark _)) (pe_one (pe_callB (call_allK (K := K) rfl rfl) (by exact rfl) T.b_all bt_all (pa_cons (pe_lc (own := [("place", 5)]) rfl sc_is_row_paper.nd (pi_seqK (K := K) rfl (pv 4)) (blkOk_by (own := [("place", 5)]) (N := N_is_row_paper) (sc := defScope st_is_row_paper) (by decide +kernel)) (fun _ _ _ _ _ => (pg_name (i := 5) sc_is_row_paper.nd rfl (by first | exact .inl rfl | exact .inr rfl))) (fun _ _ _ _ _ => pts_nil) (fun _ _ _ _ _ => (pe_cmpR (op_eqK (K := K) rfl hr.units) (pe_ix (ix_anyK (K := K) rfl) (pv 1) (pv 5) (fun _ _ => rfl)) (pv 3) (nomark _)))) pa_nil)))))))))), fun ds hl => ?_⟩
  match ds, hl with
  | [v_sizes, v_draft, v_thing], _ =>
    show SS _ _ _ [.val (v_sizes), .val (v_draft), .val (v_thing), .no, .no, .no] (enc0 6) _ (B_is_row_paper v_sizes v_draft v_thing)
    unfold B_is_row_paper
    exact (ss_ifl (sb_or (sb_test (se_op os_neA (se_cb cs_len (sa_cons (se_var (k := 2) rfl) sa_nil)) se_int)) (sb_or (sb_not (sb_val (se_g (sa_cons (se_op os_ix (se_var (k := 2) rfl) se_int) (sa_cons se_int (sa_cons (se_op os_sub (se_cb cs_len (sa_cons (se_var (k := 1) rfl) sa_nil)) se_int) sa_nil))) rfl))) (sb_not (sb_val (se_g (sa_cons (se_op os_ix (se_var (k := 2) rfl) se_int) (sa_cons se_int (sa_cons (se_cb cs_len (sa_cons (se_var (k := 1) rfl) sa_nil)) sa_nil))) rfl))))) (ss_ret se_bl) (ss_set (se_op os_ix (se_var (k := 1) rfl) (se_op os_ix (se_var (k := 2) rfl) se_int)) (fun v_hue => (ss_ifl (sb_test (se_op os_lt (se_var (k := 3) rfl) se_int)) (ss_ret se_bl) (ss_set (se_g (sa_cons (se_slice ss_cut (se_var (k := 2) rfl) (sp_some se_int) sp_none) (sa_cons (se_op os_ix (se_var (k := 0) rfl) (se_var (k := 3) rfl)) sa_nil)) rfl) (fun v_places => (ss_ret (se_and (se_op os_lt (se_op os_ix (se_var (k := 4) rfl) (se_un us_neg se_int)) (se_cb cs_len (sa_cons (se_var (k := 1) rfl) sa_nil))) (se_cb cs_all (sa_cons (so_se (so_lc (si_seq (se_var (k := 4) rfl)) (sg_name (i := 5)) (by decide) (fun (v_place : D) => sb_yes) (fun (v_place : D) => (se_op os_eqA (se_op os_ix (se_var (k := 1) rfl) (se_var (k := 5) rfl)) (se_var (k := 3) rfl))))) sa_nil))))))))))

abbrev st_is_blank : Stmt := topS 29
abbrev N_is_blank : List Str := ["draft", "place"]
theorem sc_is_blank : FnScope N_is_blank ["draft", "place"] (defScope st_is_blank) := ⟨rfl, rfl, rfl, by decide +kernel, rfl, by decide +kernel, by decide +kernel⟩
theorem ok_is_blank (T : Tx K mg) (d : Df K mg "is_blank" st_is_blank ["draft", "place"]) (c_is_between : Cd false P w K mg base "is_between" 2 ["thing", "least", "most"] (spD K mg false 3 D_is_between)) : Cd false P w K mg base "is_blank" 3 ["draft", "place"] (spD K mg false 2 D_is_blank) := by
  obtain ⟨t_BLANK, g_BLANK⟩ := T.c_BLANK
  refine cd_of (k := 2) false (F := Fl_is_blank) d sc_is_blank fun f cdv A outer s H E hr hg => ⟨_, (pss_one (ps_ret (pe_and (pe_cd c_is_between hr (fun z => nomatch z) pass_def (pa_cons (pv 1) (pa_cons pe_int (pa_cons (pe_op op_sub (pe_callB (call_lenK (K := K) rfl) (by exact rfl) T.b_len bt_len (pa_cons (pv 0) pa_nil)) pe_int) pa_nil)))) (pe_one (pe_cmpR (op_eqK (K := K) rfl hr.units) (pe_ix (ix_anyK (K := K) rfl) (pv 0) (pv 1) (fun _ _ => rfl)) (pe_glob (v := V.int (-1)) (by exact rfl) g_BLANK ⟨_, rfl⟩) (nomark _)))))), fun ds hl => ?_⟩
  match ds, hl with
  | [v_draft, v_place], _ =>
    show SS _ _ _ [.val (v_draft), .val (v_place)] (enc0 2) _ (B_is_blank v_draft v_place)
    unfold B_is_blank
    exact (ss_ret (se_and (se_g (sa_cons (se_var (k := 1) rfl) (sa_cons se_int (sa_cons (se_op os_sub (se_cb cs_len (sa_cons (se_var (k := 0) rfl) sa_nil)) se_int) sa_nil))) rfl) (se_op os_eqA (se_op os_ix (se_var (k := 0) rfl) (se_var (k := 1) rfl)) (se_int (i := (-1))))))

abbrev st_good_paper : Stmt := topS 38
abbrev N_good_paper : List Str := ["sizes", "draft", "thing", "hue", "paper"]
theorem sc_good_paper : FnScope N_good_paper ["sizes", "draft", "thing"] (defScope st_good_paper) := ⟨rfl, rfl, rfl, by decide +kernel, rfl, by decide +kernel, by decide +kernel⟩
theorem okr_good_paper (T : Tx K mg) (d : Df K mg "good_paper" st_good_paper ["sizes", "draft", "thing"]) (c_is_row_paper : Cd false P w K mg base "is_row_paper" 3 ["sizes", "draft", "thing"] (spD K mg false 3 D_is_row_paper)) (c_is_blank : Cd false P w K mg base "is_blank" 3 ["draft", "place"] (spD K mg false 2 D_is_blank)) (c_with_hue : Cd false P w K mg base "with_hue" 1 ["draft", "place", "hue"] (spD K mg false 3 D_with_hue)) : ∀ n : Nat, Cd false P w K mg base "good_paper" (4 + n) ["sizes", "draft", "thing"] (spD K mg false 3 (D_good_paper n))
 | 0 => by
    refine cd_of (k := 3) false (F := fun _ => fail) d sc_good_paper fun f cdv A outer s H E hr hg => ⟨_, pss_never, fun ds hl => ?_⟩
    exact ss_never
 | n + 1 => by
  have c_good_paper := okr_good_paper T d c_is_row_paper c_is_blank c_with_hue n
  refine cd_of (k := 4 + n) false (F := Fl_good_paper (D_good_paper n)) d sc_good_paper fun f cdv A outer s H E hr hg => ⟨_, (pss_cons (ps_if (PW.pt (pw_or (pt_not (pt_val (pe_callB (call_isiK (K := K) rfl) (by exact rfl) T.b_isinstance bt_isinstance (pa_cons (pv 2) (pa_cons (pe_bltn (v := V.ty "tuple") (by exact rfl) T.b_tuple bt_tuple rfl) pa_nil))))) (pw_or (pt_cmpR (op_neK (K := K) rfl hr.units) (pe_callB (call_lenK (K := K) rfl) (by exact rfl) T.b_len bt_len (pa_cons (pv 2) pa_nil)) pe_int (nomark _)) (pw_or1 (pt_not (pt_val (pe_callB (call_isiK (K := K) rfl) (by exact rfl) T.b_isinstance bt_isinstance (pa_cons (pe_ix (ix_anyK (K := K) rfl) (pv 2) pe_int (fun _ _ => rfl)) (pa_cons (pe_bltn (v := V.ty "str") (by exact rfl) T.b_str bt_str rfl) pa_nil))))))))) (pss_one (ps_ret pe_bl)) pss_nil) (pss_cons (ps_if (pt_cmpR (op_eqK (K := K) rfl hr.units) (pe_ix (ix_anyK (K := K) rfl) (pv 2) pe_int (fun _ _ => rfl)) pe_str (nomark _)) (pss_one (ps_ret (pe_cd c_is_row_paper hr (fun z => nomatch z) pass_def (pa_cons (pv 0) (pa_cons (pv 1) (pa_cons (pv 2) pa_nil))) (hjk := by omega)))) pss_nil) (pss_cons (ps_if (PW.pt (pw_or (pt_cmpR (op_neK (K := K) rfl hr.units) (pe_ix (ix_anyK (K := K) rfl) (pv 2) pe_int (fun _ _ => rfl)) pe_str (nomark _)) (pw_or1 (pt_not (pt_val (pe_cd c_is_blank hr (fun z => nomatch z) pass_def (pa_cons (pv 1) (pa_cons (pe_ix (ix_anyK (K := K) rfl) (pv 2) pe_int (fun _ _ => rfl)) pa_nil)) (hjk := by omega))))))) (pss_one (ps_ret pe_bl)) pss_nil) (pss_cons (ps_if (PW.pt (pw_or (pt_not (pt_val (pe_callB (call_isiK (K := K) rfl) (by exact rfl) T.b_isinstance bt_isinstance (pa_cons (pe_ix (ix_anyK (K := K) rfl) (pv 2) pe_int (fun _ _ => rfl)) (pa_cons (pe_bltn (v := V.ty "tuple") (by exact rfl) T.b_tuple bt_tuple rfl) pa_nil))))) (pw_or1 (pt_cmpR (op_neK (K := K) rfl hr.units) (pe_callB (call_lenK (K := K) rfl) (by exact rfl) T.b_len bt_len (pa_cons (pe_ix (ix_anyK (K := K) rfl) (pv 2) pe_int (fun _ _ => rfl)) pa_nil)) (pe_callB (call_lenK (K := K) rfl) (by exact rfl) T.b_len bt_len (pa_cons (pv 0) pa_nil)) (nomark _))))) (pss_one (ps_ret pe_bl)) pss_nil) (pss_cons (ps_for (passes_of rfl) rfl (pi_enumA (K := K) rfl (by exact rfl) T.b_enumerate (pa_cons (pe_ix (ix_anyK (K := K) rfl) (pv 2) pe_int (fun _ _ => rfl)) pa_nil)) (pg_tupK (n := 2) (K := K) rfl rfl (pgs_cons (pg_name (i := 3) sc_good_paper.nd rfl (by first | exact .inl rfl | exact .inr rfl)) (pgs_cons (pg_name (i := 4) sc_good_paper.nd rfl (by first | exact .inl rfl | exact .inr rfl)) pgs_nil))) (pss_one (ps_if (pt_not (pt_val (pe_cd c_good_paper hr (fun z => nomatch z) pass_def (pa_cons (pv 0) (pa_cons (pe_cd c_with_hue hr (fun z => nomatch z) pass_def (pa_cons (pv 1) (pa_cons (pe_ix (ix_anyK (K := K) rfl) (pv 2) pe_int (fun _ _ => rfl)) (pa_cons (pv 3) pa_nil))) (hjk := by omega)) (pa_cons (pv 4) pa_nil))) (hjk := by omega)))) (pss_one (ps_ret pe_bl)) pss_nil))) (pss_one (ps_ret pe_bl))))))), fun ds hl => ?_⟩
  match ds, hl with
  | [v_sizes, v_draft, v_thing], _ =>
    show SS _ _ _ [.val (v_sizes), .val (v_draft), .val (v_thing), .no, .no] (enc0 5) _ (B_good_paper (D_good_paper n) v_sizes v_draft v_thing)
    unfold B_good_paper
    exact (ss_ifl (sb_or (sb_not (sb_val (se_isa .tuple (se_var (k := 2) rfl)))) (sb_or (sb_test (se_op os_neA (se_cb cs_len (sa_cons (se_var (k := 2) rfl) sa_nil)) se_int)) (sb_not (sb_val (se_isa .str (se_op os_ix (se_var (k := 2) rfl) se_int)))))) (ss_ret se_bl) (ss_ifl (sb_test (se_op os_eqA (se_op os_ix (se_var (k := 2) rfl) se_int) se_str)) (ss_ret (se_g (sa_cons (se_var (k := 0) rfl) (sa_cons (se_var (k := 1) rfl) (sa_cons (se_var (k := 2) rfl) sa_nil))) rfl)) (ss_ifl (sb_or (sb_test (se_op os_neA (se_op os_ix (se_var (k := 2) rfl) se_int) se_str)) (sb_not (sb_val (se_g (sa_cons (se_var (k := 1) rfl) (sa_cons (se_op os_ix (se_var (k := 2) rfl) se_int) sa_nil)) rfl)))) (ss_ret se_bl) (ss_ifl (sb_or (sb_not (sb_val (se_isa .tuple (se_op os_ix (se_var (k := 2) rfl) se_int)))) (sb_test (se_op os_neA (se_cb cs_len (sa_cons (se_op os_ix (se_var (k := 2) rfl) se_int) sa_nil)) (se_cb cs_len (sa_cons (se_var (k := 0) rfl) sa_nil))))) (ss_ret se_bl) (ss_seq (enc := fun (s1 : Unit) => [.val (v_sizes), .val (v_draft), .val (v_thing), .no, .no]) (ss_for (enc := fun (s1 : Unit) => [.val (v_sizes), .val (v_draft), .val (v_thing), .no, .no]) (s0 := ()) (si_enum (se_op os_ix (se_var (k := 2) rfl) se_int)) (.same (.same (.same (.no (.no .nil))))) (fun s1 => (sg_two (i := 3) (j := 4))) (fun s1 p2 => (ss_if (sb_not (sb_val (se_g (sa_cons (se_var (k := 0) rfl) (sa_cons (se_g (sa_cons (se_var (k := 1) rfl) (sa_cons (se_op os_ix (se_var (k := 2) rfl) se_int) (sa_cons (se_var (k := 3) rfl) sa_nil))) rfl) (sa_cons (se_var (k := 4) rfl) sa_nil))) rfl))) (ss_ret se_bl) (ss_next (.same (.same (.same (.no (.no .nil))))))))) (fun s1 => (ss_ret se_bl)))))))
theorem ok_good_paper (T : Tx K mg) (d : Df K mg "good_paper" st_good_paper ["sizes", "draft", "thing"]) (c_is_row_paper : Cd false P w K mg base "is_row_paper" 3 ["sizes", "draft", "thing"] (spD K mg false 3 D_is_row_paper)) (c_is_blank : Cd false P w K mg base "is_blank" 3 ["draft", "place"] (spD K mg false 2 D_is_blank)) (c_with_hue : Cd false P w K mg base "with_hue" 1 ["draft", "place", "hue"] (spD K mg false 3 D_with_hue)) : Cd false P w K mg base "good_paper" 44 ["sizes", "draft", "thing"] (spD K mg false 3 (D_good_paper 40)) := okr_good_paper T d c_is_row_paper c_is_blank c_with_hue 40

abbrev st_is_paper : Stmt := topS 39
abbrev N_is_paper : List Str := ["sizes", "draft", "thing"]
theorem sc_is_paper : FnScope N_is_paper ["sizes", "draft", "thing"] (defScope st_is_paper) := ⟨rfl, rfl, rfl, by decide +kernel, rfl, by decide +kernel, by decide +kernel⟩
theorem ok_is_paper (T : Tx K mg) (d : Df K mg "is_paper" st_is_paper ["sizes", "draft", "thing"]) (c_need_draft : Cd false P w K mg base "need_draft" 5 ["sizes", "draft"] (spD K mg false 2 D_need_draft)) (c_good_paper : Cd false P w K mg base "good_paper" 44 ["sizes", "draft", "thing"] (spD K mg false 3 (D_good_paper 40))) : Cd false P w K mg base "is_paper" 45 ["sizes", "draft", "thing"] (spD K mg false 3 D_is_paper) := by
  refine cd_of (k := 44) false (F := Fl_is_paper) d sc_is_paper fun f cdv A outer s H E hr hg => ⟨_, (pss_cons (ps_expr (pe_cd c_need_draft hr (fun z => nomatch z) pass_def (pa_cons (pv 0) (pa_cons (pv 1) pa_nil)))) (pss_one (ps_ret (pe_cd c_good_paper hr (fun z => nomatch z) pass_def (pa_cons (pv 0) (pa_cons (pv 1) (pa_cons (pv 2) pa_nil))))))), fun ds hl => ?_⟩
  match ds, hl with
  | [v_sizes, v_draft, v_thing], _ =>
    show SS _ _ _ [.val (v_sizes), .val (v_draft), .val (v_thing)] (enc0 3) _ (B_is_paper v_sizes v_draft v_thing)
    unfold B_is_paper
    exact (ss_expr (se_g (sa_cons (se_var (k := 0) rfl) (sa_cons (se_var (k := 1) rfl) sa_nil)) rfl) (ss_ret (se_g (sa_cons (se_var (k := 0) rfl) (sa_cons (se_var (k := 1) rfl) (sa_cons (se_var (k := 2) rfl) sa_nil))) rfl)))

abbrev st_law : Stmt := topS 57
abbrev N_law : List Str := ["_law_script", "_law_k", "_law_pen_here", "_law_sizes", "_law_draft", "_law_some", "_law_can_here", "_law_turn", "_law_found"]
theorem sc_law : FnScope N_law ["_law_script"] (defScope st_law) := ⟨rfl, rfl, rfl, by decide +kernel, rfl, by decide +kernel, by decide +kernel⟩
theorem ok_law {f : Addr} {fd : FuncData} (T : Tx K mg) (d : L2.Fun K "law" "law" st_law f fd) (c_L_pen : Cd false P w K mg base "_law_pen" 1 ["_law_cell"] (spD K mg true 1 D_L_pen)) (c_L_cell_at : Cd false P w K mg base "_law_cell_at" 1 ["_law_script", "_law_k"] (spD K mg false 2 D_L_cell_at)) (c_L_few : Cd false P w K mg base "_law_few" 2 ["_law_pen_here"] (spD K mg false 1 D_L_few)) (c_L_knot : Cd false P w K mg base "_law_knot" 2 ["_law_pen_here", "_law_sizes", "_law_limit", "_law_spare"] (spD K mg false 4 D_L_knot)) (c_L_can : Cd false P w K mg base "_law_can" 43 ["_law_sizes", "_law_draft"] (spD K mg false 2 (D_L_can 40))) (c_paper_for : Cd false P w K mg base "paper_for" 48 ["sizes", "draft"] (spD K mg false 2 D_paper_for)) (c_L_shows : Cd false P w K mg base "_law_shows" 42 ["_law_sizes", "_law_draft", "_law_thing"] (spD K mg false 3 (D_L_shows 40))) (c_is_paper : Cd false P w K mg base "is_paper" 45 ["sizes", "draft", "thing"] (spD K mg false 3 D_is_paper)) : GOk P w K mg base false 49 f fd ["_law_script"] (spD K mg false 1 D_law) := by
  refine g_of (k := 48) false (F := Fl_law) d sc_law fun cdv A outer s H E hcd hr hg => ⟨_, (pss_cons (ps_for (passes_of rfl) rfl (pi_range1 (by exact rfl) T.b_range (pa_cons (pe_callB (call_max2 rfl) (by exact rfl) T.b_max bt_max (pa_cons pe_int (pa_cons (pe_callB (call_min2 rfl) (by exact rfl) T.b_min bt_min (pa_cons (pe_callB (call_lenK (K := K) rfl) (by exact rfl) T.b_len bt_len (pa_cons (pv 0) pa_nil)) (pa_cons pe_int pa_nil))) pa_nil))) pa_nil)) (pg_name (i := 1) sc_law.nd rfl (by first | exact .inl rfl | exact .inr rfl)) (pss_cons (ps_set (i := 2) sc_law.nd rfl (by first | exact .inl rfl | exact .inr rfl) (pe_cd c_L_pen hr (fun z => nomatch z) pass_def (pa_cons (pe_cd c_L_cell_at hr (fun z => nomatch z) pass_def (pa_cons (pv 0) (pa_cons (pv 1) pa_nil))) pa_nil))) (pss_cons (ps_set (i := 3) sc_law.nd rfl (by first | exact .inl rfl | exact .inr rfl) (pe_cd c_L_few hr (fun z => nomatch z) pass_def (pa_cons (pv 2) pa_nil))) (pss_cons (ps_set (i := 4) sc_law.nd rfl (by first | exact .inl rfl | exact .inr rfl) (pe_cd c_L_knot hr (fun z => nomatch z) pass_def (pa_cons (pv 2) (pa_cons (pv 3) (pa_cons pe_int (pa_cons (pe_ix (ix_anyK (K := K) rfl) (pe_lst (pa_cons pe_int (pa_cons pe_int (pa_cons (pe_op op_sub pe_int (pe_callTy call_int1 (by exact rfl) T.b_int bt_int (pa_cons (pe_cmpR op_gt (pv 1) pe_int (nomark _)) pa_nil))) (pa_cons pe_int pa_nil))))) (pe_callB (call_lenK (K := K) rfl) (by exact rfl) T.b_len bt_len (pa_cons (pv 3) pa_nil)) (fun _ _ => rfl)) pa_nil)))))) (pss_cons (ps_for (passes_of rfl) rfl (pi_seqK (K := K) rfl (pe_tupB (pa_cons (pv 4) (pa_cons (pe_sliceS (K := K) rfl (pv 4) po_none po_none (po_some (pe_un un_neg pe_int))) (pa_cons (pe_op (op_addK (K := K) rfl) (pe_slice (sl_anyK (K := K) rfl) (pv 4) po_none (po_some pe_int)) (pe_tupB (pa_cons pe_int pa_nil))) (pa_cons (pe_op (op_addK (K := K) rfl) (pe_tupB (pa_cons pe_int pa_nil)) (pv 4)) pa_nil)))))) (pg_name (i := 5) sc_law.nd rfl (by first | exact .inl rfl | exact .inr rfl)) (pss_cons (ps_set (i := 6) sc_law.nd rfl (by first | exact .inl rfl | exact .inr rfl) (pe_cd c_L_can hr (fun z => nomatch z) pass_def (pa_cons (pv 3) (pa_cons (pv 5) pa_nil)))) (pss_cons (ps_for (passes_of rfl) rfl (pi_range1 (by exact rfl) T.b_range (pa_cons pe_int pa_nil)) (pg_name (i := 7) sc_law.nd rfl (by first | exact .inl rfl | exact .inr rfl)) (pss_cons (ps_set (i := 8) sc_law.nd rfl (by first | exact .inl rfl | exact .inr rfl) (pe_cd c_paper_for hr (fun z => nomatch z) pass_def (pa_cons (pv 3) (pa_cons (pv 5) pa_nil)))) (pss_cons (ps_if (pt_cmpR (op_neK (K := K) rfl hr.units) (pe_cmpR op_isN (pv 8) pe_non (nomark _)) (pv 6) (nomark _)) (pss_one (ps_ret pe_bl)) pss_nil) (pss_cons (ps_if (PW.pt (pw_and (pt_cmpR op_notN (pv 8) pe_non (nomark _)) (pw_and1 (pt_not (pt_val (pe_cd c_L_shows hr (fun z => nomatch z) pass_def (pa_cons (pv 3) (pa_cons (pv 5) (pa_cons (pv 8) pa_nil))))))))) (pss_one (ps_ret pe_bl)) pss_nil) (pss_one (ps_if (PW.pt (pw_and (pt_cmpR op_notN (pv 8) pe_non (nomark _)) (pw_and1 (pt_not (pt_val (pe_cd c_is_paper hr (fun z => nomatch z) pass_def (pa_cons (pv 3) (pa_cons (pv 5) (pa_cons (pv 8) pa_nil))))))))) (pss_one (ps_ret pe_bl)) pss_nil)))))) pss_nil))) pss_nil))))) (pss_cons (ps_for (passes_of rfl) rfl (pi_seqK (K := K) rfl (pe_lst (pa_cons (pe_tupB (pa_cons (pe_tupB (pa_cons pe_int (pa_cons pe_int (pa_cons pe_int pa_nil)))) (pa_cons (pe_tupB (pa_cons pe_int (pa_cons (pe_un un_neg pe_int) (pa_cons (pe_un un_neg pe_int) (pa_cons (pe_un un_neg pe_int) pa_nil))))) pa_nil))) (pa_cons (pe_tupB (pa_cons (pe_tupB (pa_cons pe_int pa_nil)) (pa_cons (pe_tupB (pa_cons pe_int (pa_cons pe_int pa_nil))) pa_nil))) (pa_cons (pe_tupB (pa_cons (pe_tupB (pa_cons pe_int (pa_cons pe_int pa_nil))) (pa_cons (pe_tupB (pa_cons pe_int (pa_cons (pe_un un_neg pe_int) (pa_cons (pe_un un_neg pe_int) (pa_cons (pe_un un_neg pe_int) pa_nil))))) pa_nil))) pa_nil))))) (pg_tupK (n := 2) (K := K) rfl rfl (pgs_cons (pg_name (i := 3) sc_law.nd rfl (by first | exact .inl rfl | exact .inr rfl)) (pgs_cons (pg_name (i := 5) sc_law.nd rfl (by first | exact .inl rfl | exact .inr rfl)) pgs_nil))) (pss_one (ps_if (pt_not (pt_val (pe_cd c_L_shows hr (fun z => nomatch z) pass_def (pa_cons (pv 3) (pa_cons (pv 5) (pa_cons (pe_cd c_paper_for hr (fun z => nomatch z) pass_def (pa_cons (pv 3) (pa_cons (pv 5) pa_nil))) pa_nil)))))) (pss_one (ps_ret pe_bl)) pss_nil))) (pss_cons (ps_set (i := 8) sc_law.nd rfl (by first | exact .inl rfl | exact .inr rfl) (pe_cd c_paper_for hr (fun z => nomatch z) pass_def (pa_cons (pe_tupB (pa_cons pe_int (pa_cons pe_int pa_nil))) (pa_cons (pe_op (op_mulB (K := K) rfl) (pe_tupB (pa_cons (pe_un un_neg pe_int) pa_nil)) pe_int) pa_nil)))) (pss_one (ps_ret (pe_and (pe_cd c_L_shows hr (fun z => nomatch z) pass_def (pa_cons (pe_tupB (pa_cons pe_int (pa_cons pe_int pa_nil))) (pa_cons (pe_op (op_mulB (K := K) rfl) (pe_tupB (pa_cons (pe_un un_neg pe_int) pa_nil)) pe_int) (pa_cons (pv 8) pa_nil)))) (pe_one (pe_cmpR op_isN (pe_cd c_paper_for hr (fun z => nomatch z) pass_def (pa_cons (pe_tupB (pa_cons pe_int (pa_cons pe_int pa_nil))) (pa_cons (pe_op (op_mulB (K := K) rfl) (pe_tupB (pa_cons (pe_un un_neg pe_int) pa_nil)) pe_int) pa_nil))) pe_non (nomark _))))))))), fun ds hl => ?_⟩
  match ds, hl with
  | [l_script], _ =>
    show SS _ _ _ [.val (l_script), .no, .no, .no, .no, .no, .no, .no, .no] (enc0 9) _ (B_law l_script)
    unfold B_law
    exact (ss_seq (enc := fun (s1 : Unit) => [.val (l_script), .no, .no, .no, .no, .no, .no, .no, .no]) (ss_for (enc := fun (s1 : Unit) => [.val (l_script), .no, .no, .no, .no, .no, .no, .no, .no]) (s0 := ()) (si_rng1 (sa_cons (se_cb cs_max2 (sa_cons se_int (sa_cons (se_cb cs_min2 (sa_cons (se_cb cs_len (sa_cons (se_var (k := 0) rfl) sa_nil)) (sa_cons se_int sa_nil))) sa_nil))) sa_nil)) (.same (.no (.no (.no (.no (.no (.no (.no (.no .nil))))))))) (fun s1 => (sg_name (i := 1))) (fun s1 l_k => (ss_seto (so_g (sa_cons (se_g (sa_cons (se_var (k := 0) rfl) (sa_cons (se_var (k := 1) rfl) sa_nil)) rfl) sa_nil) rfl) (fun l_pen_here => ss_pen false (i := 2) rfl (ss_set (se_g (sa_cons (se_var (k := 2) rfl) sa_nil) rfl) (fun l_sizes => (ss_set (se_g (sa_cons (se_var (k := 2) rfl) (sa_cons (se_var (k := 3) rfl) (sa_cons se_int (sa_cons (se_op os_ix (so_se (so_lst (sa_cons se_int (sa_cons se_int (sa_cons (se_op os_sub se_int (se_cb cs_int (sa_cons (se_op os_gt (se_var (k := 1) rfl) se_int) sa_nil))) (sa_cons se_int sa_nil)))) (Nat.le_of_ble_eq_true rfl))) (se_cb cs_len (sa_cons (se_var (k := 3) rfl) sa_nil))) sa_nil)))) rfl) (fun l_draft => (ss_seq (enc := fun (s2 : Unit) => [.val (l_script), .no, .no, .val (l_sizes), .no, .no, .no, .no, .no]) (ss_for (enc := fun (s2 : Unit) => [.val (l_script), .no, .no, .val (l_sizes), .no, .no, .no, .no, .no]) (s0 := ()) (si_seq (se_tup (sa_cons (se_var (k := 4) rfl) (sa_cons (se_sliceS (se_var (k := 4) rfl) sp_none sp_none (sp_some (se_un us_neg se_int))) (sa_cons (se_op os_add (se_slice ss_cut (se_var (k := 4) rfl) sp_none (sp_some se_int)) (se_tup (sa_cons se_int sa_nil) (Nat.le_of_ble_eq_true rfl))) (sa_cons (se_op os_add (se_tup (sa_cons se_int sa_nil) (Nat.le_of_ble_eq_true rfl)) (se_var (k := 4) rfl)) sa_nil)))) (Nat.le_of_ble_eq_true rfl))) (.same (.no (.no (.same (.no (.no (.no (.no (.no .nil))))))))) (fun s2 => (sg_name (i := 5))) (fun s2 l_some => (ss_set (se_g (sa_cons (se_var (k := 3) rfl) (sa_cons (se_var (k := 5) rfl) sa_nil)) rfl) (fun l_can_here => (ss_seq (enc := fun (s3 : Unit) => [.val (l_script), .no, .no, .val (l_sizes), .no, .val (l_some), .val (l_can_here), .no, .no]) (ss_for (enc := fun (s3 : Unit) => [.val (l_script), .no, .no, .val (l_sizes), .no, .val (l_some), .val (l_can_here), .no, .no]) (s0 := ()) (si_rng1 (sa_cons se_int sa_nil)) (.same (.no (.no (.same (.no (.same (.same (.no (.no .nil))))))))) (fun s3 => (sg_name (i := 7))) (fun s3 l_turn => (ss_set (se_g (sa_cons (se_var (k := 3) rfl) (sa_cons (se_var (k := 5) rfl) sa_nil)) rfl) (fun l_found => (ss_ifl (sb_test (se_op os_neA (se_op os_isN (se_var (k := 8) rfl) se_non) (se_var (k := 6) rfl))) (ss_ret se_bl) (ss_ifl (sb_and (sb_test (se_op os_notN (se_var (k := 8) rfl) se_non)) (sb_not (sb_val (se_g (sa_cons (se_var (k := 3) rfl) (sa_cons (se_var (k := 5) rfl) (sa_cons (se_var (k := 8) rfl) sa_nil))) rfl)))) (ss_ret se_bl) (ss_if (sb_and (sb_test (se_op os_notN (se_var (k := 8) rfl) se_non)) (sb_not (sb_val (se_g (sa_cons (se_var (k := 3) rfl) (sa_cons (se_var (k := 5) rfl) (sa_cons (se_var (k := 8) rfl) sa_nil))) rfl)))) (ss_ret se_bl) (ss_next (.same (.no (.no (.same (.no (.same (.same (.no (.no .nil))))))))))))))))) (fun s3 => (ss_next (.same (.no (.no (.same (.no (.no (.no (.no (.no .nil)))))))))))))))) (fun s2 => (ss_next (.same (.no (.no (.no (.no (.no (.no (.no (.no .nil)))))))))))))))))))) (fun s1 => (ss_seq (enc := fun (s4 : Unit) => [.no, .no, .no, .no, .no, .no, .no, .no, .no]) (ss_for (enc := fun (s4 : Unit) => [.no, .no, .no, .no, .no, .no, .no, .no, .no]) (s0 := ()) (si_seq (so_se (so_lst (sa_cons (se_tup (sa_cons (se_tup (sa_cons se_int (sa_cons se_int (sa_cons se_int sa_nil))) (Nat.le_of_ble_eq_true rfl)) (sa_cons (se_tup (sa_cons se_int (sa_cons (se_un us_neg se_int) (sa_cons (se_un us_neg se_int) (sa_cons (se_un us_neg se_int) sa_nil)))) (Nat.le_of_ble_eq_true rfl)) sa_nil)) (Nat.le_of_ble_eq_true rfl)) (sa_cons (se_tup (sa_cons (se_tup (sa_cons se_int sa_nil) (Nat.le_of_ble_eq_true rfl)) (sa_cons (se_tup (sa_cons se_int (sa_cons se_int sa_nil)) (Nat.le_of_ble_eq_true rfl)) sa_nil)) (Nat.le_of_ble_eq_true rfl)) (sa_cons (se_tup (sa_cons (se_tup (sa_cons se_int (sa_cons se_int sa_nil)) (Nat.le_of_ble_eq_true rfl)) (sa_cons (se_tup (sa_cons se_int (sa_cons (se_un us_neg se_int) (sa_cons (se_un us_neg se_int) (sa_cons (se_un us_neg se_int) sa_nil)))) (Nat.le_of_ble_eq_true rfl)) sa_nil)) (Nat.le_of_ble_eq_true rfl)) sa_nil))) (Nat.le_of_ble_eq_true rfl)))) (.no (.no (.no (.no (.no (.no (.no (.no (.no .nil))))))))) (fun s4 => (sg_two (i := 3) (j := 5))) (fun s4 p5 => (ss_if (sb_not (sb_val (se_g (sa_cons (se_var (k := 3) rfl) (sa_cons (se_var (k := 5) rfl) (sa_cons (se_g (sa_cons (se_var (k := 3) rfl) (sa_cons (se_var (k := 5) rfl) sa_nil)) rfl) sa_nil))) rfl))) (ss_ret se_bl) (ss_next (.no (.no (.no (.no (.no (.no (.no (.no (.no .nil))))))))))))) (fun s4 => (ss_set (se_g (sa_cons (se_tup (sa_cons se_int (sa_cons se_int sa_nil)) (Nat.le_of_ble_eq_true rfl)) (sa_cons (se_op os_mulB (se_tup (sa_cons (se_un us_neg se_int) sa_nil) (Nat.le_of_ble_eq_true rfl)) se_int) sa_nil)) rfl) (fun l_found => (ss_ret (se_and (se_g (sa_cons (se_tup (sa_cons se_int (sa_cons se_int sa_nil)) (Nat.le_of_ble_eq_true rfl)) (sa_cons (se_op os_mulB (se_tup (sa_cons (se_un us_neg se_int) sa_nil) (Nat.le_of_ble_eq_true rfl)) se_int) (sa_cons (se_var (k := 8) rfl) sa_nil))) rfl) (se_op os_isN (se_g (sa_cons (se_tup (sa_cons se_int (sa_cons se_int sa_nil)) (Nat.le_of_ble_eq_true rfl)) (sa_cons (se_op os_mulB (se_tup (sa_cons (se_un us_neg se_int) sa_nil) (Nat.le_of_ble_eq_true rfl)) se_int) sa_nil)) rfl) se_non)))))))))

end
theorem all_mk {l : PySem.W.OpenLaw} {w : World} {K : PySem.W.Frag} {h : Heap} {mg : Str → Option Value} {fa : Addr} (X : K.In h) (G : h.Ns mainGlobals mg) (hfa : mg "law" = some (.ref fa))
    {f_is_whole : Addr} {od_is_whole an_is_whole : Option Addr} {sl_is_whole : Array (Option Value)} {oc_is_whole kV_is_whole dc_is_whole pm_is_whole cd_is_whole ct_is_whole : Value}
    (a_is_whole : PySem.W.nsIn K mainGlobals "is_whole" = some (some (.ref f_is_whole))) (l_is_whole : K.lookup f_is_whole = some ⟨oc_is_whole, od_is_whole, .func (PySem.W.fnOf "is_whole" "is_whole" (defArgs st_is_whole) (defBody st_is_whole) (defScope st_is_whole) .none kV_is_whole dc_is_whole pm_is_whole an_is_whole cd_is_whole ct_is_whole), sl_is_whole⟩) (e_is_whole : PySem.W.codeIn K cd_is_whole "is_whole" = true) (k_is_whole : PySem.W.keepIn K (.ref f_is_whole) = true)
    {f_is_between : Addr} {od_is_between an_is_between : Option Addr} {sl_is_between : Array (Option Value)} {oc_is_between kV_is_between dc_is_between pm_is_between cd_is_between ct_is_between : Value}
    (a_is_between : PySem.W.nsIn K mainGlobals "is_between" = some (some (.ref f_is_between))) (l_is_between : K.lookup f_is_between = some ⟨oc_is_between, od_is_between, .func (PySem.W.fnOf "is_between" "is_between" (defArgs st_is_between) (defBody st_is_between) (defScope st_is_between) .none kV_is_between dc_is_between pm_is_between an_is_between cd_is_between ct_is_between), sl_is_between⟩) (e_is_between : PySem.W.codeIn K cd_is_between "is_between" = true) (k_is_between : PySem.W.keepIn K (.ref f_is_between) = true)
    {f_are_sizes : Addr} {od_are_sizes an_are_sizes : Option Addr} {sl_are_sizes : Array (Option Value)} {oc_are_sizes kV_are_sizes dc_are_sizes pm_are_sizes cd_are_sizes ct_are_sizes : Value}
    (a_are_sizes : PySem.W.nsIn K mainGlobals "are_sizes" = some (some (.ref f_are_sizes))) (l_are_sizes : K.lookup f_are_sizes = some ⟨oc_are_sizes, od_are_sizes, .func (PySem.W.fnOf "are_sizes" "are_sizes" (defArgs st_are_sizes) (defBody st_are_sizes) (defScope st_are_sizes) .none kV_are_sizes dc_are_sizes pm_are_sizes an_are_sizes cd_are_sizes ct_are_sizes), sl_are_sizes⟩) (e_are_sizes : PySem.W.codeIn K cd_are_sizes "are_sizes" = true) (k_are_sizes : PySem.W.keepIn K (.ref f_are_sizes) = true)
    {f_need_sizes : Addr} {od_need_sizes an_need_sizes : Option Addr} {sl_need_sizes : Array (Option Value)} {oc_need_sizes kV_need_sizes dc_need_sizes pm_need_sizes cd_need_sizes ct_need_sizes : Value}
    (a_need_sizes : PySem.W.nsIn K mainGlobals "need_sizes" = some (some (.ref f_need_sizes))) (l_need_sizes : K.lookup f_need_sizes = some ⟨oc_need_sizes, od_need_sizes, .func (PySem.W.fnOf "need_sizes" "need_sizes" (defArgs st_need_sizes) (defBody st_need_sizes) (defScope st_need_sizes) .none kV_need_sizes dc_need_sizes pm_need_sizes an_need_sizes cd_need_sizes ct_need_sizes), sl_need_sizes⟩) (e_need_sizes : PySem.W.codeIn K cd_need_sizes "need_sizes" = true) (k_need_sizes : PySem.W.keepIn K (.ref f_need_sizes) = true)
    {f_good_draft : Addr} {od_good_draft an_good_draft : Option Addr} {sl_good_draft : Array (Option Value)} {oc_good_draft kV_good_draft dc_good_draft pm_good_draft cd_good_draft ct_good_draft : Value}
    (a_good_draft : PySem.W.nsIn K mainGlobals "good_draft" = some (some (.ref f_good_draft))) (l_good_draft : K.lookup f_good_draft = some ⟨oc_good_draft, od_good_draft, .func (PySem.W.fnOf "good_draft" "good_draft" (defArgs st_good_draft) (defBody st_good_draft) (defScope st_good_draft) .none kV_good_draft dc_good_draft pm_good_draft an_good_draft cd_good_draft ct_good_draft), sl_good_draft⟩) (e_good_draft : PySem.W.codeIn K cd_good_draft "good_draft" = true) (k_good_draft : PySem.W.keepIn K (.ref f_good_draft) = true)
    {f_need_draft : Addr} {od_need_draft an_need_draft : Option Addr} {sl_need_draft : Array (Option Value)} {oc_need_draft kV_need_draft dc_need_draft pm_need_draft cd_need_draft ct_need_draft : Value}
    (a_need_draft : PySem.W.nsIn K mainGlobals "need_draft" = some (some (.ref f_need_draft))) (l_need_draft : K.lookup f_need_draft = some ⟨oc_need_draft, od_need_draft, .func (PySem.W.fnOf "need_draft" "need_draft" (defArgs st_need_draft) (defBody st_need_draft) (defScope st_need_draft) .none kV_need_draft dc_need_draft pm_need_draft an_need_draft cd_need_draft ct_need_draft), sl_need_draft⟩) (e_need_draft : PySem.W.codeIn K cd_need_draft "need_draft" = true) (k_need_draft : PySem.W.keepIn K (.ref f_need_draft) = true)
    {f_blanks : Addr} {od_blanks an_blanks : Option Addr} {sl_blanks : Array (Option Value)} {oc_blanks kV_blanks dc_blanks pm_blanks cd_blanks ct_blanks : Value}
    (a_blanks : PySem.W.nsIn K mainGlobals "blanks" = some (some (.ref f_blanks))) (l_blanks : K.lookup f_blanks = some ⟨oc_blanks, od_blanks, .func (PySem.W.fnOf "blanks" "blanks" (defArgs st_blanks) (defBody st_blanks) (defScope st_blanks) .none kV_blanks dc_blanks pm_blanks an_blanks cd_blanks ct_blanks), sl_blanks⟩) (e_blanks : PySem.W.codeIn K cd_blanks "blanks" = true) (k_blanks : PySem.W.keepIn K (.ref f_blanks) = true)
    {f_ways_to_put : Addr} {od_ways_to_put an_ways_to_put : Option Addr} {sl_ways_to_put : Array (Option Value)} {oc_ways_to_put kV_ways_to_put dc_ways_to_put pm_ways_to_put cd_ways_to_put ct_ways_to_put : Value}
    (a_ways_to_put : PySem.W.nsIn K mainGlobals "ways_to_put" = some (some (.ref f_ways_to_put))) (l_ways_to_put : K.lookup f_ways_to_put = some ⟨oc_ways_to_put, od_ways_to_put, .func (PySem.W.fnOf "ways_to_put" "ways_to_put" (defArgs st_ways_to_put) (defBody st_ways_to_put) (defScope st_ways_to_put) .none kV_ways_to_put dc_ways_to_put pm_ways_to_put an_ways_to_put cd_ways_to_put ct_ways_to_put), sl_ways_to_put⟩) (e_ways_to_put : PySem.W.codeIn K cd_ways_to_put "ways_to_put" = true) (k_ways_to_put : PySem.W.keepIn K (.ref f_ways_to_put) = true)
    {f_need_few : Addr} {od_need_few an_need_few : Option Addr} {sl_need_few : Array (Option Value)} {oc_need_few kV_need_few dc_need_few pm_need_few cd_need_few ct_need_few : Value}
    (a_need_few : PySem.W.nsIn K mainGlobals "need_few" = some (some (.ref f_need_few))) (l_need_few : K.lookup f_need_few = some ⟨oc_need_few, od_need_few, .func (PySem.W.fnOf "need_few" "need_few" (defArgs st_need_few) (defBody st_need_few) (defScope st_need_few) .none kV_need_few dc_need_few pm_need_few an_need_few cd_need_few ct_need_few), sl_need_few⟩) (e_need_few : PySem.W.codeIn K cd_need_few "need_few" = true) (k_need_few : PySem.W.keepIn K (.ref f_need_few) = true)
    {f_lying_rows : Addr} {od_lying_rows an_lying_rows : Option Addr} {sl_lying_rows : Array (Option Value)} {oc_lying_rows kV_lying_rows dc_lying_rows pm_lying_rows cd_lying_rows ct_lying_rows : Value}
    (a_lying_rows : PySem.W.nsIn K mainGlobals "lying_rows" = some (some (.ref f_lying_rows))) (l_lying_rows : K.lookup f_lying_rows = some ⟨oc_lying_rows, od_lying_rows, .func (PySem.W.fnOf "lying_rows" "lying_rows" (defArgs st_lying_rows) (defBody st_lying_rows) (defScope st_lying_rows) .none kV_lying_rows dc_lying_rows pm_lying_rows an_lying_rows cd_lying_rows ct_lying_rows), sl_lying_rows⟩) (e_lying_rows : PySem.W.codeIn K cd_lying_rows "lying_rows" = true) (k_lying_rows : PySem.W.keepIn K (.ref f_lying_rows) = true)
    {f_row_places : Addr} {od_row_places an_row_places : Option Addr} {sl_row_places : Array (Option Value)} {oc_row_places kV_row_places dc_row_places pm_row_places cd_row_places ct_row_places : Value}
    (a_row_places : PySem.W.nsIn K mainGlobals "row_places" = some (some (.ref f_row_places))) (l_row_places : K.lookup f_row_places = some ⟨oc_row_places, od_row_places, .func (PySem.W.fnOf "row_places" "row_places" (defArgs st_row_places) (defBody st_row_places) (defScope st_row_places) .none kV_row_places dc_row_places pm_row_places an_row_places cd_row_places ct_row_places), sl_row_places⟩) (e_row_places : PySem.W.codeIn K cd_row_places "row_places" = true) (k_row_places : PySem.W.keepIn K (.ref f_row_places) = true)
    {f_has_hue : Addr} {od_has_hue an_has_hue : Option Addr} {sl_has_hue : Array (Option Value)} {oc_has_hue kV_has_hue dc_has_hue pm_has_hue cd_has_hue ct_has_hue : Value}
    (a_has_hue : PySem.W.nsIn K mainGlobals "has_hue" = some (some (.ref f_has_hue))) (l_has_hue : K.lookup f_has_hue = some ⟨oc_has_hue, od_has_hue, .func (PySem.W.fnOf "has_hue" "has_hue" (defArgs st_has_hue) (defBody st_has_hue) (defScope st_has_hue) .none kV_has_hue dc_has_hue pm_has_hue an_has_hue cd_has_hue ct_has_hue), sl_has_hue⟩) (e_has_hue : PySem.W.codeIn K cd_has_hue "has_hue" = true) (k_has_hue : PySem.W.keepIn K (.ref f_has_hue) = true)
    {f_wrong_rows : Addr} {od_wrong_rows an_wrong_rows : Option Addr} {sl_wrong_rows : Array (Option Value)} {oc_wrong_rows kV_wrong_rows dc_wrong_rows pm_wrong_rows cd_wrong_rows ct_wrong_rows : Value}
    (a_wrong_rows : PySem.W.nsIn K mainGlobals "wrong_rows" = some (some (.ref f_wrong_rows))) (l_wrong_rows : K.lookup f_wrong_rows = some ⟨oc_wrong_rows, od_wrong_rows, .func (PySem.W.fnOf "wrong_rows" "wrong_rows" (defArgs st_wrong_rows) (defBody st_wrong_rows) (defScope st_wrong_rows) .none kV_wrong_rows dc_wrong_rows pm_wrong_rows an_wrong_rows cd_wrong_rows ct_wrong_rows), sl_wrong_rows⟩) (e_wrong_rows : PySem.W.codeIn K cd_wrong_rows "wrong_rows" = true) (k_wrong_rows : PySem.W.keepIn K (.ref f_wrong_rows) = true)
    {f_with_hue : Addr} {od_with_hue an_with_hue : Option Addr} {sl_with_hue : Array (Option Value)} {oc_with_hue kV_with_hue dc_with_hue pm_with_hue cd_with_hue ct_with_hue : Value}
    (a_with_hue : PySem.W.nsIn K mainGlobals "with_hue" = some (some (.ref f_with_hue))) (l_with_hue : K.lookup f_with_hue = some ⟨oc_with_hue, od_with_hue, .func (PySem.W.fnOf "with_hue" "with_hue" (defArgs st_with_hue) (defBody st_with_hue) (defScope st_with_hue) .none kV_with_hue dc_with_hue pm_with_hue an_with_hue cd_with_hue ct_with_hue), sl_with_hue⟩) (e_with_hue : PySem.W.codeIn K cd_with_hue "with_hue" = true) (k_with_hue : PySem.W.keepIn K (.ref f_with_hue) = true)
    {f_rows_through : Addr} {od_rows_through an_rows_through : Option Addr} {sl_rows_through : Array (Option Value)} {oc_rows_through kV_rows_through dc_rows_through pm_rows_through cd_rows_through ct_rows_through : Value}
    (a_rows_through : PySem.W.nsIn K mainGlobals "rows_through" = some (some (.ref f_rows_through))) (l_rows_through : K.lookup f_rows_through = some ⟨oc_rows_through, od_rows_through, .func (PySem.W.fnOf "rows_through" "rows_through" (defArgs st_rows_through) (defBody st_rows_through) (defScope st_rows_through) .none kV_rows_through dc_rows_through pm_rows_through an_rows_through cd_rows_through ct_rows_through), sl_rows_through⟩) (e_rows_through : PySem.W.codeIn K cd_rows_through "rows_through" = true) (k_rows_through : PySem.W.keepIn K (.ref f_rows_through) = true)
    {f_bars_at : Addr} {od_bars_at an_bars_at : Option Addr} {sl_bars_at : Array (Option Value)} {oc_bars_at kV_bars_at dc_bars_at pm_bars_at cd_bars_at ct_bars_at : Value}
    (a_bars_at : PySem.W.nsIn K mainGlobals "bars_at" = some (some (.ref f_bars_at))) (l_bars_at : K.lookup f_bars_at = some ⟨oc_bars_at, od_bars_at, .func (PySem.W.fnOf "bars_at" "bars_at" (defArgs st_bars_at) (defBody st_bars_at) (defScope st_bars_at) .none kV_bars_at dc_bars_at pm_bars_at an_bars_at cd_bars_at ct_bars_at), sl_bars_at⟩) (e_bars_at : PySem.W.codeIn K cd_bars_at "bars_at" = true) (k_bars_at : PySem.W.keepIn K (.ref f_bars_at) = true)
    {f_open_at : Addr} {od_open_at an_open_at : Option Addr} {sl_open_at : Array (Option Value)} {oc_open_at kV_open_at dc_open_at pm_open_at cd_open_at ct_open_at : Value}
    (a_open_at : PySem.W.nsIn K mainGlobals "open_at" = some (some (.ref f_open_at))) (l_open_at : K.lookup f_open_at = some ⟨oc_open_at, od_open_at, .func (PySem.W.fnOf "open_at" "open_at" (defArgs st_open_at) (defBody st_open_at) (defScope st_open_at) .none kV_open_at dc_open_at pm_open_at an_open_at cd_open_at ct_open_at), sl_open_at⟩) (e_open_at : PySem.W.codeIn K cd_open_at "open_at" = true) (k_open_at : PySem.W.keepIn K (.ref f_open_at) = true)
    {f_first_narrow : Addr} {od_first_narrow an_first_narrow : Option Addr} {sl_first_narrow : Array (Option Value)} {oc_first_narrow kV_first_narrow dc_first_narrow pm_first_narrow cd_first_narrow ct_first_narrow : Value}
    (a_first_narrow : PySem.W.nsIn K mainGlobals "first_narrow" = some (some (.ref f_first_narrow))) (l_first_narrow : K.lookup f_first_narrow = some ⟨oc_first_narrow, od_first_narrow, .func (PySem.W.fnOf "first_narrow" "first_narrow" (defArgs st_first_narrow) (defBody st_first_narrow) (defScope st_first_narrow) .none kV_first_narrow dc_first_narrow pm_first_narrow an_first_narrow cd_first_narrow ct_first_narrow), sl_first_narrow⟩) (e_first_narrow : PySem.W.codeIn K cd_first_narrow "first_narrow" = true) (k_first_narrow : PySem.W.keepIn K (.ref f_first_narrow) = true)
    {f_best_place : Addr} {od_best_place an_best_place : Option Addr} {sl_best_place : Array (Option Value)} {oc_best_place kV_best_place dc_best_place pm_best_place cd_best_place ct_best_place : Value}
    (a_best_place : PySem.W.nsIn K mainGlobals "best_place" = some (some (.ref f_best_place))) (l_best_place : K.lookup f_best_place = some ⟨oc_best_place, od_best_place, .func (PySem.W.fnOf "best_place" "best_place" (defArgs st_best_place) (defBody st_best_place) (defScope st_best_place) .none kV_best_place dc_best_place pm_best_place an_best_place cd_best_place ct_best_place), sl_best_place⟩) (e_best_place : PySem.W.codeIn K cd_best_place "best_place" = true) (k_best_place : PySem.W.keepIn K (.ref f_best_place) = true)
    {f_made_paper : Addr} {od_made_paper an_made_paper : Option Addr} {sl_made_paper : Array (Option Value)} {oc_made_paper kV_made_paper dc_made_paper pm_made_paper cd_made_paper ct_made_paper : Value}
    (a_made_paper : PySem.W.nsIn K mainGlobals "made_paper" = some (some (.ref f_made_paper))) (l_made_paper : K.lookup f_made_paper = some ⟨oc_made_paper, od_made_paper, .func (PySem.W.fnOf "made_paper" "made_paper" (defArgs st_made_paper) (defBody st_made_paper) (defScope st_made_paper) .none kV_made_paper dc_made_paper pm_made_paper an_made_paper cd_made_paper ct_made_paper), sl_made_paper⟩) (e_made_paper : PySem.W.codeIn K cd_made_paper "made_paper" = true) (k_made_paper : PySem.W.keepIn K (.ref f_made_paper) = true)
    {f_some_paper : Addr} {od_some_paper an_some_paper : Option Addr} {sl_some_paper : Array (Option Value)} {oc_some_paper kV_some_paper dc_some_paper pm_some_paper cd_some_paper ct_some_paper : Value}
    (a_some_paper : PySem.W.nsIn K mainGlobals "some_paper" = some (some (.ref f_some_paper))) (l_some_paper : K.lookup f_some_paper = some ⟨oc_some_paper, od_some_paper, .func (PySem.W.fnOf "some_paper" "some_paper" (defArgs st_some_paper) (defBody st_some_paper) (defScope st_some_paper) .none kV_some_paper dc_some_paper pm_some_paper an_some_paper cd_some_paper ct_some_paper), sl_some_paper⟩) (e_some_paper : PySem.W.codeIn K cd_some_paper "some_paper" = true) (k_some_paper : PySem.W.keepIn K (.ref f_some_paper) = true)
    {f_paper_for : Addr} {od_paper_for an_paper_for : Option Addr} {sl_paper_for : Array (Option Value)} {oc_paper_for kV_paper_for dc_paper_for pm_paper_for cd_paper_for ct_paper_for : Value}
    (a_paper_for : PySem.W.nsIn K mainGlobals "paper_for" = some (some (.ref f_paper_for))) (l_paper_for : K.lookup f_paper_for = some ⟨oc_paper_for, od_paper_for, .func (PySem.W.fnOf "paper_for" "paper_for" (defArgs st_paper_for) (defBody st_paper_for) (defScope st_paper_for) .none kV_paper_for dc_paper_for pm_paper_for an_paper_for cd_paper_for ct_paper_for), sl_paper_for⟩) (e_paper_for : PySem.W.codeIn K cd_paper_for "paper_for" = true) (k_paper_for : PySem.W.keepIn K (.ref f_paper_for) = true)
    {f_L_pen : Addr} {od_L_pen an_L_pen : Option Addr} {sl_L_pen : Array (Option Value)} {oc_L_pen kV_L_pen dc_L_pen pm_L_pen cd_L_pen ct_L_pen : Value}
    (a_L_pen : PySem.W.nsIn K mainGlobals "_law_pen" = some (some (.ref f_L_pen))) (l_L_pen : K.lookup f_L_pen = some ⟨oc_L_pen, od_L_pen, .func (PySem.W.fnOf "_law_pen" "_law_pen" (defArgs st_L_pen) (defBody st_L_pen) (defScope st_L_pen) .none kV_L_pen dc_L_pen pm_L_pen an_L_pen cd_L_pen ct_L_pen), sl_L_pen⟩) (e_L_pen : PySem.W.codeIn K cd_L_pen "_law_pen" = true) (k_L_pen : PySem.W.keepIn K (.ref f_L_pen) = true)
    {f_L_draw : Addr} {od_L_draw an_L_draw : Option Addr} {sl_L_draw : Array (Option Value)} {oc_L_draw kV_L_draw dc_L_draw pm_L_draw cd_L_draw ct_L_draw : Value}
    (a_L_draw : PySem.W.nsIn K mainGlobals "_law_draw" = some (some (.ref f_L_draw))) (l_L_draw : K.lookup f_L_draw = some ⟨oc_L_draw, od_L_draw, .func (PySem.W.fnOf "_law_draw" "_law_draw" (defArgs st_L_draw) (defBody st_L_draw) (defScope st_L_draw) .none kV_L_draw dc_L_draw pm_L_draw an_L_draw cd_L_draw ct_L_draw), sl_L_draw⟩) (e_L_draw : PySem.W.codeIn K cd_L_draw "_law_draw" = true) (k_L_draw : PySem.W.keepIn K (.ref f_L_draw) = true)
    {f_L_few : Addr} {od_L_few an_L_few : Option Addr} {sl_L_few : Array (Option Value)} {oc_L_few kV_L_few dc_L_few pm_L_few cd_L_few ct_L_few : Value}
    (a_L_few : PySem.W.nsIn K mainGlobals "_law_few" = some (some (.ref f_L_few))) (l_L_few : K.lookup f_L_few = some ⟨oc_L_few, od_L_few, .func (PySem.W.fnOf "_law_few" "_law_few" (defArgs st_L_few) (defBody st_L_few) (defScope st_L_few) .none kV_L_few dc_L_few pm_L_few an_L_few cd_L_few ct_L_few), sl_L_few⟩) (e_L_few : PySem.W.codeIn K cd_L_few "_law_few" = true) (k_L_few : PySem.W.keepIn K (.ref f_L_few) = true)
    {f_L_ended : Addr} {od_L_ended an_L_ended : Option Addr} {sl_L_ended : Array (Option Value)} {oc_L_ended kV_L_ended dc_L_ended pm_L_ended cd_L_ended ct_L_ended : Value}
    (a_L_ended : PySem.W.nsIn K mainGlobals "_law_ended" = some (some (.ref f_L_ended))) (l_L_ended : K.lookup f_L_ended = some ⟨oc_L_ended, od_L_ended, .func (PySem.W.fnOf "_law_ended" "_law_ended" (defArgs st_L_ended) (defBody st_L_ended) (defScope st_L_ended) .none kV_L_ended dc_L_ended pm_L_ended an_L_ended cd_L_ended ct_L_ended), sl_L_ended⟩) (e_L_ended : PySem.W.codeIn K cd_L_ended "_law_ended" = true) (k_L_ended : PySem.W.keepIn K (.ref f_L_ended) = true)
    {f_L_knot : Addr} {od_L_knot an_L_knot : Option Addr} {sl_L_knot : Array (Option Value)} {oc_L_knot kV_L_knot dc_L_knot pm_L_knot cd_L_knot ct_L_knot : Value}
    (a_L_knot : PySem.W.nsIn K mainGlobals "_law_knot" = some (some (.ref f_L_knot))) (l_L_knot : K.lookup f_L_knot = some ⟨oc_L_knot, od_L_knot, .func (PySem.W.fnOf "_law_knot" "_law_knot" (defArgs st_L_knot) (defBody st_L_knot) (defScope st_L_knot) .none kV_L_knot dc_L_knot pm_L_knot an_L_knot cd_L_knot ct_L_knot), sl_L_knot⟩) (e_L_knot : PySem.W.codeIn K cd_L_knot "_law_knot" = true) (k_L_knot : PySem.W.keepIn K (.ref f_L_knot) = true)
    {f_L_places : Addr} {od_L_places an_L_places : Option Addr} {sl_L_places : Array (Option Value)} {oc_L_places kV_L_places dc_L_places pm_L_places cd_L_places ct_L_places : Value}
    (a_L_places : PySem.W.nsIn K mainGlobals "_law_places" = some (some (.ref f_L_places))) (l_L_places : K.lookup f_L_places = some ⟨oc_L_places, od_L_places, .func (PySem.W.fnOf "_law_places" "_law_places" (defArgs st_L_places) (defBody st_L_places) (defScope st_L_places) .none kV_L_places dc_L_places pm_L_places an_L_places cd_L_places ct_L_places), sl_L_places⟩) (e_L_places : PySem.W.codeIn K cd_L_places "_law_places" = true) (k_L_places : PySem.W.keepIn K (.ref f_L_places) = true)
    {f_L_whole : Addr} {od_L_whole an_L_whole : Option Addr} {sl_L_whole : Array (Option Value)} {oc_L_whole kV_L_whole dc_L_whole pm_L_whole cd_L_whole ct_L_whole : Value}
    (a_L_whole : PySem.W.nsIn K mainGlobals "_law_whole" = some (some (.ref f_L_whole))) (l_L_whole : K.lookup f_L_whole = some ⟨oc_L_whole, od_L_whole, .func (PySem.W.fnOf "_law_whole" "_law_whole" (defArgs st_L_whole) (defBody st_L_whole) (defScope st_L_whole) .none kV_L_whole dc_L_whole pm_L_whole an_L_whole cd_L_whole ct_L_whole), sl_L_whole⟩) (e_L_whole : PySem.W.codeIn K cd_L_whole "_law_whole" = true) (k_L_whole : PySem.W.keepIn K (.ref f_L_whole) = true)
    {f_L_shows : Addr} {od_L_shows an_L_shows : Option Addr} {sl_L_shows : Array (Option Value)} {oc_L_shows kV_L_shows dc_L_shows pm_L_shows cd_L_shows ct_L_shows : Value}
    (a_L_shows : PySem.W.nsIn K mainGlobals "_law_shows" = some (some (.ref f_L_shows))) (l_L_shows : K.lookup f_L_shows = some ⟨oc_L_shows, od_L_shows, .func (PySem.W.fnOf "_law_shows" "_law_shows" (defArgs st_L_shows) (defBody st_L_shows) (defScope st_L_shows) .none kV_L_shows dc_L_shows pm_L_shows an_L_shows cd_L_shows ct_L_shows), sl_L_shows⟩) (e_L_shows : PySem.W.codeIn K cd_L_shows "_law_shows" = true) (k_L_shows : PySem.W.keepIn K (.ref f_L_shows) = true)
    {f_L_cell_at : Addr} {od_L_cell_at an_L_cell_at : Option Addr} {sl_L_cell_at : Array (Option Value)} {oc_L_cell_at kV_L_cell_at dc_L_cell_at pm_L_cell_at cd_L_cell_at ct_L_cell_at : Value}
    (a_L_cell_at : PySem.W.nsIn K mainGlobals "_law_cell_at" = some (some (.ref f_L_cell_at))) (l_L_cell_at : K.lookup f_L_cell_at = some ⟨oc_L_cell_at, od_L_cell_at, .func (PySem.W.fnOf "_law_cell_at" "_law_cell_at" (defArgs st_L_cell_at) (defBody st_L_cell_at) (defScope st_L_cell_at) .none kV_L_cell_at dc_L_cell_at pm_L_cell_at an_L_cell_at cd_L_cell_at ct_L_cell_at), sl_L_cell_at⟩) (e_L_cell_at : PySem.W.codeIn K cd_L_cell_at "_law_cell_at" = true) (k_L_cell_at : PySem.W.keepIn K (.ref f_L_cell_at) = true)
    {f_L_rows : Addr} {od_L_rows an_L_rows : Option Addr} {sl_L_rows : Array (Option Value)} {oc_L_rows kV_L_rows dc_L_rows pm_L_rows cd_L_rows ct_L_rows : Value}
    (a_L_rows : PySem.W.nsIn K mainGlobals "_law_rows" = some (some (.ref f_L_rows))) (l_L_rows : K.lookup f_L_rows = some ⟨oc_L_rows, od_L_rows, .func (PySem.W.fnOf "_law_rows" "_law_rows" (defArgs st_L_rows) (defBody st_L_rows) (defScope st_L_rows) .none kV_L_rows dc_L_rows pm_L_rows an_L_rows cd_L_rows ct_L_rows), sl_L_rows⟩) (e_L_rows : PySem.W.codeIn K cd_L_rows "_law_rows" = true) (k_L_rows : PySem.W.keepIn K (.ref f_L_rows) = true)
    {f_L_wrong : Addr} {od_L_wrong an_L_wrong : Option Addr} {sl_L_wrong : Array (Option Value)} {oc_L_wrong kV_L_wrong dc_L_wrong pm_L_wrong cd_L_wrong ct_L_wrong : Value}
    (a_L_wrong : PySem.W.nsIn K mainGlobals "_law_wrong" = some (some (.ref f_L_wrong))) (l_L_wrong : K.lookup f_L_wrong = some ⟨oc_L_wrong, od_L_wrong, .func (PySem.W.fnOf "_law_wrong" "_law_wrong" (defArgs st_L_wrong) (defBody st_L_wrong) (defScope st_L_wrong) .none kV_L_wrong dc_L_wrong pm_L_wrong an_L_wrong cd_L_wrong ct_L_wrong), sl_L_wrong⟩) (e_L_wrong : PySem.W.codeIn K cd_L_wrong "_law_wrong" = true) (k_L_wrong : PySem.W.keepIn K (.ref f_L_wrong) = true)
    {f_L_can : Addr} {od_L_can an_L_can : Option Addr} {sl_L_can : Array (Option Value)} {oc_L_can kV_L_can dc_L_can pm_L_can cd_L_can ct_L_can : Value}
    (a_L_can : PySem.W.nsIn K mainGlobals "_law_can" = some (some (.ref f_L_can))) (l_L_can : K.lookup f_L_can = some ⟨oc_L_can, od_L_can, .func (PySem.W.fnOf "_law_can" "_law_can" (defArgs st_L_can) (defBody st_L_can) (defScope st_L_can) .none kV_L_can dc_L_can pm_L_can an_L_can cd_L_can ct_L_can), sl_L_can⟩) (e_L_can : PySem.W.codeIn K cd_L_can "_law_can" = true) (k_L_can : PySem.W.keepIn K (.ref f_L_can) = true)
    {f_is_row_paper : Addr} {od_is_row_paper an_is_row_paper : Option Addr} {sl_is_row_paper : Array (Option Value)} {oc_is_row_paper kV_is_row_paper dc_is_row_paper pm_is_row_paper cd_is_row_paper ct_is_row_paper : Value}
    (a_is_row_paper : PySem.W.nsIn K mainGlobals "is_row_paper" = some (some (.ref f_is_row_paper))) (l_is_row_paper : K.lookup f_is_row_paper = some ⟨oc_is_row_paper, od_is_row_paper, .func (PySem.W.fnOf "is_row_paper" "is_row_paper" (defArgs st_is_row_paper) (defBody st_is_row_paper) (defScope st_is_row_paper) .none kV_is_row_paper dc_is_row_paper pm_is_row_paper an_is_row_paper cd_is_row_paper ct_is_row_paper), sl_is_row_paper⟩) (e_is_row_paper : PySem.W.codeIn K cd_is_row_paper "is_row_paper" = true) (k_is_row_paper : PySem.W.keepIn K (.ref f_is_row_paper) = true)
    {f_is_blank : Addr} {od_is_blank an_is_blank : Option Addr} {sl_is_blank : Array (Option Value)} {oc_is_blank kV_is_blank dc_is_blank pm_is_blank cd_is_blank ct_is_blank : Value}
    (a_is_blank : PySem.W.nsIn K mainGlobals "is_blank" = some (some (.ref f_is_blank))) (l_is_blank : K.lookup f_is_blank = some ⟨oc_is_blank, od_is_blank, .func (PySem.W.fnOf "is_blank" "is_blank" (defArgs st_is_blank) (defBody st_is_blank) (defScope st_is_blank) .none kV_is_blank dc_is_blank pm_is_blank an_is_blank cd_is_blank ct_is_blank), sl_is_blank⟩) (e_is_blank : PySem.W.codeIn K cd_is_blank "is_blank" = true) (k_is_blank : PySem.W.keepIn K (.ref f_is_blank) = true)
    {f_good_paper : Addr} {od_good_paper an_good_paper : Option Addr} {sl_good_paper : Array (Option Value)} {oc_good_paper kV_good_paper dc_good_paper pm_good_paper cd_good_paper ct_good_paper : Value}
    (a_good_paper : PySem.W.nsIn K mainGlobals "good_paper" = some (some (.ref f_good_paper))) (l_good_paper : K.lookup f_good_paper = some ⟨oc_good_paper, od_good_paper, .func (PySem.W.fnOf "good_paper" "good_paper" (defArgs st_good_paper) (defBody st_good_paper) (defScope st_good_paper) .none kV_good_paper dc_good_paper pm_good_paper an_good_paper cd_good_paper ct_good_paper), sl_good_paper⟩) (e_good_paper : PySem.W.codeIn K cd_good_paper "good_paper" = true) (k_good_paper : PySem.W.keepIn K (.ref f_good_paper) = true)
    {f_is_paper : Addr} {od_is_paper an_is_paper : Option Addr} {sl_is_paper : Array (Option Value)} {oc_is_paper kV_is_paper dc_is_paper pm_is_paper cd_is_paper ct_is_paper : Value}
    (a_is_paper : PySem.W.nsIn K mainGlobals "is_paper" = some (some (.ref f_is_paper))) (l_is_paper : K.lookup f_is_paper = some ⟨oc_is_paper, od_is_paper, .func (PySem.W.fnOf "is_paper" "is_paper" (defArgs st_is_paper) (defBody st_is_paper) (defScope st_is_paper) .none kV_is_paper dc_is_paper pm_is_paper an_is_paper cd_is_paper ct_is_paper), sl_is_paper⟩) (e_is_paper : PySem.W.codeIn K cd_is_paper "is_paper" = true) (k_is_paper : PySem.W.keepIn K (.ref f_is_paper) = true)
    {f_law : Addr} {od_law an_law : Option Addr} {sl_law : Array (Option Value)} {oc_law kV_law dc_law pm_law cd_law ct_law : Value}
    (a_law : PySem.W.nsIn K mainGlobals "law" = some (some (.ref f_law))) (l_law : K.lookup f_law = some ⟨oc_law, od_law, .func (PySem.W.fnOf "law" "law" (defArgs st_law) (defBody st_law) (defScope st_law) .none kV_law dc_law pm_law an_law cd_law ct_law), sl_law⟩) (e_law : PySem.W.codeIn K cd_law "law" = true) (k_law : PySem.W.keepIn K (.ref f_law) = true)
    (z_all : PySem.W.nsIn K mainGlobals "all" = some none)
    (z_bool : PySem.W.nsIn K mainGlobals "bool" = some none)
    (z_divmod : PySem.W.nsIn K mainGlobals "divmod" = some none)
    (z_enumerate : PySem.W.nsIn K mainGlobals "enumerate" = some none)
    (z_int : PySem.W.nsIn K mainGlobals "int" = some none)
    (z_isinstance : PySem.W.nsIn K mainGlobals "isinstance" = some none)
    (z_len : PySem.W.nsIn K mainGlobals "len" = some none)
    (z_max : PySem.W.nsIn K mainGlobals "max" = some none)
    (z_min : PySem.W.nsIn K mainGlobals "min" = some none)
    (z_range : PySem.W.nsIn K mainGlobals "range" = some none)
    (z_sorted : PySem.W.nsIn K mainGlobals "sorted" = some none)
    (z_str : PySem.W.nsIn K mainGlobals "str" = some none)
    (z_tuple : PySem.W.nsIn K mainGlobals "tuple" = some none)
    {t_BLANK : Tok} (y_BLANK : PySem.W.nsIn K mainGlobals "BLANK" = some (some (.int (-1) t_BLANK)))
    {t_HUES : Tok} (y_HUES : PySem.W.nsIn K mainGlobals "HUES" = some (some (.int 4 t_HUES)))
    {t_LEAST_SIZE : Tok} (y_LEAST_SIZE : PySem.W.nsIn K mainGlobals "LEAST_SIZE" = some (some (.int 2 t_LEAST_SIZE)))
    {t_MOST_PLACES : Tok} (y_MOST_PLACES : PySem.W.nsIn K mainGlobals "MOST_PLACES" = some (some (.int 40 t_MOST_PLACES)))
    {t_MOST_SIZE : Tok} (y_MOST_SIZE : PySem.W.nsIn K mainGlobals "MOST_SIZE" = some (some (.int 8 t_MOST_SIZE)))
    {t_MOST_WAYS : Tok} (y_MOST_WAYS : PySem.W.nsIn K mainGlobals "MOST_WAYS" = some (some (.int 512 t_MOST_WAYS)))
    {C_NoDraft : Addr} (xg_NoDraft : PySem.W.nsIn K mainGlobals "NoDraft" = some (some (.ref C_NoDraft))) (xx_NoDraft : PySem.W.excIn K C_NoDraft [.type "ValueError", .type "Exception", .type "BaseException", .type "object"] "ValueError.__new__" = true) (xk_NoDraft : PySem.W.keepIn K (.ref C_NoDraft) = true) (xb_NoDraft : PySem.W.subIn K (.ref C_NoDraft) (.type "BaseException") = some true) (xt_NoDraft : PySem.W.typeIn K (.ref C_NoDraft) = some (.type "type"))
    {C_NoSizes : Addr} (xg_NoSizes : PySem.W.nsIn K mainGlobals "NoSizes" = some (some (.ref C_NoSizes))) (xx_NoSizes : PySem.W.excIn K C_NoSizes [.type "ValueError", .type "Exception", .type "BaseException", .type "object"] "ValueError.__new__" = true) (xk_NoSizes : PySem.W.keepIn K (.ref C_NoSizes) = true) (xb_NoSizes : PySem.W.subIn K (.ref C_NoSizes) (.type "BaseException") = some true) (xt_NoSizes : PySem.W.typeIn K (.ref C_NoSizes) = some (.type "type"))
    {N_TooGreat : Addr} {cl_TooGreat : Obj} (ng_TooGreat : PySem.W.nsIn K mainGlobals "TooGreat" = some (some (.ref N_TooGreat))) (nc_TooGreat : K.lookup N_TooGreat = some cl_TooGreat) (ni_TooGreat : isClsO cl_TooGreat = true) (nt_TooGreat : PySem.W.typeIn K (.ref N_TooGreat) = some (.type "type"))
    {N_HueError : Addr} {cl_HueError : Obj} (ng_HueError : PySem.W.nsIn K mainGlobals "HueError" = some (some (.ref N_HueError))) (nc_HueError : K.lookup N_HueError = some cl_HueError) (ni_HueError : isClsO cl_HueError = true) (nt_HueError : PySem.W.typeIn K (.ref N_HueError) = some (.type "type"))
    (nb_HueError : PySem.W.subIn K (.ref N_HueError) (.type "BaseException") = some true) (nd_HueError : PySem.W.hasDictIn K N_HueError = true) (vh_1 : PySem.W.specialIn K (.builtin "object.__class__") "__get__" = some (some (.builtin "getset_descriptor.__get__"))) (vh_2 : PySem.W.takesIn K (.builtin "object.__class__") = some true)
    (u1_NoDraft : PySem.W.findIn K (.ref C_NoDraft) "__getattribute__" = some (some (.builtin "BaseException.__getattribute__"))) (u2_NoDraft : PySem.W.findIn K (.ref C_NoDraft) "__getattr__" = some none) (u3_NoDraft : PySem.W.hasDictIn K C_NoDraft = true) (u4_NoDraft : PySem.W.findIn K (.ref C_NoDraft) "__class__" = some (some (.builtin "object.__class__"))) (u5_NoDraft : PySem.W.mroIn K C_NoDraft (.type "object") = some true) (u6_NoDraft : PySem.W.subIn K (.ref C_NoDraft) (.type "ValueError") = some true) (u7_NoDraft : PySem.W.subIn K (.ref C_NoDraft) (.ref N_HueError) = some true) (u8_NoDraft : PySem.W.subIn K (.ref C_NoDraft) (.ref C_NoDraft) = some true)
    (s_NoDraft_TooGreat : PySem.W.subIn K (.ref C_NoDraft) (.ref N_TooGreat) = some false)
    (u1_NoSizes : PySem.W.findIn K (.ref C_NoSizes) "__getattribute__" = some (some (.builtin "BaseException.__getattribute__"))) (u2_NoSizes : PySem.W.findIn K (.ref C_NoSizes) "__getattr__" = some none) (u3_NoSizes : PySem.W.hasDictIn K C_NoSizes = true) (u4_NoSizes : PySem.W.findIn K (.ref C_NoSizes) "__class__" = some (some (.builtin "object.__class__"))) (u5_NoSizes : PySem.W.mroIn K C_NoSizes (.type "object") = some true) (u6_NoSizes : PySem.W.subIn K (.ref C_NoSizes) (.type "ValueError") = some true) (u7_NoSizes : PySem.W.subIn K (.ref C_NoSizes) (.ref N_HueError) = some true) (u8_NoSizes : PySem.W.subIn K (.ref C_NoSizes) (.ref C_NoSizes) = some true)
    (s_NoSizes_TooGreat : PySem.W.subIn K (.ref C_NoSizes) (.ref N_TooGreat) = some false)
    (u1_TooGreat : PySem.W.findIn K (.ref N_TooGreat) "__getattribute__" = some (some (.builtin "BaseException.__getattribute__"))) (u2_TooGreat : PySem.W.findIn K (.ref N_TooGreat) "__getattr__" = some none) (u3_TooGreat : PySem.W.hasDictIn K N_TooGreat = true) (u4_TooGreat : PySem.W.findIn K (.ref N_TooGreat) "__class__" = some (some (.builtin "object.__class__"))) (u5_TooGreat : PySem.W.mroIn K N_TooGreat (.type "object") = some true) (u6_TooGreat : PySem.W.subIn K (.ref N_TooGreat) (.type "ValueError") = some true) (u7_TooGreat : PySem.W.subIn K (.ref N_TooGreat) (.ref N_HueError) = some true) (u8_TooGreat : PySem.W.subIn K (.ref N_TooGreat) (.ref N_TooGreat) = some true)
    (isx : isOex N_TooGreat cl_TooGreat = true) (sa_T : PySem.W.findIn K (.ref N_TooGreat) "__setattr__" = some (some (.builtin "object.__setattr__"))) (kT : PySem.W.keepIn K (.ref N_TooGreat) = true) {fI_T : Addr} (fi_T : PySem.W.findIn K (.ref N_TooGreat) "__init__" = some (some (.ref fI_T))) (ti_T : PySem.W.typeIn K (.ref fI_T) = some (.type "function"))
    {od_T an_T : Option Addr} {sl_T : Array (Option Value)} {oc_T kV_T dc_T pm_T cd_T ct_T : Value} (l_T : K.lookup fI_T = some ⟨oc_T, od_T, .func (PySem.W.fnOf "__init__" "TooGreat.__init__" (defArgs st_Too) (defBody st_Too) (defScope st_Too) .none kV_T dc_T pm_T an_T cd_T ct_T), sl_T⟩) (e_T : PySem.W.codeIn K cd_T "TooGreat.__init__" = true) (k_T : PySem.W.keepIn K (.ref fI_T) = true)
    (rd1 : PySem.W.readsIn K N_HueError (.type "type") = true) (rd2 : PySem.W.specialIn K (.ref N_HueError) "__getattribute__" = some (some (.builtin "type.__getattribute__"))) (bi_T : PySem.W.findCls K (.ref N_HueError) (.type "type") "__init__" = some (.val (.builtin "ValueError.__init__")))
    (w1 : PySem.W.findIn K (.ref N_TooGreat) "__getattribute__" = some (some (.builtin "BaseException.__getattribute__"))) (w2 : PySem.W.findIn K (.ref N_TooGreat) "__getattr__" = some none) (w3 : PySem.W.subIn K (.ref N_TooGreat) (.type "BaseException") = some true) (w4 : PySem.W.hasDictIn K N_TooGreat = true) (w5 : PySem.W.findIn K (.ref N_TooGreat) "many" = some none) (w6 : PySem.W.findIn K (.ref N_TooGreat) "most" = some none)
    (nodup : (Tb.T.map (·.1)).Nodup)
    : ∃ fd : FuncData, (∀ (s : Shared) (u : Value), BindsTo s fd ⟨[u], []⟩ [("_law_script", u)]) ∧ ∀ base : Heap, K.In base → base.Ns mainGlobals mg → (∀ p ∈ ([] : List (Addr × Addr)), LamX.TabB base mg p.1 p.2) → GOk l.prog w K mg base false 49 fa fd ["_law_script"] (spD K mg false 1 D_law) := by
  have T : Tx K mg := ⟨PySem.W.mg_none_of X G z_all, PySem.W.mg_none_of X G z_bool, PySem.W.mg_none_of X G z_divmod, PySem.W.mg_none_of X G z_enumerate, PySem.W.mg_none_of X G z_int, PySem.W.mg_none_of X G z_isinstance, PySem.W.mg_none_of X G z_len, PySem.W.mg_none_of X G z_max, PySem.W.mg_none_of X G z_min, PySem.W.mg_none_of X G z_range, PySem.W.mg_none_of X G z_sorted, PySem.W.mg_none_of X G z_str, PySem.W.mg_none_of X G z_tuple, ⟨_, PySem.W.mg_of X G y_BLANK⟩, ⟨_, PySem.W.mg_of X G y_HUES⟩, ⟨_, PySem.W.mg_of X G y_LEAST_SIZE⟩, ⟨_, PySem.W.mg_of X G y_MOST_PLACES⟩, ⟨_, PySem.W.mg_of X G y_MOST_SIZE⟩, ⟨_, PySem.W.mg_of X G y_MOST_WAYS⟩, ⟨_, PySem.W.mg_of X G xg_NoDraft, xx_NoDraft, xk_NoDraft, xb_NoDraft, xt_NoDraft⟩, ⟨_, PySem.W.mg_of X G xg_NoSizes, xx_NoSizes, xk_NoSizes, xb_NoSizes, xt_NoSizes⟩, ⟨_, PySem.W.mg_of X G ng_TooGreat⟩, ⟨_, PySem.W.mg_of X G ng_HueError⟩⟩
  have kc : Kcs K mg NS XS := (List.forall_mem_cons.mpr ⟨⟨C_NoDraft, kc_mk (PySem.W.mg_of X G xg_NoDraft) ⟨u1_NoDraft, u2_NoDraft, xb_NoDraft, u3_NoDraft, u4_NoDraft, vh_1, vh_2, u5_NoDraft⟩ (List.forall_mem_cons.mpr ⟨⟨_, _, PySem.W.mg_of X G ng_TooGreat, nc_TooGreat, ni_TooGreat, nt_TooGreat, (s_NoDraft_TooGreat).trans (by decide)⟩, fun _ h => nomatch h⟩) u8_NoDraft u6_NoDraft (PySem.W.mg_of X G ng_HueError) nb_HueError nd_HueError nt_HueError u7_NoDraft⟩, List.forall_mem_cons.mpr ⟨⟨C_NoSizes, kc_mk (PySem.W.mg_of X G xg_NoSizes) ⟨u1_NoSizes, u2_NoSizes, xb_NoSizes, u3_NoSizes, u4_NoSizes, vh_1, vh_2, u5_NoSizes⟩ (List.forall_mem_cons.mpr ⟨⟨_, _, PySem.W.mg_of X G ng_TooGreat, nc_TooGreat, ni_TooGreat, nt_TooGreat, (s_NoSizes_TooGreat).trans (by decide)⟩, fun _ h => nomatch h⟩) u8_NoSizes u6_NoSizes (PySem.W.mg_of X G ng_HueError) nb_HueError nd_HueError nt_HueError u7_NoSizes⟩, List.forall_mem_cons.mpr ⟨⟨N_TooGreat, kc_mk (PySem.W.mg_of X G ng_TooGreat) ⟨u1_TooGreat, u2_TooGreat, w3, u3_TooGreat, u4_TooGreat, vh_1, vh_2, u5_TooGreat⟩ (List.forall_mem_cons.mpr ⟨⟨_, _, PySem.W.mg_of X G ng_TooGreat, nc_TooGreat, ni_TooGreat, nt_TooGreat, (u8_TooGreat).trans (by decide)⟩, fun _ h => nomatch h⟩) u8_TooGreat u6_TooGreat (PySem.W.mg_of X G ng_HueError) nb_HueError nd_HueError nt_HueError u7_TooGreat⟩, fun _ h => nomatch h⟩⟩⟩)
  have tcT : TgC K N_TooGreat := ⟨⟨oex_cls isx nc_TooGreat, sa_T, w3, nt_TooGreat, kT⟩, ⟨w1, w2, w3, w4⟩, w5, w6, w4, u8_TooGreat⟩
  have Fn_T := fun_mk l_T e_T k_T
  have d_is_whole : Df K mg "is_whole" st_is_whole ["thing"] := df_mk (st := st_is_whole) (ps := ["thing"]) X G a_is_whole l_is_whole e_is_whole k_is_whole (fun _ _ _ _ _ _ us hl => match us, hl with | [_], _ => rfl)
  have d_is_between : Df K mg "is_between" st_is_between ["thing", "least", "most"] := df_mk (st := st_is_between) (ps := ["thing", "least", "most"]) X G a_is_between l_is_between e_is_between k_is_between (fun _ _ _ _ _ _ us hl => match us, hl with | [_, _, _], _ => rfl)
  have d_are_sizes : Df K mg "are_sizes" st_are_sizes ["thing"] := df_mk (st := st_are_sizes) (ps := ["thing"]) X G a_are_sizes l_are_sizes e_are_sizes k_are_sizes (fun _ _ _ _ _ _ us hl => match us, hl with | [_], _ => rfl)
  have d_need_sizes : Df K mg "need_sizes" st_need_sizes ["sizes"] := df_mk (st := st_need_sizes) (ps := ["sizes"]) X G a_need_sizes l_need_sizes e_need_sizes k_need_sizes (fun _ _ _ _ _ _ us hl => match us, hl with | [_], _ => rfl)
  have d_good_draft : Df K mg "good_draft" st_good_draft ["sizes", "thing"] := df_mk (st := st_good_draft) (ps := ["sizes", "thing"]) X G a_good_draft l_good_draft e_good_draft k_good_draft (fun _ _ _ _ _ _ us hl => match us, hl with | [_, _], _ => rfl)
  have d_need_draft : Df K mg "need_draft" st_need_draft ["sizes", "draft"] := df_mk (st := st_need_draft) (ps := ["sizes", "draft"]) X G a_need_draft l_need_draft e_need_draft k_need_draft (fun _ _ _ _ _ _ us hl => match us, hl with | [_, _], _ => rfl)
  have d_blanks : Df K mg "blanks" st_blanks ["draft"] := df_mk (st := st_blanks) (ps := ["draft"]) X G a_blanks l_blanks e_blanks k_blanks (fun _ _ _ _ _ _ us hl => match us, hl with | [_], _ => rfl)
  have d_ways_to_put : Df K mg "ways_to_put" st_ways_to_put ["sizes", "draft"] := df_mk (st := st_ways_to_put) (ps := ["sizes", "draft"]) X G a_ways_to_put l_ways_to_put e_ways_to_put k_ways_to_put (fun _ _ _ _ _ _ us hl => match us, hl with | [_, _], _ => rfl)
  have d_need_few : Df K mg "need_few" st_need_few ["sizes", "draft", "most"] := df_mk (st := st_need_few) (ps := ["sizes", "draft", "most"]) X G a_need_few l_need_few e_need_few k_need_few (fun _ _ _ _ _ _ us hl => match us, hl with | [_, _, _], _ => rfl)
  have d_lying_rows : Df K mg "lying_rows" st_lying_rows ["length", "size"] := df_mk (st := st_lying_rows) (ps := ["length", "size"]) X G a_lying_rows l_lying_rows e_lying_rows k_lying_rows (fun _ _ _ _ _ _ us hl => match us, hl with | [_, _], _ => rfl)
  have d_row_places : Df K mg "row_places" st_row_places ["row", "size"] := df_mk (st := st_row_places) (ps := ["row", "size"]) X G a_row_places l_row_places e_row_places k_row_places (fun _ _ _ _ _ _ us hl => match us, hl with | [_, _], _ => rfl)
  have d_has_hue : Df K mg "has_hue" st_has_hue ["strip", "row", "size", "hue"] := df_mk (st := st_has_hue) (ps := ["strip", "row", "size", "hue"]) X G a_has_hue l_has_hue e_has_hue k_has_hue (fun _ _ _ _ _ _ us hl => match us, hl with | [_, _, _, _], _ => rfl)
  have d_wrong_rows : Df K mg "wrong_rows" st_wrong_rows ["sizes", "strip"] := df_mk (st := st_wrong_rows) (ps := ["sizes", "strip"]) X G a_wrong_rows l_wrong_rows e_wrong_rows k_wrong_rows (fun _ _ _ _ _ _ us hl => match us, hl with | [_, _], _ => rfl)
  have d_with_hue : Df K mg "with_hue" st_with_hue ["draft", "place", "hue"] := df_mk (st := st_with_hue) (ps := ["draft", "place", "hue"]) X G a_with_hue l_with_hue e_with_hue k_with_hue (fun _ _ _ _ _ _ us hl => match us, hl with | [_, _, _], _ => rfl)
  have d_rows_through : Df K mg "rows_through" st_rows_through ["length", "size", "place"] := df_mk (st := st_rows_through) (ps := ["length", "size", "place"]) X G a_rows_through l_rows_through e_rows_through k_rows_through (fun _ _ _ _ _ _ us hl => match us, hl with | [_, _, _], _ => rfl)
  have d_bars_at : Df K mg "bars_at" st_bars_at ["sizes", "draft", "place", "hue"] := df_mk (st := st_bars_at) (ps := ["sizes", "draft", "place", "hue"]) X G a_bars_at l_bars_at e_bars_at k_bars_at (fun _ _ _ _ _ _ us hl => match us, hl with | [_, _, _, _], _ => rfl)
  have d_open_at : Df K mg "open_at" st_open_at ["sizes", "draft", "place"] := df_mk (st := st_open_at) (ps := ["sizes", "draft", "place"]) X G a_open_at l_open_at e_open_at k_open_at (fun _ _ _ _ _ _ us hl => match us, hl with | [_, _, _], _ => rfl)
  have d_first_narrow : Df K mg "first_narrow" st_first_narrow ["sizes", "draft"] := df_mk (st := st_first_narrow) (ps := ["sizes", "draft"]) X G a_first_narrow l_first_narrow e_first_narrow k_first_narrow (fun _ _ _ _ _ _ us hl => match us, hl with | [_, _], _ => rfl)
  have d_best_place : Df K mg "best_place" st_best_place ["sizes", "draft"] := df_mk (st := st_best_place) (ps := ["sizes", "draft"]) X G a_best_place l_best_place e_best_place k_best_place (fun _ _ _ _ _ _ us hl => match us, hl with | [_, _], _ => rfl)
  have d_made_paper : Df K mg "made_paper" st_made_paper ["sizes", "draft"] := df_mk (st := st_made_paper) (ps := ["sizes", "draft"]) X G a_made_paper l_made_paper e_made_paper k_made_paper (fun _ _ _ _ _ _ us hl => match us, hl with | [_, _], _ => rfl)
  have d_some_paper : Df K mg "some_paper" st_some_paper ["sizes", "draft"] := df_mk (st := st_some_paper) (ps := ["sizes", "draft"]) X G a_some_paper l_some_paper e_some_paper k_some_paper (fun _ _ _ _ _ _ us hl => match us, hl with | [_, _], _ => rfl)
  have d_paper_for : Df K mg "paper_for" st_paper_for ["sizes", "draft"] := df_mk (st := st_paper_for) (ps := ["sizes", "draft"]) X G a_paper_for l_paper_for e_paper_for k_paper_for (fun _ _ _ _ _ _ us hl => match us, hl with | [_, _], _ => rfl)
  have d_L_pen : Df K mg "_law_pen" st_L_pen ["_law_cell"] := df_mk (st := st_L_pen) (ps := ["_law_cell"]) X G a_L_pen l_L_pen e_L_pen k_L_pen (fun _ _ _ _ _ _ us hl => match us, hl with | [_], _ => rfl)
  have d_L_draw : Df K mg "_law_draw" st_L_draw ["_law_pen_here", "_law_many"] := df_mk (st := st_L_draw) (ps := ["_law_pen_here", "_law_many"]) X G a_L_draw l_L_draw e_L_draw k_L_draw (fun _ _ _ _ _ _ us hl => match us, hl with | [_, _], _ => rfl)
  have d_L_few : Df K mg "_law_few" st_L_few ["_law_pen_here"] := df_mk (st := st_L_few) (ps := ["_law_pen_here"]) X G a_L_few l_L_few e_L_few k_L_few (fun _ _ _ _ _ _ us hl => match us, hl with | [_], _ => rfl)
  have d_L_ended : Df K mg "_law_ended" st_L_ended ["_law_sizes", "_law_found", "_law_hue"] := df_mk (st := st_L_ended) (ps := ["_law_sizes", "_law_found", "_law_hue"]) X G a_L_ended l_L_ended e_L_ended k_L_ended (fun _ _ _ _ _ _ us hl => match us, hl with | [_, _, _], _ => rfl)
  have d_L_knot : Df K mg "_law_knot" st_L_knot ["_law_pen_here", "_law_sizes", "_law_limit", "_law_spare"] := df_mk (st := st_L_knot) (ps := ["_law_pen_here", "_law_sizes", "_law_limit", "_law_spare"]) X G a_L_knot l_L_knot e_L_knot k_L_knot (fun _ _ _ _ _ _ us hl => match us, hl with | [_, _, _, _], _ => rfl)
  have d_L_places : Df K mg "_law_places" st_L_places ["_law_row", "_law_size"] := df_mk (st := st_L_places) (ps := ["_law_row", "_law_size"]) X G a_L_places l_L_places e_L_places k_L_places (fun _ _ _ _ _ _ us hl => match us, hl with | [_, _], _ => rfl)
  have d_L_whole : Df K mg "_law_whole" st_L_whole ["_law_thing"] := df_mk (st := st_L_whole) (ps := ["_law_thing"]) X G a_L_whole l_L_whole e_L_whole k_L_whole (fun _ _ _ _ _ _ us hl => match us, hl with | [_], _ => rfl)
  have d_L_shows : Df K mg "_law_shows" st_L_shows ["_law_sizes", "_law_draft", "_law_thing"] := df_mk (st := st_L_shows) (ps := ["_law_sizes", "_law_draft", "_law_thing"]) X G a_L_shows l_L_shows e_L_shows k_L_shows (fun _ _ _ _ _ _ us hl => match us, hl with | [_, _, _], _ => rfl)
  have d_L_cell_at : Df K mg "_law_cell_at" st_L_cell_at ["_law_script", "_law_k"] := df_mk (st := st_L_cell_at) (ps := ["_law_script", "_law_k"]) X G a_L_cell_at l_L_cell_at e_L_cell_at k_L_cell_at (fun _ _ _ _ _ _ us hl => match us, hl with | [_, _], _ => rfl)
  have d_L_rows : Df K mg "_law_rows" st_L_rows ["_law_length", "_law_size"] := df_mk (st := st_L_rows) (ps := ["_law_length", "_law_size"]) X G a_L_rows l_L_rows e_L_rows k_L_rows (fun _ _ _ _ _ _ us hl => match us, hl with | [_, _], _ => rfl)
  have d_L_wrong : Df K mg "_law_wrong" st_L_wrong ["_law_sizes", "_law_draft"] := df_mk (st := st_L_wrong) (ps := ["_law_sizes", "_law_draft"]) X G a_L_wrong l_L_wrong e_L_wrong k_L_wrong (fun _ _ _ _ _ _ us hl => match us, hl with | [_, _], _ => rfl)
  have d_L_can : Df K mg "_law_can" st_L_can ["_law_sizes", "_law_draft"] := df_mk (st := st_L_can) (ps := ["_law_sizes", "_law_draft"]) X G a_L_can l_L_can e_L_can k_L_can (fun _ _ _ _ _ _ us hl => match us, hl with | [_, _], _ => rfl)
  have d_is_row_paper : Df K mg "is_row_paper" st_is_row_paper ["sizes", "draft", "thing"] := df_mk (st := st_is_row_paper) (ps := ["sizes", "draft", "thing"]) X G a_is_row_paper l_is_row_paper e_is_row_paper k_is_row_paper (fun _ _ _ _ _ _ us hl => match us, hl with | [_, _, _], _ => rfl)
  have d_is_blank : Df K mg "is_blank" st_is_blank ["draft", "place"] := df_mk (st := st_is_blank) (ps := ["draft", "place"]) X G a_is_blank l_is_blank e_is_blank k_is_blank (fun _ _ _ _ _ _ us hl => match us, hl with | [_, _], _ => rfl)
  have d_good_paper : Df K mg "good_paper" st_good_paper ["sizes", "draft", "thing"] := df_mk (st := st_good_paper) (ps := ["sizes", "draft", "thing"]) X G a_good_paper l_good_paper e_good_paper k_good_paper (fun _ _ _ _ _ _ us hl => match us, hl with | [_, _, _], _ => rfl)
  have d_is_paper : Df K mg "is_paper" st_is_paper ["sizes", "draft", "thing"] := df_mk (st := st_is_paper) (ps := ["sizes", "draft", "thing"]) X G a_is_paper l_is_paper e_is_paper k_is_paper (fun _ _ _ _ _ _ us hl => match us, hl with | [_, _, _], _ => rfl)
  have d_law : Df K mg "law" st_law ["_law_script"] := df_mk (st := st_law) (ps := ["_law_script"]) X G a_law l_law e_law k_law (fun _ _ _ _ _ _ us hl => match us, hl with | [_], _ => rfl)
  obtain ⟨f, fd, Fl, g, _, bb⟩ := d_law
  rw [hfa] at g
  cases g
  refine ⟨fd, fun s u => bb s [u] rfl, fun base _ _ tabs => ?_⟩
  have c_too := ok_Too (P := l.prog) (w := w) (base := base) (PySem.W.mg_of X G ng_TooGreat) tcT fi_T ti_T Fn_T (Fn_T.binds (fun _ _ _ _ _ _ us hl => match us, hl with | [_, _, _], _ => rfl)) (PySem.W.mg_of X G ng_HueError) ⟨rd1, rd2⟩ bi_T
  have c_is_whole := ok_is_whole (P := l.prog) (w := w) (base := base) T d_is_whole
  have c_is_between := ok_is_between (P := l.prog) (w := w) (base := base) T d_is_between c_is_whole
  have c_are_sizes := ok_are_sizes (P := l.prog) (w := w) (base := base) T d_are_sizes c_is_between
  have c_need_sizes := ok_need_sizes (P := l.prog) (w := w) (base := base) T d_need_sizes c_are_sizes
  have c_good_draft := ok_good_draft (P := l.prog) (w := w) (base := base) T d_good_draft c_is_between
  have c_need_draft := ok_need_draft (P := l.prog) (w := w) (base := base) T d_need_draft c_need_sizes c_good_draft
  have c_blanks := ok_blanks (P := l.prog) (w := w) (base := base) T d_blanks
  have c_ways_to_put := ok_ways_to_put (P := l.prog) (w := w) (base := base) T d_ways_to_put c_blanks
  have c_need_few := ok_need_few (P := l.prog) (w := w) (base := base) T d_need_few c_need_draft c_ways_to_put c_too
  have c_lying_rows := ok_lying_rows (P := l.prog) (w := w) (base := base) T d_lying_rows
  have c_row_places := ok_row_places (P := l.prog) (w := w) (base := base) T d_row_places
  have c_has_hue := ok_has_hue (P := l.prog) (w := w) (base := base) T d_has_hue c_row_places
  have c_wrong_rows := ok_wrong_rows (P := l.prog) (w := w) (base := base) T d_wrong_rows c_lying_rows c_has_hue
  have c_with_hue := ok_with_hue (P := l.prog) (w := w) (base := base) T d_with_hue
  have c_rows_through := ok_rows_through (P := l.prog) (w := w) (base := base) T d_rows_through
  have c_bars_at := ok_bars_at (P := l.prog) (w := w) (base := base) T d_bars_at c_with_hue c_rows_through c_row_places
  have c_open_at := ok_open_at (P := l.prog) (w := w) (base := base) T d_open_at c_bars_at
  have c_first_narrow := ok_first_narrow (P := l.prog) (w := w) (base := base) T d_first_narrow c_blanks c_open_at
  have c_best_place := ok_best_place (P := l.prog) (w := w) (base := base) T d_best_place c_first_narrow c_blanks
  have c_made_paper := ok_made_paper (P := l.prog) (w := w) (base := base) T d_made_paper c_best_place c_bars_at c_with_hue
  have c_some_paper := ok_some_paper (P := l.prog) (w := w) (base := base) T d_some_paper c_wrong_rows c_made_paper
  have c_paper_for := ok_paper_for (P := l.prog) (w := w) (base := base) T d_paper_for c_need_few c_some_paper
  have c_L_pen := ok_L_pen (P := l.prog) (w := w) (base := base) T d_L_pen
  have c_L_draw := ok_L_draw (P := l.prog) (w := w) (base := base) T d_L_draw
  have c_L_few := ok_L_few (P := l.prog) (w := w) (base := base) T d_L_few c_L_draw
  have c_L_ended := ok_L_ended (P := l.prog) (w := w) (base := base) T d_L_ended
  have c_L_knot := ok_L_knot (P := l.prog) (w := w) (base := base) T d_L_knot c_L_draw c_L_ended
  have c_L_places := ok_L_places (P := l.prog) (w := w) (base := base) T d_L_places
  have c_L_whole := ok_L_whole (P := l.prog) (w := w) (base := base) T d_L_whole
  have c_L_shows := ok_L_shows (P := l.prog) (w := w) (base := base) T d_L_shows c_L_whole c_L_places
  have c_L_cell_at := ok_L_cell_at (P := l.prog) (w := w) (base := base) T d_L_cell_at
  have c_L_rows := ok_L_rows (P := l.prog) (w := w) (base := base) T d_L_rows
  have c_L_wrong := ok_L_wrong (P := l.prog) (w := w) (base := base) T d_L_wrong c_L_rows c_L_places
  have c_L_can := ok_L_can (P := l.prog) (w := w) (base := base) T d_L_can c_L_wrong
  have c_is_row_paper := ok_is_row_paper (P := l.prog) (w := w) (base := base) T d_is_row_paper c_is_between c_row_places
  have c_is_blank := ok_is_blank (P := l.prog) (w := w) (base := base) T d_is_blank c_is_between
  have c_good_paper := ok_good_paper (P := l.prog) (w := w) (base := base) T d_good_paper c_is_row_paper c_is_blank c_with_hue
  have c_is_paper := ok_is_paper (P := l.prog) (w := w) (base := base) T d_is_paper c_need_draft c_good_paper
  exact ok_law T Fl c_L_pen c_L_cell_at c_L_few c_L_knot c_L_can c_paper_for c_L_shows c_is_paper
end Ev

namespace Ev
open PySem (Str PyData)
/-! ### is_strip -/
def btw (d : D) (a b : Int) : Bool := match d with
  | .int i => decide (a ≤ i) && decide (i ≤ b)
  | _ => false
theorem is_whole_eq {d : D} (h : d.kn) : D_is_whole [d] = pure (.bl (match d with | .int _ => true | _ => false)) := by
  rw [D_is_whole_eq]
  unfold B_is_whole
  cases d <;> first | exact h.elim | rfl
theorem is_between_eq {d : D} (h : d.kn) (a b : Int) : D_is_between [d, .int a, .int b] = pure (.bl (btw d a b)) := by
  rw [D_is_between_eq]
  unfold B_is_between
  simp [-bind_pure_comp, is_whole_eq h]
  cases d with
  | int i =>
    by_cases h1 : a ≤ i
    · simp [-bind_pure_comp, btw, h1]
    · simp [-bind_pure_comp, btw, h1]
  | _ => simp [-bind_pure_comp, btw]
def isStrip : D → Bool
  | .tup xs => decide (xs.length ≤ 40) && xs.all fun x => btw x 0 3
  | _ => false
theorem isStrip_ti {l : List Int} (h : l.length ≤ 40) (hb : ∀ x ∈ l, 0 ≤ x ∧ x < 4) : isStrip (ti l) = true := by
  unfold ti isStrip
  simp [h, btw]
  exact fun x hx => ⟨(hb x hx).1, by have := (hb x hx).2; omega⟩
theorem pen_sat (n : Int) : Sat (D_L_pen [.int n]) (fun d => ∃ xs, d = .lst xs ∧ penOk false xs) := by
  rw [D_L_pen_eq]
  unfold B_L_pen
  have p1 : D.pow (.int 10) (.int 18) = pure (.int (10 ^ 18)) := pow_ok (by decide)
  simp [-bind_pure_comp, p1]
  rw [mul_ok (.inr (by constructor <;> split <;> omega)), mod_ok (by decide)]
  simp [-bind_pure_comp]
  have h0 : 0 ≤ max n (-n) := by omega
  refine Sat.pur ⟨_, rfl, _, _, rfl, ?_, Int.emod_nonneg _ (by decide), Int.emod_lt_of_pos _ (by decide)⟩
  split
  · omega
  · omega
theorem cell_sat (ns : List Int) {k : Int} (h : 0 ≤ k) : ∃ n : Int, D_L_cell_at [.scr ns, .int k] = pure (.int n) := by
  rw [D_L_cell_at_eq]
  unfold B_L_cell_at
  by_cases e : k < ns.length
  · exact ⟨ns[k.toNat], by simp [-bind_pure_comp, e, ix_scr h e]⟩
  · refine ⟨0, ?_⟩
    simp [-bind_pure_comp, e]
/-! ### rows -/
def Dr (p : Nat × Nat) : D := .tup [.int p.1, .int p.2]
def rowsAt (n s f : Nat) : List (Nat × Nat) := (List.range ((n - 1 - f) / (s - 1))).map fun k => (f, k + 1)
def rowsTo (n s i : Nat) : List (Nat × Nat) := (List.range i).flatMap (rowsAt n s)
def rowsL (n s : Nat) : List (Nat × Nat) := rowsTo n s n
theorem rowsTo_succ (n s i : Nat) : rowsTo n s (i + 1) = rowsTo n s i ++ rowsAt n s i := by
  unfold rowsTo
  rw [List.range_succ, List.flatMap_append]
  simp
theorem rowsAt_len (n s f : Nat) : (rowsAt n s f).length ≤ n := by
  unfold rowsAt
  rw [List.length_map, List.length_range]
  exact Nat.le_trans (Nat.div_le_self _ _) (by omega)
theorem rowsTo_len (n s : Nat) : ∀ i : Nat, (rowsTo n s i).length ≤ i * n
  | 0 => Nat.zero_le _
  | i + 1 => by
    rw [rowsTo_succ, List.length_append, Nat.succ_mul]
    exact Nat.add_le_add (rowsTo_len n s i) (rowsAt_len n s i)
theorem rowsTo_small {n : Nat} (s : Nat) {i : Nat} (hn : n ≤ 1000) (hi : i ≤ n) : (rowsTo n s i).length ≤ 1000000 :=
  Nat.le_trans (rowsTo_len n s i) (Nat.le_trans (Nat.mul_le_mul hi (Nat.le_refl n)) (Nat.mul_le_mul hn hn))
theorem rows_in {n s : Nat} {p : Nat × Nat} (hs : 2 ≤ s) (h : p ∈ rowsL n s) : p.1 + (s - 1) * p.2 < n ∧ 1 ≤ p.2 := by
  unfold rowsL rowsTo at h
  rw [List.mem_flatMap] at h
  obtain ⟨f, hf, h⟩ := h
  rw [List.mem_range] at hf
  unfold rowsAt at h
  rw [List.mem_map] at h
  obtain ⟨k, hk, rfl⟩ := h
  rw [List.mem_range] at hk
  have : (k + 1) * (s - 1) ≤ n - 1 - f := (Nat.le_div_iff_mul_le (by omega)).mp hk
  rw [Nat.mul_comm] at this
  exact ⟨by show f + (s - 1) * (k + 1) < n; omega, Nat.succ_pos k⟩
theorem rowsAt_map (n s f : Nat) : (rowsAt n s f).map Dr = (List.range ((n - 1 - f) / (s - 1))).map fun k : Nat => D.tup [.int f, .int (1 + k)] := by
  unfold rowsAt
  rw [List.map_map]
  apply List.map_congr_left
  intro k _
  show D.tup [.int f, .int ((k + 1 : Nat) : Int)] = _
  rw [show ((k + 1 : Nat) : Int) = 1 + (k : Int) by omega]
theorem lying_rows_eq {n s : Nat} (hn : n ≤ 1000) (hs : 2 ≤ s) (hs2 : s ≤ 1000) : D_lying_rows [.int n, .int s] = pure (.lst ((rowsL n s).map Dr)) := by
  rw [D_lying_rows_eq]
  unfold B_lying_rows
  simp [-bind_pure_comp]
  rw [range1_ok (by omega) (by omega), pure_bind, forM_rng0 (s := ([] : List D)) (fun i => (rowsTo n s i).map Dr) rfl fun i hi => ?_]
  · rfl
  · have e : ((n : Int) - 1 - i) / ((s : Int) - 1) = (((n - 1 - i) / (s - 1) : Nat) : Int) := by
      rw [Int.natCast_ediv, show ((n - 1 - i : Nat) : Int) = (n : Int) - 1 - i by omega, show ((s - 1 : Nat) : Int) = (s : Int) - 1 by omega]
    have hw : (n - 1 - i) / (s - 1) ≤ n := Nat.le_trans (Nat.div_le_self _ _) (by omega)
    rw [sub_int, pure_bind, fdiv_ok (j := (s : Int) - 1) (by omega) (by omega), e]
    generalize hq : (n - 1 - i) / (s - 1) = q at hw ⊢
    simp [-bind_pure_comp]
    rw [range2_ok ⟨by omega, by omega⟩ ⟨by omega, by omega⟩, lcF_rng (fun k => .tup [.int i, .int k]) (by omega) fun k _ _ => rfl]
    simp [-bind_pure_comp]
    rw [grd_line, rowsTo_succ, List.map_append, rowsAt_map, hq]
    have h1 := rowsTo_small s hn (show i ≤ n by omega)
    omega
/-- the places of a row -/
def places (p : Nat × Nat) (s : Nat) : List Int := (List.range s).map fun k => ((p.1 + k * p.2 : Nat) : Int)
theorem places_len (p : Nat × Nat) (s : Nat) : (places p s).length = s := by
  unfold places
  rw [List.length_map, List.length_range]
theorem ix_Dr0 (p : Nat × Nat) : D.ix (Dr p) (.int 0) = pure (.int p.1) := rfl
theorem ix_Dr1 (p : Nat × Nat) : D.ix (Dr p) (.int 1) = pure (.int p.2) := rfl
theorem row_places_eq (p : Nat × Nat) {s : Nat} (hs : s ≤ 1000) : D_row_places [Dr p, .int s] = pure (ti (places p s)) := by
  rw [D_row_places_eq]
  unfold B_row_places
  simp [-bind_pure_comp, ix_Dr0, ix_Dr1]
  rw [range1_ok (by omega) (by omega), lcF_rng0 (fun k => .int ((p.1 + k * p.2 : Nat) : Int)) (by omega) fun k hk => ?_]
  · simp [-bind_pure_comp, ti, places]
    rfl
  · rw [mul_ok (.inl ⟨by omega, by omega⟩)]
    simp
theorem places_lt {n s : Nat} {p : Nat × Nat} (h : p.1 + (s - 1) * p.2 < n) {k : Nat} (hk : k < s) : p.1 + k * p.2 < n :=
  Nat.lt_of_le_of_lt (Nat.add_le_add_left (Nat.mul_le_mul_right _ (by omega)) _) h
theorem L_rows_eq {n s : Nat} (hn : n ≤ 1000) (hs : 2 ≤ s) (hs2 : s ≤ 1000) : D_L_rows [.int n, .int s] = pure (.lst ((rowsL n s).map Dr)) := by
  rw [D_L_rows_eq]
  unfold B_L_rows
  simp [-bind_pure_comp]
  rw [range1_ok (by omega) (by omega), pure_bind, forM_rng0 (s := ([] : List D)) (fun i => (rowsTo n s i).map Dr) rfl fun i hi => ?_]
  · rfl
  · have h1 := rowsTo_small s hn (show i ≤ n by omega)
    let f : Nat → Bool := fun j => decide (i + (s - 1) * (j + 1) < n)
    rw [range2_ok ⟨by omega, by omega⟩ ⟨by omega, by omega⟩, pure_bind, forM_rng (fun j => (rowsTo n s i).map Dr ++ ((List.range j).filter f).map fun j => Dr (i, j + 1)) (by simp) fun j hj => ?_]
    · have key : (List.range ((n : Int) - 1).toNat).filter f = List.range ((n - 1 - i) / (s - 1)) := by
        refine filter_lt ?_ fun j hj => ?_
        · exact Nat.le_trans (Nat.div_le_self _ _) (by omega)
        · rw [decide_eq_true_iff]
          have : j < (n - 1 - i) / (s - 1) ↔ (j + 1) * (s - 1) ≤ n - 1 - i := Nat.le_div_iff_mul_le (by omega)
          rw [this, Nat.mul_comm]
          omega
      rw [key, rowsTo_succ, List.map_append]
      simp only [rowsAt, List.map_map]
      rfl
    · have e : (s : Int) - 1 = ((s - 1 : Nat) : Int) := by omega
      have e2 : (1 : Int) + (j : Int) = ((j + 1 : Nat) : Int) := by omega
      rw [mul_ok (.inl ⟨by omega, by omega⟩), e, e2, ← Int.natCast_mul]
      simp only [pure_bind, add_int, ← Int.natCast_add, lt_int, isB_bl, Int.ofNat_lt]
      rw [List.range_succ, List.filter_append]
      have hfl : ((List.range j).filter f).length ≤ j := by
        have := List.length_filter_le f (List.range j)
        rw [List.length_range] at this
        exact this
      by_cases c : i + (s - 1) * (j + 1) < n
      · have fj : f j = true := decide_eq_true c
        rw [List.filter_cons_of_pos fj, List.filter_nil, decide_eq_true c, if_pos rfl, grd_line' (by simp only [List.length_append, List.length_map]; omega)]
        simp [Dr]
      · have fj : ¬ f j = true := by simp [f]; omega
        rw [List.filter_cons_of_neg fj, List.filter_nil, decide_eq_false c, if_neg (by decide)]
        simp
theorem L_places_eq (p : Nat × Nat) {s : Nat} (hs : s ≤ 1000) : D_L_places [Dr p, .int s] = pure (li (places p s)) := by
  rw [D_L_places_eq]
  unfold B_L_places
  simp [-bind_pure_comp, ix_Dr0, ix_Dr1]
  rw [range1_ok (by omega) (by omega), lcF_rng0 (fun k => .int ((p.1 + k * p.2 : Nat) : Int)) (by omega) fun k hk => ?_]
  · simp [-bind_pure_comp, li, places]
    rfl
  · rw [mul_ok (.inl ⟨by omega, by omega⟩)]
    simp
/-! ### sizes, what fits -/
def tn (l : List Nat) : D := .tup (l.map fun k : Nat => .int k)
theorem tn_ti (l : List Nat) : tn l = ti (l.map fun k : Nat => (k : Int)) := by
  unfold tn ti
  rw [List.map_map]
  rfl
def hasB (l : List Int) (s : Nat) (h : Int) (p : Nat × Nat) : Bool := (List.range s).all fun k => decide (l.getD (p.1 + k * p.2) 0 = h)
theorem has_hue_eq {l : List Int} {s : Nat} {p : Nat × Nat} (h : Int) (hs2 : s ≤ 1000) (hp : p.1 + (s - 1) * p.2 < l.length) : D_has_hue [ti l, Dr p, .int s, .int h] = pure (.bl (hasB l s h p)) := by
  rw [D_has_hue_eq]
  unfold B_has_hue
  simp [-bind_pure_comp, row_places_eq p hs2]
  rw [show itemsL (ti (places p s)) = pure ((places p s).map D.int) from rfl]
  unfold places
  rw [List.map_map, lcF_map1 (fun d => match d with | .int i => .bl (decide (l.getD i.toNat 0 = h)) | _ => d) (by rw [List.length_map, List.length_range]; omega) fun x hx => ?_]
  · rw [pure_bind, List.map_map]
    rw [show ((fun d => match d with | D.int i => D.bl (decide (l.getD i.toNat 0 = h)) | x => d) ∘ D.int ∘ fun k : Nat => ((p.1 + k * p.2 : Nat) : Int)) = fun k : Nat => D.bl (decide (l.getD (p.1 + k * p.2) 0 = h)) from ?_, all_map]
    · simp [hasB]
    · funext k
      simp only [Function.comp, Int.toNat_natCast]
  · obtain ⟨k, hk, rfl⟩ := List.mem_map.mp hx
    rw [List.mem_range] at hk
    simp only [Function.comp]
    rw [ix_at (places_lt hp hk)]
    simp only [pure_bind, eqA_int, Int.toNat_natCast]
/-- the rows of one hue, hue by hue -/
def wrongAt (sz : List Nat) (l : List Int) (h : Nat) : List (Nat × Nat) := (rowsL l.length (sz.getD h 0)).filter (hasB l (sz.getD h 0) h)
def wrongTo (sz : List Nat) (l : List Int) (i : Nat) : List (Nat × Nat) := (List.range i).flatMap (wrongAt sz l)
def pairI (p : Nat × Nat) : List Int := [(p.1 : Int), (p.2 : Int)]
def wrongS (sz : List Nat) (l : List Int) : List (List Int) := sortI ((wrongTo sz l sz.length).map pairI)
theorem wrongTo_succ (sz : List Nat) (l : List Int) (i : Nat) : wrongTo sz l (i + 1) = wrongTo sz l i ++ wrongAt sz l i := by
  unfold wrongTo
  rw [List.range_succ, List.flatMap_append]
  simp
theorem wrongAt_len {sz : List Nat} {l : List Int} (h : Nat) (hl : l.length ≤ 100) : (wrongAt sz l h).length ≤ 10000 := by
  refine Nat.le_trans (List.length_filter_le _ _) (Nat.le_trans (rowsTo_len _ _ _) ?_)
  exact Nat.mul_le_mul hl hl
theorem wrongTo_len {sz : List Nat} {l : List Int} (hl : l.length ≤ 100) : ∀ i : Nat, (wrongTo sz l i).length ≤ i * 10000
  | 0 => Nat.zero_le _
  | i + 1 => by
    rw [wrongTo_succ, List.length_append, Nat.succ_mul]
    exact Nat.add_le_add (wrongTo_len hl i) (wrongAt_len i hl)
theorem sortT_Dr (rs : List (Nat × Nat)) : D.sortT (.lst (rs.map Dr)) = pure ((sortI (rs.map pairI)).map ti) := by
  have e : numsL (rs.map Dr) = some (rs.map pairI) := by
    induction rs with
    | nil => rfl
    | cons p r ih =>
      rw [List.map_cons, numsL, ih]
      rfl
  show (ofO (numsL _) >>= _) = _
  rw [e]
  show (guard _ >>= fun _ => _) = _
  rw [guard_bind]
  · rfl
  · right
    intro l hl
    obtain ⟨p, _, rfl⟩ := List.mem_map.mp hl
    exact List.cons_ne_nil _ _
/-- sizes as they should be -/
structure Szs (sz : List Nat) : Prop where
  pos : 1 ≤ sz.length
  few : sz.length ≤ 4
  ge : ∀ s ∈ sz, 2 ≤ s
  le : ∀ s ∈ sz, s ≤ 8
theorem Szs.at {sz : List Nat} (z : Szs sz) {h : Nat} (hh : h < sz.length) : 2 ≤ sz.getD h 0 ∧ sz.getD h 0 ≤ 8 := by
  rw [List.getD_eq_getElem?_getD, List.getElem?_eq_getElem hh]
  exact ⟨z.ge _ (List.getElem_mem hh), z.le _ (List.getElem_mem hh)⟩
theorem tn_get {sz : List Nat} {i : Nat} {x : D} (h : (sz.map fun k : Nat => D.int k)[i]? = some x) : i < sz.length ∧ x = .int (sz.getD i 0 : Nat) := by
  rw [List.getElem?_map, Option.map_eq_some_iff] at h
  obtain ⟨k, e, rfl⟩ := h
  refine ⟨(List.getElem?_eq_some_iff.mp e).1, ?_⟩
  rw [List.getD_eq_getElem?_getD, e]
  rfl
theorem len_ti (l : List Int) : D.len (ti l) = pure (.int l.length) := by unfold ti; simp
theorem len_tn (l : List Nat) : D.len (tn l) = pure (.int l.length) := by unfold tn; simp
theorem lying_has_eq {sz : List Nat} {l : List Int} (z : Szs sz) (hl : l.length ≤ 100) {i : Nat} (hi : i < sz.length) :
    lcF (pure ((rowsL l.length (sz.getD i 0)).map Dr)) tg1 (fun v_row => D_has_hue [ti l, v_row, .int (sz.getD i 0 : Nat), .int i] >>= isB) (fun v_row => pure v_row) = pure ((wrongAt sz l i).map Dr) := by
  obtain ⟨s2, s8⟩ := z.at hi
  have hb := rowsTo_small (sz.getD i 0) (show l.length ≤ 1000 by omega) (Nat.le_refl l.length)
  rw [lcF_eq1 (fun d => match d with | .tup [.int a, .int b] => hasB l (sz.getD i 0) i (a.toNat, b.toNat) | _ => false) (fun x => x) (by rw [List.length_map]; unfold rowsL; omega) (fun x hx => ?_) fun x _ _ => rfl]
  · rw [List.map_id', List.filter_map]
    rfl
  · obtain ⟨p, hp, rfl⟩ := List.mem_map.mp hx
    rw [has_hue_eq i (by omega) (rows_in s2 hp).1]
    rfl
theorem wrong_rows_eq {sz : List Nat} {l : List Int} (z : Szs sz) (hl : l.length ≤ 100) : D_wrong_rows [tn sz, ti l] = pure (lti (wrongS sz l)) := by
  rw [D_wrong_rows_eq]
  unfold B_wrong_rows
  simp [-bind_pure_comp]
  unfold tn
  rw [enumM_tup, pure_bind, forM_enum (s := ([] : List D)) (fun i => (wrongTo sz l i).map Dr) rfl fun i x hx => ?_]
  · rw [List.length_map]
    simp [-bind_pure_comp, sortT_Dr]
    rfl
  · obtain ⟨hi, rfl⟩ := tn_get hx
    obtain ⟨s2, s8⟩ := z.at hi
    rw [un2_two, pure_bind]
    simp only [len_ti, pure_bind]
    rw [lying_rows_eq (show l.length ≤ 1000 by omega) s2 (by omega), pure_bind, items_lst, lying_has_eq z hl hi]
    have h1 := wrongTo_len (sz := sz) hl i
    have h2 := wrongAt_len (sz := sz) i hl
    have h3 := z.few
    simp only [pure_bind, asL_lst]
    rw [grd_line (by rw [List.length_map, List.length_map]; omega), wrongTo_succ, List.map_append]
/-- the places whose hues have no size -/
def strange (n : Nat) (l : List Int) : List Int := ((List.range l.length).filter fun i => decide ((n : Int) ≤ l.getD i 0)).map fun i : Nat => (i : Int)
theorem ti_get {l : List Int} {i : Nat} {x : D} (h : (l.map D.int)[i]? = some x) : i < l.length ∧ x = .int (l.getD i 0) := by
  rw [List.getElem?_map, Option.map_eq_some_iff] at h
  obtain ⟨k, e, rfl⟩ := h
  refine ⟨(List.getElem?_eq_some_iff.mp e).1, ?_⟩
  rw [List.getD_eq_getElem?_getD, e]
  rfl
theorem strange_list (n : Nat) (l : List Int) : ((List.range l.length).filter fun i => decide ((n : Int) ≤ l.getD i 0)).map (fun i : Nat => D.int i) = (strange n l).map D.int := by
  unfold strange
  rw [List.map_map]
  rfl
def areB : D → Bool
  | .tup xs => decide (1 ≤ xs.length) && decide (xs.length ≤ 4) && xs.all fun x => btw x 2 8
  | _ => false
theorem are_sizes_eq {d : D} (h : d.plain true = true) : D_are_sizes [d] = pure (.bl (areB d)) := by
  rw [D_are_sizes_eq]
  unfold B_are_sizes
  cases d with
  | tup xs =>
    have hk : ∀ x ∈ xs, x.kn := fun x hx => kn_of_plain (plains_mem (by simpa [D.plain] using h) x hx)
    by_cases e1 : 1 ≤ xs.length
    · by_cases e : xs.length ≤ 4
      · have e2 : (xs.length : Int) ≤ 4 := by omega
        have e3 : (1 : Int) ≤ xs.length := by omega
        simp [-bind_pure_comp, e2, e3]
        rw [lcF_map1 (fun x => .bl (btw x 2 8)) (by omega) (fun x hx => by simp [-bind_pure_comp, is_between_eq (hk x hx)])]
        simp [-bind_pure_comp, all_map, e1, e, areB]
      · have e2 : ¬ (xs.length : Int) ≤ 4 := by omega
        have e3 : (1 : Int) ≤ xs.length := by omega
        simp [-bind_pure_comp, e2, e3, e, areB]
    · have e3 : ¬ (1 : Int) ≤ xs.length := by omega
      simp [-bind_pure_comp, e3, e1, areB]
  | _ => first | (simp [D.plain] at h; done) | simp [-bind_pure_comp, areB]
theorem plain_tn (k : Bool) (l : List Nat) : (tn l).plain k = true := by
  rw [tn_ti]
  exact plain_ti k _
theorem need_sizes_eq {sz : List Nat} (z : Szs sz) : D_need_sizes [tn sz] = pure .non := by
  rw [D_need_sizes_eq]
  unfold B_need_sizes
  have e : ((sz.map fun k : Nat => D.int k).all fun x => btw x 2 8) = true := by
    rw [List.all_map, List.all_eq_true]
    intro s hs
    have a := z.ge s hs
    have b := z.le s hs
    simp [btw]
    omega
  have e0 : areB (tn sz) = true := by
    unfold areB tn
    simp only [List.length_map, e, decide_eq_true z.pos, decide_eq_true z.few]
    rfl
  simp [-bind_pure_comp, are_sizes_eq (plain_tn true sz), e0]
theorem neA_lti_nil (a : List (List Int)) : D.neA (lti a) (.lst []) = pure (.bl (!decide (a = []))) := neA_lti a []
theorem eqA_lti_nil (a : List (List Int)) : D.eqA (lti a) (.lst []) = pure (.bl (decide (a = []))) := eqA_lti a []
theorem neA_li_nil (a : List Int) : D.neA (li a) (.lst []) = pure (.bl (!decide (a = []))) := neA_li a []
theorem eqA_li_nil (a : List Int) : D.eqA (li a) (.lst []) = pure (.bl (decide (a = []))) := eqA_li a []
def fitB (sz : List Nat) (l : List Int) : Bool := decide (strange sz.length l = []) && decide (wrongS sz l = [])
/-- found, as a list or a tuple -/
theorem L_ended_ok {sz : List Nat} {l : List Int} (z : Szs sz) {h : Int} (h0 : 0 ≤ h) (h1 : h < sz.length) (hl : l.length ≤ 1000) {f : D} (hf : f = .lst (l.map D.int) ∨ f = ti l) : ∃ b, D_L_ended [tn sz, f, .int h] = pure (.bl b) := by
  have hfl : D.len f = pure (.int l.length) := by rcases hf with rfl | rfl <;> simp [ti]
  have hfx : ∀ i : Nat, i < l.length → D.ix f (.int i) = pure (.int (l.getD i 0)) := fun i hi => by
    rcases hf with rfl | rfl
    · exact ix_atl hi
    · exact ix_at hi
  obtain ⟨k, rfl⟩ : ∃ k : Nat, h = k := ⟨h.toNat, by omega⟩
  have hk : k < sz.length := by omega
  obtain ⟨s2, s8⟩ := z.at hk
  have hs : D.ix (tn sz) (.int k) = pure (.int (sz.getD k 0 : Nat)) := by
    rw [tn_ti, ix_at (by rw [List.length_map]; exact hk)]
    congr 2
    simp [List.getD_eq_getElem?_getD, hk]
  rw [D_L_ended_eq]
  unfold B_L_ended
  simp only [hfl, hs, callM_def, seqL_cons, seqL_nil, pure_bind, f1_one, bin_def, parM_two]
  simp [-bind_pure_comp, -List.getD_eq_getElem?_getD]
  have e : (l.length : Int) / ((sz.getD k 0 : Nat) - 1 : Int) = ((l.length / (sz.getD k 0 - 1) : Nat) : Int) := by
    rw [Int.natCast_ediv, show ((sz.getD k 0 - 1 : Nat) : Int) = (sz.getD k 0 : Int) - 1 by omega]
  have hsk : sz[k]?.getD 0 = sz.getD k 0 := by rw [List.getD_eq_getElem?_getD]
  rw [fdiv_ok (by omega) (by omega), e]
  have hw : l.length / (sz.getD k 0 - 1) ≤ l.length := Nat.div_le_self _ _
  generalize hq : l.length / (sz.getD k 0 - 1) = q at hw
  simp [-bind_pure_comp, -List.getD_eq_getElem?_getD]
  rw [range2_ok ⟨by omega, by omega⟩ ⟨by omega, by omega⟩, pure_bind]
  let p : D → Bool := fun d => match d with
    | .int st => decide (((List.range ((sz.getD k 0 : Nat) - 1 : Int).toNat).filter fun j : Nat => !decide (l.getD ((l.length : Int) - (1 + (j : Int)) * st).toNat 0 = (k : Int))) = [])
    | _ => false
  rw [forM_any (p := p) (d := .bl true) fun x hx s => ?_]
  · by_cases c : (rangeL 1 ((q : Int) + 1)).any p = true
    · exact .inr (by rw [if_pos c]; simp)
    · exact .inl (by rw [if_neg c]; simp)
  · obtain ⟨st, rfl, t0, t1⟩ := rangeL_mem.mp hx
    rw [range2_ok ⟨by omega, by omega⟩ ⟨by omega, by omega⟩]
    have hin : ∀ j : Nat, j < ((sz.getD k 0 : Nat) - 1 : Int).toNat → 0 ≤ (l.length : Int) - (1 + (j : Int)) * st ∧ (l.length : Int) - (1 + (j : Int)) * st < l.length := fun j hj => by
      have a1 : (1 + (j : Int)) * st ≤ ((sz.getD k 0 : Nat) - 1 : Int) * q := Int.mul_le_mul (by omega) (by omega) (by omega) (by omega)
      have a2 : (sz.getD k 0 - 1) * (l.length / (sz.getD k 0 - 1)) ≤ l.length := Nat.mul_div_le _ _
      rw [hq] at a2
      have a3 : ((sz.getD k 0 : Nat) - 1 : Int) * q = (((sz.getD k 0 - 1) * q : Nat) : Int) := by
        rw [Int.natCast_mul, show ((sz.getD k 0 - 1 : Nat) : Int) = (sz.getD k 0 : Int) - 1 by omega]
      have a4 : 1 * 1 ≤ (1 + (j : Int)) * st := Int.mul_le_mul (by omega) (by omega) (by omega) (by omega)
      omega
    rw [lcF_eq1 (fun d => match d with | .int i => !decide (l.getD ((l.length : Int) - i * st).toNat 0 = (k : Int)) | _ => false) (fun x => x) (by rw [rangeL_length]; omega) (fun x hx => ?_) fun x _ _ => rfl]
    · rw [pure_bind, List.map_id']
      unfold rangeL
      rw [List.filter_map]
      have e5 : ∀ xs : List Nat, D.eqA (.lst (xs.map fun i : Nat => D.int (1 + (i : Int)))) (.lst []) = pure (.bl (decide (xs = []))) := fun xs => by
        have := eqA_li (xs.map fun i : Nat => 1 + (i : Int)) []
        unfold li at this
        rw [List.map_map] at this
        rw [show (D.int ∘ fun i : Nat => 1 + (i : Int)) = fun i : Nat => D.int (1 + (i : Int)) from rfl] at this
        rw [List.map_nil] at this
        rw [this]
        congr 2
        rw [Bool.eq_iff_iff, decide_eq_true_iff, decide_eq_true_iff, List.map_eq_nil_iff]
      rw [e5, pure_bind, isB_bl, pure_bind]
      rfl
    · obtain ⟨i, rfl, i0, i1⟩ := rangeL_mem.mp hx
      obtain ⟨a, b⟩ := hin (i - 1).toNat (by omega)
      rw [show 1 + (((i - 1).toNat : Nat) : Int) = i by omega] at a b
      rw [mul_ok (.inl ⟨by omega, by omega⟩)]
      simp only [pure_bind, sub_int]
      have e6 := hfx ((l.length : Int) - i * st).toNat (by omega)
      rw [show ((((l.length : Int) - i * st).toNat : Nat) : Int) = (l.length : Int) - i * st by omega] at e6
      rw [e6]
      simp only [pure_bind, neA_int, isB_bl]
theorem L_wrong_eq {sz : List Nat} {l : List Int} (z : Szs sz) (hl : l.length ≤ 100) : D_L_wrong [tn sz, ti l] = pure (lti (wrongS sz l)) := by
  rw [D_L_wrong_eq]
  unfold B_L_wrong
  simp [-bind_pure_comp]
  unfold tn
  rw [enumM_tup, pure_bind, forM_enum (s := ([] : List D)) (fun i => (wrongTo sz l i).map Dr) rfl fun i x hx => ?_]
  · rw [List.length_map]
    simp [-bind_pure_comp, sortT_Dr]
    rfl
  · obtain ⟨hi, rfl⟩ := tn_get hx
    obtain ⟨s2, s8⟩ := z.at hi
    rw [un2_two, pure_bind]
    simp only [len_ti, pure_bind]
    rw [L_rows_eq (show l.length ≤ 1000 by omega) s2 (by omega), pure_bind, items_lst, pure_bind]
    have h1 := wrongTo_len (sz := sz) hl i
    have h3 := z.few
    have hr := rowsTo_len l.length (sz.getD i 0) l.length
    have hr2 : l.length * l.length ≤ 100 * 100 := Nat.mul_le_mul hl hl
    rw [forM_run (s := (wrongTo sz l i).map Dr) (fun j => (wrongTo sz l i).map Dr ++ (((rowsL l.length (sz.getD i 0)).take j).filter (hasB l (sz.getD i 0) i)).map Dr) (by simp) fun j x hx => ?_]
    · rw [List.length_map, List.take_length]
      simp only [seqM_nx]
      rw [wrongTo_succ, List.map_append]
      rfl
    · rw [List.getElem?_map, Option.map_eq_some_iff] at hx
      obtain ⟨p, hp, rfl⟩ := hx
      have hpm : p ∈ rowsL l.length (sz.getD i 0) := List.mem_of_getElem? hp
      have hin := (rows_in s2 hpm).1
      have htk : (rowsL l.length (sz.getD i 0)).take (j + 1) = (rowsL l.length (sz.getD i 0)).take j ++ [p] := by rw [List.take_add_one, hp]; rfl
      have hv : lcF (D_L_places [Dr p, .int (sz.getD i 0 : Nat)] >>= itemsL) tg1 (fun l_place => (ti l).ix l_place >>= fun x => x.neA (.int i) >>= isB) (fun l_place => pure l_place) = pure (((places p (sz.getD i 0)).filter fun a => !decide (l.getD a.toNat 0 = i)).map D.int) := by
        rw [L_places_eq p (by omega), pure_bind, show itemsL (li (places p (sz.getD i 0))) = pure ((places p (sz.getD i 0)).map D.int) from rfl]
        rw [lcF_eq1 (fun d => match d with | .int a => !decide (l.getD a.toNat 0 = i) | _ => false) (fun x => x) (by rw [List.length_map, places_len]; omega) (fun x hx => ?_) fun x _ _ => rfl]
        · rw [List.map_id', List.filter_map]
          rfl
        · obtain ⟨a, ha, rfl⟩ := List.mem_map.mp hx
          unfold places at ha
          obtain ⟨k, hk, rfl⟩ := List.mem_map.mp ha
          rw [List.mem_range] at hk
          rw [ix_at (places_lt hin hk)]
          simp only [pure_bind, neA_int, isB_bl, Int.toNat_natCast]
      have hd : decide (((places p (sz.getD i 0)).filter fun a => !decide (l.getD a.toNat 0 = i)) = []) = hasB l (sz.getD i 0) i p := by
        rw [Bool.eq_iff_iff, decide_eq_true_iff, List.filter_eq_nil_iff]
        unfold hasB places
        rw [List.all_eq_true]
        constructor
        · intro h k hk
          have h5 := h _ (List.mem_map.mpr ⟨k, hk, rfl⟩)
          simp only [Int.toNat_natCast] at h5
          cases c : decide (l.getD (p.1 + k * p.2) 0 = (i : Int)) with
          | true => rfl
          | false => rw [c] at h5; exact absurd rfl h5
        · intro h a ha
          obtain ⟨k, hk, rfl⟩ := List.mem_map.mp ha
          simp only [Int.toNat_natCast, h k hk]
          decide
      simp only [hv, pure_bind]
      rw [show D.eqA (.lst (((places p (sz.getD i 0)).filter fun a => !decide (l.getD a.toNat 0 = i)).map D.int)) (.lst []) = pure (.bl (decide (((places p (sz.getD i 0)).filter fun a => !decide (l.getD a.toNat 0 = i)) = []))) from eqA_li _ []]
      rw [pure_bind, isB_bl, pure_bind, hd, htk, List.filter_append]
      have hsm : ((((rowsL l.length (sz.getD i 0)).take j).filter (hasB l (sz.getD i 0) i))).length ≤ 10000 := by
        refine Nat.le_trans (List.length_filter_le _ _) ?_
        rw [List.length_take]
        unfold rowsL
        omega
      by_cases c : hasB l (sz.getD i 0) i p = true
      · rw [if_pos c, List.filter_cons_of_pos c, grd_line' (by rw [List.length_append, List.length_map, List.length_map]; omega)]
        simp
      · rw [if_neg c, List.filter_cons_of_neg c]
        simp
/-! ### drafts -/
def isDraft (n : Nat) : D → Bool
  | .tup xs => decide (xs.length ≤ 40) && xs.all fun x => btw x (-1) ((n : Int) - 1)
  | _ => false
theorem good_draft_eq {sz : List Nat} {d : D} (h : d.plain true = true) : D_good_draft [tn sz, d] = pure (.bl (isDraft sz.length d)) := by
  rw [D_good_draft_eq]
  unfold B_good_draft
  cases d with
  | tup xs =>
    have hk : ∀ x ∈ xs, x.kn := fun x hx => kn_of_plain (plains_mem (by simpa [D.plain] using h) x hx)
    by_cases e : xs.length ≤ 40
    · have e2 : ¬ (40 : Int) < xs.length := by omega
      simp [-bind_pure_comp, e2, len_tn]
      rw [lcF_map1 (fun x => .bl (btw x (-1) ((sz.length : Int) - 1))) (by omega) (fun x hx => by simp [-bind_pure_comp, is_between_eq (hk x hx)])]
      simp [-bind_pure_comp, all_map, isDraft, e]
    · have e2 : (40 : Int) < xs.length := by omega
      simp [-bind_pure_comp, e2, isDraft, e]
  | _ => first | (simp [D.plain] at h; done) | simp [-bind_pure_comp, isDraft]
theorem isDraft_ti {n : Nat} {q : List Int} (hl : q.length ≤ 40) (hb : ∀ x ∈ q, -1 ≤ x ∧ x < n) : isDraft n (ti q) = true := by
  unfold ti isDraft
  simp [hl, btw]
  exact fun x hx => ⟨(hb x hx).1, by have := (hb x hx).2; omega⟩
theorem need_draft_eq {sz : List Nat} (z : Szs sz) {q : List Int} (hl : q.length ≤ 40) (hb : ∀ x ∈ q, -1 ≤ x ∧ x < sz.length) : D_need_draft [tn sz, ti q] = pure .non := by
  rw [D_need_draft_eq]
  unfold B_need_draft
  simp [-bind_pure_comp, need_sizes_eq z, good_draft_eq (plain_ti true q), isDraft_ti hl hb]
/-! ### rows through a place -/
theorem rows_mem {n s : Nat} (hs : 2 ≤ s) {p : Nat × Nat} : p ∈ rowsL n s ↔ p.1 + (s - 1) * p.2 < n ∧ 1 ≤ p.2 := by
  constructor
  · exact rows_in hs
  · rintro ⟨h1, h2⟩
    unfold rowsL rowsTo
    rw [List.mem_flatMap]
    refine ⟨p.1, List.mem_range.mpr (by omega), ?_⟩
    unfold rowsAt
    rw [List.mem_map]
    refine ⟨p.2 - 1, List.mem_range.mpr ?_, ?_⟩
    · have : p.2 ≤ (n - 1 - p.1) / (s - 1) := (Nat.le_div_iff_mul_le (by omega)).mpr (by rw [Nat.mul_comm]; omega)
      omega
    · rw [show p.2 - 1 + 1 = p.2 by omega]
def ltR (a b : Nat × Nat) : Prop := a.1 < b.1 ∨ (a.1 = b.1 ∧ a.2 < b.2)
theorem rows_rise (n s : Nat) : (rowsL n s).Pairwise ltR := by
  unfold rowsL rowsTo
  rw [List.pairwise_flatMap]
  refine ⟨fun f _ => ?_, ?_⟩
  · unfold rowsAt
    rw [List.pairwise_map]
    exact List.pairwise_lt_range.imp fun {a b} h => .inr ⟨rfl, Nat.succ_lt_succ h⟩
  · refine List.pairwise_lt_range.imp fun {a b} h x hx y hy => ?_
    unfold rowsAt at hx hy
    obtain ⟨_, _, rfl⟩ := List.mem_map.mp hx
    obtain ⟨_, _, rfl⟩ := List.mem_map.mp hy
    exact .inl h
theorem ltR_lex {a b : Nat × Nat} (h : ltR a b) : lexI (pairI b) (pairI a) = false := by
  unfold pairI
  rw [lexI]
  rcases h with h | ⟨h1, h2⟩
  · rw [if_neg (by omega)]
    exact decide_eq_false (by omega)
  · rw [if_pos (by omega), lexI, if_neg (by omega)]
    exact decide_eq_false (by omega)
theorem pairs_rise {l : List (Nat × Nat)} (h : l.Pairwise ltR) : (l.map pairI).Pairwise (fun a b => lexI b a = false) := by
  rw [List.pairwise_map]
  exact h.imp fun h => ltR_lex h
theorem ltR_nodup {l : List (Nat × Nat)} (h : l.Pairwise ltR) : l.Nodup := h.imp fun {a b} h e => by
  subst e
  rcases h with h | ⟨_, h⟩ <;> omega
def hasPl (s pl : Nat) (p : Nat × Nat) : Bool := (List.range s).any fun k => decide (p.1 + k * p.2 = pl)
def through (n s pl : Nat) : List (Nat × Nat) := (rowsL n s).filter (hasPl s pl)
def thrK (n s pl st k : Nat) : List (Nat × Nat) := if k * st ≤ pl ∧ pl - k * st + (s - 1) * st < n then [(pl - k * st, st)] else []
def thrIn (n s pl st j : Nat) : List (Nat × Nat) := (List.range j).flatMap (thrK n s pl st)
def thrTo (n s pl i : Nat) : List (Nat × Nat) := (List.range i).flatMap fun a => thrIn n s pl (a + 1) s
theorem thrK_mem {n s pl st k : Nat} {x : Nat × Nat} (h : x ∈ thrK n s pl st k) : x = (pl - k * st, st) ∧ k * st ≤ pl ∧ pl - k * st + (s - 1) * st < n := by
  unfold thrK at h
  split at h
  · rename_i c
    exact ⟨List.mem_singleton.mp h, c⟩
  · cases h
theorem through_sort {n s pl : Nat} (hs : 2 ≤ s) (hpl : pl < n) : sortI ((thrTo n s pl ((n - 1) / (s - 1))).map pairI) = (through n s pl).map pairI := by
  have rise : (through n s pl).Pairwise ltR := (rows_rise n s).filter _
  have nd : (thrTo n s pl ((n - 1) / (s - 1))).Nodup := by
    unfold thrTo
    rw [List.Nodup, List.pairwise_flatMap]
    refine ⟨fun a _ => ?_, ?_⟩
    · unfold thrIn
      rw [List.pairwise_flatMap]
      refine ⟨fun k _ => ?_, ?_⟩
      · unfold thrK
        split
        · exact List.pairwise_singleton _ _
        · exact List.Pairwise.nil
      · refine List.pairwise_lt_range.imp fun {k j} h x hx y hy e => ?_
        obtain ⟨rfl, h1, _⟩ := thrK_mem hx
        obtain ⟨rfl, h2, _⟩ := thrK_mem hy
        have e1 := congrArg Prod.fst e
        have e2 : pl - k * (a + 1) = pl - j * (a + 1) := e1
        have : k * (a + 1) < j * (a + 1) := Nat.mul_lt_mul_of_pos_right h (Nat.succ_pos a)
        omega
    · refine List.pairwise_lt_range.imp fun {a b} h x hx y hy e => ?_
      obtain ⟨k, _, hx⟩ := List.mem_flatMap.mp hx
      obtain ⟨j, _, hy⟩ := List.mem_flatMap.mp hy
      have e1 := congrArg Prod.snd e
      rw [(thrK_mem hx).1, (thrK_mem hy).1] at e1
      have e2 : a + 1 = b + 1 := e1
      omega
  refine (sortI_eq (pairs_rise rise) (List.Perm.map pairI ?_)).symm
  rw [List.perm_ext_iff_of_nodup (ltR_nodup rise) nd]
  rintro ⟨f, st⟩
  unfold through
  rw [List.mem_filter, rows_mem hs]
  unfold hasPl
  rw [List.any_eq_true]
  constructor
  · rintro ⟨⟨h1, h2⟩, k, hk, e⟩
    rw [List.mem_range] at hk
    have e' : f + k * st = pl := of_decide_eq_true e
    have h1' : f + (s - 1) * st < n := h1
    have h2' : 1 ≤ st := h2
    unfold thrTo
    rw [List.mem_flatMap]
    refine ⟨st - 1, List.mem_range.mpr ?_, ?_⟩
    · have : st ≤ (n - 1) / (s - 1) := (Nat.le_div_iff_mul_le (by omega)).mpr (by rw [Nat.mul_comm]; omega)
      omega
    · rw [show st - 1 + 1 = st by omega]
      unfold thrIn
      rw [List.mem_flatMap]
      refine ⟨k, List.mem_range.mpr hk, ?_⟩
      unfold thrK
      rw [if_pos ⟨by omega, by omega⟩, show pl - k * st = f by omega]
      exact List.mem_singleton.mpr rfl
  · intro h
    unfold thrTo at h
    obtain ⟨a, ha, h⟩ := List.mem_flatMap.mp h
    unfold thrIn at h
    obtain ⟨k, hk, h⟩ := List.mem_flatMap.mp h
    obtain ⟨e, h1, h2⟩ := thrK_mem h
    have e1 : f = pl - k * (a + 1) := congrArg Prod.fst e
    have e2 : st = a + 1 := congrArg Prod.snd e
    subst e2
    exact ⟨⟨by show f + (s - 1) * (a + 1) < n; omega, Nat.succ_pos a⟩, k, hk, decide_eq_true (by show f + k * (a + 1) = pl; omega)⟩
theorem thrIn_succ (n s pl st j : Nat) : thrIn n s pl st (j + 1) = thrIn n s pl st j ++ thrK n s pl st j := by
  unfold thrIn
  rw [List.range_succ, List.flatMap_append]
  simp
theorem thrTo_succ (n s pl i : Nat) : thrTo n s pl (i + 1) = thrTo n s pl i ++ thrIn n s pl (i + 1) s := by
  unfold thrTo
  rw [List.range_succ, List.flatMap_append]
  simp
theorem thrIn_len (n s pl st : Nat) : ∀ j, (thrIn n s pl st j).length ≤ j
  | 0 => Nat.zero_le _
  | j + 1 => by
    rw [thrIn_succ, List.length_append]
    have := thrIn_len n s pl st j
    have h : (thrK n s pl st j).length ≤ 1 := by
      unfold thrK
      split
      · exact Nat.le_refl _
      · exact Nat.zero_le _
    omega
theorem thrTo_len (n s pl : Nat) : ∀ i, (thrTo n s pl i).length ≤ i * s
  | 0 => Nat.zero_le _
  | i + 1 => by
    rw [thrTo_succ, List.length_append, Nat.succ_mul]
    exact Nat.add_le_add (thrTo_len n s pl i) (thrIn_len n s pl (i + 1) s)
theorem rows_through_eq {n s pl : Nat} (hn : n ≤ 1000) (hs : 2 ≤ s) (hs2 : s ≤ 100) (hpl : pl < n) : D_rows_through [.int n, .int s, .int pl] = pure (.lst ((through n s pl).map Dr)) := by
  rw [D_rows_through_eq]
  unfold B_rows_through
  simp [-bind_pure_comp]
  have e : ((n : Int) - 1) / ((s : Int) - 1) = (((n - 1) / (s - 1) : Nat) : Int) := by
    rw [Int.natCast_ediv, show ((n - 1 : Nat) : Int) = (n : Int) - 1 by omega, show ((s - 1 : Nat) : Int) = (s : Int) - 1 by omega]
  have hw : (n - 1) / (s - 1) ≤ n := Nat.le_trans (Nat.div_le_self _ _) (by omega)
  have hsort := through_sort hs hpl
  rw [fdiv_ok (j := (s : Int) - 1) (by omega) (by omega), e]
  generalize hq : (n - 1) / (s - 1) = q at hw hsort
  simp [-bind_pure_comp]
  rw [range2_ok ⟨by omega, by omega⟩ ⟨by omega, by omega⟩, pure_bind, forM_rng (s := ([] : List D)) (fun i => (thrTo n s pl i).map Dr) rfl fun i hi => ?_]
  · simp only [seqM_nx, endB_bind, sortT_Dr, pure_bind, endB_rt]
    rw [show ((q : Int) + 1 - 1).toNat = q by omega, hsort, List.map_map]
    rfl
  · have hlen := thrTo_len n s pl i
    have hle : i * s ≤ 1000 * 100 := Nat.mul_le_mul (by omega) hs2
    rw [range1_ok (by omega) (by omega), pure_bind, forM_rng0 (s := (thrTo n s pl i).map Dr) (fun j => (thrTo n s pl i).map Dr ++ (thrIn n s pl (i + 1) j).map Dr) (by simp [thrIn]) fun j hj => ?_]
    · rw [seqM_nx, thrTo_succ, List.map_append]
    · have hin := thrIn_len n s pl (i + 1) j
      have m1 : D.mulA (.int j) (.int (1 + (i : Int))) = pure (.int ((j * (i + 1) : Nat) : Int)) := by
        rw [mul_ok (.inl ⟨by omega, by omega⟩), Int.natCast_mul, show ((i + 1 : Nat) : Int) = 1 + (i : Int) by omega]
      have m2 : D.mulA (.int ((s : Int) - 1)) (.int (1 + (i : Int))) = pure (.int (((s - 1) * (i + 1) : Nat) : Int)) := by
        rw [mul_ok (.inl ⟨by omega, by omega⟩), Int.natCast_mul, show ((i + 1 : Nat) : Int) = 1 + (i : Int) by omega, show ((s - 1 : Nat) : Int) = (s : Int) - 1 by omega]
      rw [m1]
      simp only [pure_bind, sub_int, ge_int, isB_bl]
      rw [m2]
      simp only [pure_bind, add_int, lt_int, isB_bl]
      rw [thrIn_succ, List.map_append]
      unfold thrK
      generalize hA : j * (i + 1) = A
      generalize hB : (s - 1) * (i + 1) = B
      by_cases c : A ≤ pl ∧ pl - A + B < n
      · rw [if_pos c, decide_eq_true (show (0 : Int) ≤ (pl : Int) - (A : Int) by omega), if_pos rfl, decide_eq_true (show (pl : Int) - (A : Int) + (B : Int) < n by omega)]
        simp only [pure_bind, if_true]
        rw [grd_line' (by rw [List.length_append, List.length_map, List.length_map]; omega)]
        rw [show D.tup [.int ((pl : Int) - (A : Int)), .int (1 + (i : Int))] = Dr (pl - A, i + 1) from by
          show _ = D.tup [.int ((pl - A : Nat) : Int), .int ((i + 1 : Nat) : Int)]
          rw [show ((pl - A : Nat) : Int) = (pl : Int) - (A : Int) by omega, show ((i + 1 : Nat) : Int) = 1 + (i : Int) by omega], List.append_assoc]
        rfl
      · rw [if_neg c]
        by_cases c1 : (0 : Int) ≤ (pl : Int) - (A : Int)
        · rw [decide_eq_true c1, if_pos rfl, decide_eq_false (show ¬ (pl : Int) - (A : Int) + (B : Int) < n by omega)]
          simp
        · rw [decide_eq_false c1]
          simp
/-! ### bars -/
theorem cut_take {α : Type} (q : List α) {pl : Nat} (h : pl < q.length) : cutL q none (some (pl : Int)) = q.take pl := by
  unfold cutL sIx'
  simp only [show ¬ ((pl : Int) < 0) by omega, if_false, List.drop_zero, Int.toNat_natCast]
  rw [show min pl q.length - 0 = pl by omega]
theorem cut_drop {α : Type} (q : List α) {pl : Nat} (h : pl < q.length) : cutL q (some ((pl : Int) + 1)) none = q.drop (pl + 1) := by
  unfold cutL sIx'
  simp only [show ¬ ((pl : Int) + 1 < 0) by omega, if_false]
  rw [show min ((pl : Int) + 1).toNat q.length = pl + 1 by omega, List.take_of_length_le (by rw [List.length_drop]; omega)]
theorem with_hue_eq {q : List Int} {pl : Nat} (h : pl < q.length) (hl : q.length ≤ 1000) (hue : Int) : D_with_hue [ti q, .int pl, .int hue] = pure (ti (q.set pl hue)) := by
  rw [D_with_hue_eq]
  unfold B_with_hue
  simp [-bind_pure_comp, cutI_ti]
  rw [cut_take q h, cut_drop q h]
  unfold ti
  rw [add_tup (by simp; omega), pure_bind, add_tup (by simp; omega), List.set_eq_take_append_cons_drop, if_pos h]
  simp
theorem set_getD {q : List Int} {pl : Nat} (h : pl < q.length) (hue : Int) (i : Nat) : (q.set pl hue).getD i 0 = if i = pl then hue else q.getD i 0 := by
  rw [List.getD_eq_getElem?_getD, List.getD_eq_getElem?_getD, List.getElem?_set]
  by_cases e : i = pl
  · subst e
    simp [h]
  · rw [if_neg e, if_neg fun z => e z.symm]
def barC (q : List Int) (s pl : Nat) (hue : Int) (p : Nat × Nat) : Bool := (List.range s).all fun k => decide (p.1 + k * p.2 = pl) || decide (q.getD (p.1 + k * p.2) 0 = hue)
def barsL (q : List Int) (s pl : Nat) (hue : Int) : List (Nat × Nat) := (through q.length s pl).filter (barC q s pl hue)
theorem barsL_len {q : List Int} (s pl : Nat) (hue : Int) (hl : q.length ≤ 100) : (barsL q s pl hue).length ≤ 10000 := by
  refine Nat.le_trans (List.length_filter_le _ _) (Nat.le_trans (List.length_filter_le _ _) (Nat.le_trans (rowsTo_len _ _ _) ?_))
  exact Nat.mul_le_mul hl hl
theorem tn_ix {sz : List Nat} {h : Nat} (hh : h < sz.length) : D.ix (tn sz) (.int h) = pure (.int (sz.getD h 0 : Nat)) := by
  rw [tn_ti, ix_at (by rw [List.length_map]; exact hh)]
  congr 2
  simp [List.getD_eq_getElem?_getD, hh]
theorem bars_at_eq {sz : List Nat} (z : Szs sz) {q : List Int} (hl : q.length ≤ 100) {pl h : Nat} (hp : pl < q.length) (hh : h < sz.length) : D_bars_at [tn sz, ti q, .int pl, .int h] = pure (.lst ((barsL q (sz.getD h 0) pl h).map Dr)) := by
  obtain ⟨s2, s8⟩ := z.at hh
  rw [D_bars_at_eq]
  unfold B_bars_at
  simp only [bin_def, callM_def, seqL_cons, seqL_nil, pure_bind, tn_ix hh, with_hue_eq hp (show q.length ≤ 1000 by omega), f1_one, len_ti, rows_through_eq (show q.length ≤ 1000 by omega) s2 (show sz.getD h 0 ≤ 100 by omega) hp, forF_def, items_lst, tg1_def]
  generalize sz.getD h 0 = s at s2 s8
  rw [forM_run (s := ([] : List D)) (fun i => (((through q.length s pl).take i).filter (barC q s pl h)).map Dr) rfl fun i x hx => ?_]
  · rw [List.length_map, List.take_length]
    simp only [seqM_nx, endB_rt]
    rfl
  · rw [List.getElem?_map, Option.map_eq_some_iff] at hx
    obtain ⟨p, hpp, rfl⟩ := hx
    have hpm : p ∈ through q.length s pl := List.mem_of_getElem? hpp
    have hin := (rows_in s2 (List.mem_filter.mp hpm).1).1
    have htk : (through q.length s pl).take (i + 1) = (through q.length s pl).take i ++ [p] := by rw [List.take_add_one, hpp]; rfl
    rw [row_places_eq p (by omega)]
    simp only [pure_bind]
    rw [show itemsL (ti (places p s)) = pure ((places p s).map D.int) from rfl]
    unfold places
    rw [List.map_map, lcF_map1 (fun d => match d with | .int a => .bl (decide (a = (pl : Int)) || decide (q.getD a.toNat 0 = h)) | _ => d) (by rw [List.length_map, List.length_range]; omega) fun x hx => ?_]
    · simp only [pure_bind, List.map_map, f1_one, asB_def]
      rw [show ((fun d => match d with | D.int a => D.bl (decide (a = (pl : Int)) || decide (q.getD a.toNat 0 = h)) | x => d) ∘ D.int ∘ fun k : Nat => ((p.1 + k * p.2 : Nat) : Int)) = fun k : Nat => D.bl (decide (p.1 + k * p.2 = pl) || decide (q.getD (p.1 + k * p.2) 0 = h)) from ?_, all_map]
      · have hsm : (((through q.length s pl).take i).filter (barC q s pl h)).length ≤ 10000 := by
          refine Nat.le_trans (List.length_filter_le _ _) ?_
          rw [List.length_take]
          refine Nat.le_trans (Nat.min_le_right _ _) (Nat.le_trans (List.length_filter_le _ _) (Nat.le_trans (rowsTo_len _ _ _) ?_))
          exact Nat.mul_le_mul hl hl
        simp only [pure_bind, asB_def, isB_bl, appM_def]
        rw [show ((List.range s).all fun k => decide (p.1 + k * p.2 = pl) || decide (q.getD (p.1 + k * p.2) 0 = h)) = barC q s pl h p from rfl, htk, List.filter_append]
        by_cases c : barC q s pl h p = true
        · rw [if_pos c, List.filter_cons_of_pos c, grd_line' (by rw [List.length_map]; omega)]
          simp
        · rw [if_neg c, List.filter_cons_of_neg c]
          simp
      · funext k
        simp only [Function.comp, Int.toNat_natCast, Int.natCast_inj]
    · obtain ⟨k, hk, rfl⟩ := List.mem_map.mp hx
      rw [List.mem_range] at hk
      simp only [Function.comp]
      rw [ix_at (by rw [List.length_set]; exact places_lt hin hk), pure_bind, set_getD hp, eqA_int]
      congr 2
      simp only [Int.toNat_natCast]
      by_cases e : p.1 + k * p.2 = pl
      · rw [if_pos e, e]
        simp
      · rw [if_neg e, decide_eq_false (show ¬ ((p.1 + k * p.2 : Nat) : Int) = (pl : Int) by omega), Bool.false_or]
theorem eq_nil_Dr (rs : List (Nat × Nat)) : D.eqA (.lst (rs.map Dr)) (.lst []) = pure (.bl (decide (rs = []))) := (Enc.lst (Enc.pair (enc_nat 0) (enc_nat 0))).eqA (by decide) rs []
/-- the open hues -/
def openL (sz : List Nat) (q : List Int) (pl : Nat) : List Int := ((List.range sz.length).filter fun h => decide (barsL q (sz.getD h 0) pl h = [])).map fun h : Nat => (h : Int)
theorem rangeL0 (n : Nat) : rangeL 0 n = (List.range n).map fun i : Nat => D.int i := by
  unfold rangeL
  rw [show ((n : Int) - 0).toNat = n by omega]
  apply List.map_congr_left
  intro i _
  rw [Int.zero_add]
theorem lcF_rngP {n : Nat} {rt : D → M Bool} {re : D → M D} (p : Nat → Bool) (hl : n ≤ 16777216) (h2 : ∀ i : Nat, i < n → rt (.int i) = pure (p i)) (h3 : ∀ i : Nat, i < n → re (.int i) = pure (.int i)) : lcF (pure (rangeL 0 n)) tg1 rt re = pure (((List.range n).filter p).map fun i : Nat => D.int i) := by
  rw [rangeL0, lcF_eq1 (fun d => match d with | .int i => p i.toNat | _ => false) (fun x => x) (by rw [List.length_map, List.length_range]; exact hl) (fun x hx => ?_) fun x hx _ => ?_]
  · rw [List.map_id', List.filter_map]
    rfl
  · obtain ⟨i, hi, rfl⟩ := List.mem_map.mp hx
    exact h2 i (List.mem_range.mp hi)
  · obtain ⟨i, hi, rfl⟩ := List.mem_map.mp hx
    exact h3 i (List.mem_range.mp hi)
theorem open_at_eq {sz : List Nat} (z : Szs sz) {q : List Int} (hl : q.length ≤ 100) {pl : Nat} (hp : pl < q.length) : D_open_at [tn sz, ti q, .int pl] = pure (ti (openL sz q pl)) := by
  have zf := z.few
  rw [D_open_at_eq]
  unfold B_open_at
  simp [-bind_pure_comp, len_tn]
  rw [range1_ok (by omega) (by omega), lcF_rngP (fun h => decide (barsL q (sz.getD h 0) pl h = [])) (by omega) (fun h hh => ?_) fun _ _ => rfl]
  · simp [-bind_pure_comp, openL, ti]
    rfl
  · rw [bars_at_eq z hl hp hh]
    simp only [pure_bind, asL_lst, eq_nil_Dr, isB_bl]
theorem is_blank_eq {q : List Int} {pl : Nat} (hp : pl < q.length) (hb : q.getD pl 0 = -1) : D_is_blank [ti q, .int pl] = pure (.bl true) := by
  rw [D_is_blank_eq]
  unfold B_is_blank
  simp [-bind_pure_comp, -List.getD_eq_getElem?_getD, len_ti, is_between_eq (show D.kn (.int pl) from trivial), btw, show (0 : Int) ≤ pl by omega, show (pl : Int) ≤ (q.length : Int) - 1 by omega, ix_at hp, hb]
/-! loops with while -/
theorem whileN_run {S L : Type} {c : S → M Bool} {body : S → M (Fl S S)} (st : Nat → S) (m : Nat) (h1 : ∀ i, i < m → c (st i) = pure true ∧ body (st i) = pure (.nx (st (i + 1)))) (h2 : c (st m) = pure false) :
    ∀ (n i : Nat), i ≤ m → whileN (L := L) c body n (st i) = if m - i < n then pure (.nx (st m)) else fail
  | 0, i, _ => by rw [if_neg (by omega)]; rfl
  | n + 1, i, hi => by
    show (c (st i) >>= fun b => _) = _
    by_cases e : i = m
    · subst e
      rw [h2, pure_bind, if_neg (by decide), if_pos (by omega)]
    · obtain ⟨a, b⟩ := h1 i (by omega)
      rw [a, pure_bind, if_pos rfl, b, pure_bind]
      show whileN (L := L) c body n (st (i + 1)) = _
      rw [whileN_run st m h1 h2 n (i + 1) (by omega)]
      by_cases q : m - (i + 1) < n
      · rw [if_pos q, if_pos (by omega)]
      · rw [if_neg q, if_neg (by omega)]
theorem whileM_run {S L : Type} {c : S → M Bool} {body : S → M (Fl S S)} (st : Nat → S) (m : Nat) {s : S} (h0 : s = st 0) (h1 : ∀ i, i < m → c (st i) = pure true ∧ body (st i) = pure (.nx (st (i + 1)))) (h2 : c (st m) = pure false) : whileM (L := L) c body s = pure (.nx (st m)) := by
  subst h0
  apply M.ext'
  intro Q E
  constructor
  · rintro ⟨n, h⟩
    rw [whileN_run st m h1 h2 n 0 (Nat.zero_le _)] at h
    by_cases q : m - 0 < n
    · rwa [if_pos q] at h
    · rw [if_neg q] at h
      exact (show False from h).elim
  · intro h
    refine ⟨m + 1, ?_⟩
    rw [whileN_run st m h1 h2 (m + 1) 0 (Nat.zero_le _), if_pos (by omega)]
    exact h
theorem first_of (p : Nat → Bool) : ∀ n, p n = true → ∃ m, m ≤ n ∧ p m = true ∧ ∀ i, i < m → p i = false
  | 0, h => ⟨0, Nat.le_refl _, h, fun i hi => by omega⟩
  | n + 1, h => by
    by_cases c : ∃ k, k ≤ n ∧ p k = true
    · obtain ⟨k, hk, hp⟩ := c
      obtain ⟨m, a, b, d⟩ := first_of (fun i => p (k - (k - i))) k (by simpa using hp)
      exact ⟨m, by omega, by simpa [show k - (k - m) = m by omega] using b, fun i hi => by have := d i hi; simpa [show k - (k - i) = i by omega] using this⟩
    · refine ⟨n + 1, Nat.le_refl _, h, fun i hi => ?_⟩
      cases q : p i with
      | false => rfl
      | true => exact absurd ⟨i, by omega, q⟩ c
theorem whileM_go {S L : Type} {c : S → M Bool} {body : S → M (Fl S S)} {s s' : S} (h1 : c s = pure true) (h2 : body s = pure (.nx s')) : whileM (L := L) c body s = whileM c body s' := by
  apply M.ext'
  intro Q E
  have e : ∀ n, whileN (L := L) c body (n + 1) s = whileN c body n s' := fun n => by
    show (c s >>= fun b => _) = _
    rw [h1, pure_bind, if_pos rfl, h2, pure_bind]
  constructor
  · rintro ⟨n, h⟩
    cases n with
    | zero => exact (show False from h).elim
    | succ n =>
      rw [e] at h
      exact ⟨n, h⟩
  · rintro ⟨n, h⟩
    exact ⟨n + 1, by rw [e]; exact h⟩
theorem whileM_end {S L : Type} {c : S → M Bool} {body : S → M (Fl S S)} {s : S} (h1 : c s = pure false) : whileM (L := L) c body s = pure (.nx s) := by
  apply M.ext'
  intro Q E
  have e : ∀ n, whileN (L := L) c body (n + 1) s = pure (.nx s) := fun n => by
    show (c s >>= fun b => _) = _
    rw [h1, pure_bind, if_neg (by decide)]
  constructor
  · rintro ⟨n, h⟩
    cases n with
    | zero => exact (show False from h).elim
    | succ n =>
      rw [e] at h
      exact h
  · intro h
    exact ⟨1, by rw [e]; exact h⟩
/-! ### strips with no row of one hue -/
def Good (sz : List Nat) (l : List Int) : Prop := ∀ h, h < sz.length → ∀ f st : Nat, 1 ≤ st → f + (sz.getD h 0 - 1) * st < l.length → ¬ ∀ k, k < sz.getD h 0 → l.getD (f + k * st) 0 = (h : Int)
theorem wrongS_nil {sz : List Nat} {l : List Int} (z : Szs sz) : wrongS sz l = [] ↔ Good sz l := by
  have e1 : ∀ xs : List (List Int), sortI xs = [] ↔ xs = [] := fun xs => by
    rw [← List.length_eq_zero_iff, (sortI_perm xs).length_eq, List.length_eq_zero_iff]
  unfold wrongS wrongTo
  rw [e1, List.map_eq_nil_iff, List.flatMap_eq_nil_iff]
  constructor
  · intro g h hh f st h1 h2 h3
    have := g h (List.mem_range.mpr hh)
    unfold wrongAt at this
    rw [List.filter_eq_nil_iff] at this
    refine this (f, st) ((show ∀ {n s : Nat}, 2 ≤ s → ∀ {p : Nat × Nat}, p.1 + (s - 1) * p.2 < n → 1 ≤ p.2 → p ∈ rowsL n s from fun hs p a b => ?_) (z.at hh).1 h2 h1) ?_
    · unfold rowsL rowsTo
      rw [List.mem_flatMap]
      refine ⟨p.1, List.mem_range.mpr (by omega), ?_⟩
      unfold rowsAt
      rw [List.mem_map]
      refine ⟨p.2 - 1, List.mem_range.mpr ?_, by rw [show p.2 - 1 + 1 = p.2 by omega]⟩
      rename_i n s
      have : p.2 ≤ (n - 1 - p.1) / (s - 1) := (Nat.le_div_iff_mul_le (by omega)).mpr (by rw [Nat.mul_comm]; omega)
      omega
    · unfold hasB
      rw [List.all_eq_true]
      intro k hk
      exact decide_eq_true (h3 k (List.mem_range.mp hk))
  · intro g h hh
    rw [List.mem_range] at hh
    unfold wrongAt
    rw [List.filter_eq_nil_iff]
    intro p hp hb
    obtain ⟨a, b⟩ := rows_in (z.at hh).1 hp
    refine g h hh p.1 p.2 b a fun k hk => ?_
    unfold hasB at hb
    rw [List.all_eq_true] at hb
    exact of_decide_eq_true (hb k (List.mem_range.mpr hk))
theorem getD_app {a b : List Int} {i : Nat} : (a ++ b).getD i 0 = if i < a.length then a.getD i 0 else b.getD (i - a.length) 0 := by
  rw [List.getD_eq_getElem?_getD, List.getD_eq_getElem?_getD, List.getD_eq_getElem?_getD]
  by_cases c : i < a.length
  · rw [if_pos c, List.getElem?_append_left c]
  · rw [if_neg c, List.getElem?_append_right (by omega)]
/-- whether a hue may stand behind -/
def mayB (sz : List Nat) (l : List Int) (h : Nat) : Bool := (List.range (l.length / (sz.getD h 0 - 1))).all fun j => !((List.range (sz.getD h 0 - 1)).all fun i => decide (l.getD (l.length - (i + 1) * (j + 1)) 0 = (h : Int)))
theorem good_snoc {sz : List Nat} (z : Szs sz) {l : List Int} (g : Good sz l) {h : Nat} (hh : h < sz.length) : Good sz (l ++ [(h : Int)]) ↔ mayB sz l h = true := by
  obtain ⟨s2, s8⟩ := z.at hh
  constructor
  · intro g2
    unfold mayB
    rw [List.all_eq_true]
    intro j hj
    rw [List.mem_range] at hj
    have hq : (j + 1) * (sz.getD h 0 - 1) ≤ l.length := (Nat.le_div_iff_mul_le (by omega)).mp hj
    rw [Nat.mul_comm] at hq
    rw [Bool.not_eq_true', ← Bool.not_eq_true, List.all_eq_true]
    intro c
    refine g2 h hh (l.length - (sz.getD h 0 - 1) * (j + 1)) (j + 1) (by omega) (by rw [List.length_append, List.length_singleton]; omega) fun k hk => ?_
    rw [getD_app]
    have hk2 : k * (j + 1) ≤ (sz.getD h 0 - 1) * (j + 1) := Nat.mul_le_mul_right _ (by omega)
    by_cases e : k = sz.getD h 0 - 1
    · subst e
      rw [if_neg (by omega), show l.length - (sz.getD h 0 - 1) * (j + 1) + (sz.getD h 0 - 1) * (j + 1) - l.length = 0 by omega]
      rfl
    · have hk3 : (k + 1) * (j + 1) ≤ (sz.getD h 0 - 1) * (j + 1) := Nat.mul_le_mul_right _ (by omega)
      rw [Nat.succ_mul] at hk3
      rw [if_pos (by omega)]
      have := of_decide_eq_true (c (sz.getD h 0 - 1 - k - 1) (List.mem_range.mpr (by omega)))
      rw [show sz.getD h 0 - 1 - k - 1 + 1 = sz.getD h 0 - 1 - k by omega, Nat.sub_mul] at this
      rw [show l.length - (sz.getD h 0 - 1) * (j + 1) + k * (j + 1) = l.length - ((sz.getD h 0 - 1) * (j + 1) - k * (j + 1)) by omega]
      exact this
  · intro m h' hh' f st h1 h2 h3
    obtain ⟨t2, t8⟩ := z.at hh'
    rw [List.length_append, List.length_singleton] at h2
    have hk2 : ∀ k, k < sz.getD h' 0 → k * st ≤ (sz.getD h' 0 - 1) * st := fun k hk => Nat.mul_le_mul_right _ (by omega)
    by_cases e : f + (sz.getD h' 0 - 1) * st < l.length
    · refine g h' hh' f st h1 e fun k hk => ?_
      have := h3 k hk
      have h4 := hk2 k hk
      rw [getD_app, if_pos (by omega)] at this
      exact this
    · have e2 : f + (sz.getD h' 0 - 1) * st = l.length := by omega
      have hl := h3 (sz.getD h' 0 - 1) (by omega)
      rw [getD_app, if_neg (by omega), show f + (sz.getD h' 0 - 1) * st - l.length = 0 by omega] at hl
      have hl2 : (h : Int) = (h' : Int) := hl
      obtain rfl : h = h' := by omega
      unfold mayB at m
      rw [List.all_eq_true] at m
      have hst : st - 1 < l.length / (sz.getD h 0 - 1) := by
        have : st ≤ l.length / (sz.getD h 0 - 1) := (Nat.le_div_iff_mul_le (by omega)).mpr (by rw [Nat.mul_comm]; omega)
        omega
      have m1 := m (st - 1) (List.mem_range.mpr hst)
      rw [show st - 1 + 1 = st by omega, Bool.not_eq_true', ← Bool.not_eq_true, List.all_eq_true] at m1
      refine m1 fun i hi => ?_
      rw [List.mem_range] at hi
      have h5 := h3 (sz.getD h 0 - 1 - (i + 1)) (by omega)
      have h6 : (i + 1) * st ≤ (sz.getD h 0 - 1) * st := Nat.mul_le_mul_right _ (by omega)
      have h7 : 1 * st ≤ (i + 1) * st := Nat.mul_le_mul_right _ (by omega)
      rw [Nat.sub_mul, getD_app, if_pos (by omega)] at h5
      refine decide_eq_true ?_
      rw [show l.length - (i + 1) * st = f + ((sz.getD h 0 - 1) * st - (i + 1) * st) by omega]
      exact h5
theorem good_rev {sz : List Nat} (z : Szs sz) {l : List Int} (g : Good sz l) : Good sz l.reverse := by
  intro h hh f st h1 h2 h3
  rw [List.length_reverse] at h2
  obtain ⟨s2, s8⟩ := z.at hh
  refine g h hh (l.length - 1 - f - (sz.getD h 0 - 1) * st) st h1 (by omega) fun k hk => ?_
  have := h3 (sz.getD h 0 - 1 - k) (by omega)
  have h6 : k * st ≤ (sz.getD h 0 - 1) * st := Nat.mul_le_mul_right _ (by omega)
  rw [Nat.sub_mul, List.getD_eq_getElem?_getD, List.getElem?_reverse (by omega)] at this
  rw [List.getD_eq_getElem?_getD, show l.length - 1 - f - (sz.getD h 0 - 1) * st + k * st = l.length - 1 - (f + ((sz.getD h 0 - 1) * st - k * st)) by omega]
  exact this
theorem good_take {sz : List Nat} (z : Szs sz) {l : List Int} (g : Good sz l) (m : Nat) : Good sz (l.take m) := by
  intro h hh f st h1 h2 h3
  rw [List.length_take] at h2
  obtain ⟨s2, s8⟩ := z.at hh
  refine g h hh f st h1 (by omega) fun k hk => ?_
  have := h3 k hk
  have h6 : k * st ≤ (sz.getD h 0 - 1) * st := Nat.mul_le_mul_right _ (by omega)
  rw [List.getD_eq_getElem?_getD, List.getElem?_take, if_pos (by omega)] at this
  rw [List.getD_eq_getElem?_getD]
  exact this
theorem tn_ixg {sz : List Nat} {h : Nat} (hh : h < sz.length) : D.ix (tn sz) (.int h) = pure (.int (sz.getD h 0 : Nat)) := by
  rw [tn_ti, ix_at (by rw [List.length_map]; exact hh)]
  congr 2
  simp [List.getD_eq_getElem?_getD, hh]
theorem rangeL1 (n : Nat) : rangeL 1 ((n : Int) + 1) = (List.range n).map fun i : Nat => D.int ((i : Int) + 1) := by
  unfold rangeL
  rw [show ((n : Int) + 1 - 1).toNat = n by omega]
  apply List.map_congr_left
  intro i _
  rw [Int.add_comm]
theorem L_ended_eq {sz : List Nat} (z : Szs sz) {l : List Int} (hl : l.length ≤ 1000) {h : Nat} (hh : h < sz.length) : D_L_ended [tn sz, ti l, .int h] = pure (.bl (!mayB sz l h)) := by
  obtain ⟨s2, s8⟩ := z.at hh
  rw [D_L_ended_eq]
  unfold B_L_ended
  simp only [bin_def, callM_def, seqL_cons, seqL_nil, pure_bind, tn_ixg hh, f1_one, len_ti, sub_int, forF_def, rng2_two, tg1_def, tupM_def, parM_two, un2_two]
  unfold mayB
  generalize hs : sz.getD h 0 = s at s2 s8
  have e : (l.length : Int) / ((s : Int) - 1) = ((l.length / (s - 1) : Nat) : Int) := by
    rw [Int.natCast_ediv, show ((s - 1 : Nat) : Int) = (s : Int) - 1 by omega]
  rw [fdiv_ok (by omega) (by omega), e]
  have hw : l.length / (s - 1) ≤ l.length := Nat.div_le_self _ _
  have hm : (s - 1) * (l.length / (s - 1)) ≤ l.length := Nat.mul_div_le _ _
  generalize hq : l.length / (s - 1) = q at hw hm
  simp only [pure_bind, add_int]
  rw [range2_ok ⟨by omega, by omega⟩ ⟨by omega, by omega⟩, pure_bind, rangeL1, forM_any (p := fun d => match d with | .int st => (List.range (s - 1)).all fun i => decide (l.getD (l.length - (i + 1) * st.toNat) 0 = (h : Int)) | _ => false) (d := .bl true) fun x hx _ => ?_]
  · rw [List.any_map]
    have e3 : ((List.range q).all fun j => !((List.range (s - 1)).all fun i => decide (l.getD (l.length - (i + 1) * (j + 1)) 0 = (h : Int)))) = !((List.range q).any ((fun d => match d with | .int st => (List.range (s - 1)).all fun i => decide (l.getD (l.length - (i + 1) * st.toNat) 0 = (h : Int)) | _ => false) ∘ fun i : Nat => D.int ((i : Int) + 1))) := by
      rw [List.all_eq_not_any_not]
      simp only [Bool.not_not]
      rfl
    rw [e3]
    cases (List.range q).any ((fun d => match d with | .int st => (List.range (s - 1)).all fun i => decide (l.getD (l.length - (i + 1) * st.toNat) 0 = (h : Int)) | _ => false) ∘ fun i : Nat => D.int ((i : Int) + 1)) <;> simp
  · obtain ⟨j, hj, rfl⟩ := List.mem_map.mp hx
    rw [List.mem_range] at hj
    rw [show (s : Int) = (((s - 1 : Nat) : Int) + 1) by omega, range2_ok ⟨by omega, by omega⟩ ⟨by omega, by omega⟩, rangeL1, lcF_eq1 (fun d => match d with | .int i => !decide (l.getD (l.length - i.toNat * (j + 1)) 0 = (h : Int)) | _ => false) (fun x => x) (by rw [List.length_map, List.length_range]; omega) (fun x hx => ?_) fun x _ _ => rfl]
    · rw [List.map_id', List.filter_map]
      have e5 : ∀ xs : List Nat, D.eqA (.lst (xs.map fun i : Nat => D.int ((i : Int) + 1))) (.lst []) = pure (.bl (decide (xs = []))) := fun xs => by
        have := eqA_li (xs.map fun i : Nat => (i : Int) + 1) []
        unfold li at this
        rw [List.map_map, show (D.int ∘ fun i : Nat => (i : Int) + 1) = fun i : Nat => D.int ((i : Int) + 1) from rfl, List.map_nil] at this
        rw [this]
        congr 2
        rw [Bool.eq_iff_iff, decide_eq_true_iff, decide_eq_true_iff, List.map_eq_nil_iff]
      simp only [pure_bind, asB_def, e5, isB_bl]
      have e6 : decide (List.filter ((fun d => match d with | .int i => !decide (l.getD (l.length - i.toNat * (j + 1)) 0 = (h : Int)) | _ => false) ∘ fun i : Nat => D.int ((i : Int) + 1)) (List.range (s - 1)) = []) = (List.range (s - 1)).all fun i => decide (l.getD (l.length - (i + 1) * ((j : Int) + 1).toNat) 0 = (h : Int)) := by
        rw [Bool.eq_iff_iff, decide_eq_true_iff, List.filter_eq_nil_iff, List.all_eq_true]
        constructor
        · intro g i hi
          have g1 := g i hi
          simp only [Function.comp] at g1
          rw [show ((j : Int) + 1).toNat = j + 1 by omega]
          cases c : decide (l.getD (l.length - (i + 1) * (j + 1)) 0 = (h : Int)) with
          | true => rfl
          | false =>
            rw [show ((i : Int) + 1).toNat = i + 1 by omega, c] at g1
            exact absurd rfl g1
        · intro g i hi
          have g1 := g i hi
          rw [show ((j : Int) + 1).toNat = j + 1 by omega] at g1
          simp only [Function.comp]
          rw [show ((i : Int) + 1).toNat = i + 1 by omega, g1]
          exact Bool.false_ne_true
      rw [e6]
    · obtain ⟨i, hi, rfl⟩ := List.mem_map.mp hx
      rw [List.mem_range] at hi
      have h6 : (i + 1) * (j + 1) ≤ (s - 1) * q := Nat.mul_le_mul (by omega) (by omega)
      have h7 : 1 * 1 ≤ (i + 1) * (j + 1) := Nat.mul_le_mul (by omega) (by omega)
      rw [mul_ok (.inl ⟨by omega, by omega⟩), show ((i : Int) + 1) * ((j : Int) + 1) = (((i + 1) * (j + 1) : Nat) : Int) by rw [Int.natCast_mul]; rfl]
      simp only [pure_bind, sub_int]
      rw [show ((l.length : Int) - (((i + 1) * (j + 1) : Nat) : Int)) = ((l.length - (i + 1) * (j + 1) : Nat) : Int) by omega, ix_at (by omega)]
      simp only [pure_bind, neA_int, asB_def, isB_bl]
      rfl
/-! ### runs -/
theorem forM_find {S L : Type} {body : D → S → M (Fl S S)} {p : D → Bool} {g : D → D} : ∀ {xs : List D} {s : S}, (∀ x ∈ xs, ∀ s, body x s = if p x = true then pure (.rt (g x)) else pure (.nx s)) → forM (L := L) body xs s = match xs.find? p with
    | some x => pure (.rt (g x))
    | none => pure (.nx s)
  | [], s, _ => rfl
  | x :: r, s, h => by
    rw [forM_cons, h x List.mem_cons_self s, List.find?_cons]
    cases e : p x with
    | true => rfl
    | false =>
      rw [if_neg (by decide), pure_bind]
      exact forM_find fun y hy => h y (List.mem_cons_of_mem _ hy)
def blanksL (q : List Int) : List Nat := (List.range q.length).filter fun i => decide (q.getD i 0 = -1)
theorem blanks_eq {q : List Int} (hl : q.length ≤ 1000) : D_blanks [ti q] = pure (.lst ((blanksL q).map fun i : Nat => D.int i)) := by
  rw [D_blanks_eq]
  unfold B_blanks ti
  rw [show enumM (pure (D.tup (q.map D.int))) = pure (enumL (q.map D.int)) from rfl, lcF_enum (fun i => decide (q.getD i 0 = -1)) (fun i => .int i) (by rw [List.length_map]; omega) fun i x hx => ?_]
  · rw [List.length_map]
    rfl
  · obtain ⟨hi, rfl⟩ := ti_get hx
    refine ⟨?_, fun _ => rfl⟩
    simp only [bin_def, pure_bind, asB_def, eqA_int, isB_bl]
def openN (sz : List Nat) (q : List Int) (pl : Nat) : List Nat := (List.range sz.length).filter fun h => decide (barsL q (sz.getD h 0) pl h = [])
theorem openL_N (sz : List Nat) (q : List Int) (pl : Nat) : openL sz q pl = (openN sz q pl).map fun h : Nat => (h : Int) := rfl
theorem openL_len (sz : List Nat) (q : List Int) (pl : Nat) : (openL sz q pl).length = (openN sz q pl).length := by rw [openL_N, List.length_map]
/-- the first blank place with at most one open hue -/
def narP (sz : List Nat) (q : List Int) : Option Nat := (blanksL q).find? fun pl => decide ((openN sz q pl).length < 2)
def narD (sz : List Nat) (q : List Int) : D := match narP sz q with
  | none => .non
  | some pl => .tup [.int pl, ti (openL sz q pl)]
theorem blanks_mem {q : List Int} {pl : Nat} (h : pl ∈ blanksL q) : pl < q.length ∧ q.getD pl 0 = -1 := by
  obtain ⟨a, b⟩ := List.mem_filter.mp h
  exact ⟨List.mem_range.mp a, of_decide_eq_true b⟩
theorem first_narrow_eq {sz : List Nat} (z : Szs sz) {q : List Int} (hl : q.length ≤ 100) : D_first_narrow [tn sz, ti q] = pure (narD sz q) := by
  rw [D_first_narrow_eq]
  unfold B_first_narrow
  simp only [callM_def, seqL_cons, seqL_nil, pure_bind, blanks_eq (show q.length ≤ 1000 by omega), items_lst, forF_def, tg1_def, bin_def, asB_def, f1_one, tupM_def, bind_assoc]
  rw [forM_find (p := fun d => match d with | .int i => decide ((openN sz q i.toNat).length < 2) | _ => false) (g := fun d => match d with | .int i => .tup [.int i, ti (openL sz q i.toNat)] | d => d) fun x hx s => ?_]
  · rw [List.find?_map]
    unfold narD narP
    have : ((fun d : D => match d with | .int i => decide ((openN sz q i.toNat).length < 2) | _ => false) ∘ fun i : Nat => D.int i) = fun pl => decide ((openN sz q pl).length < 2) := by
      funext i
      rfl
    rw [this]
    cases (blanksL q).find? fun pl => decide ((openN sz q pl).length < 2) with
    | none => rfl
    | some pl => rfl
  · obtain ⟨pl, hp, rfl⟩ := List.mem_map.mp hx
    obtain ⟨h1, h2⟩ := blanks_mem hp
    rw [open_at_eq z hl h1]
    simp only [pure_bind, len_ti, lt_int, isB_bl, openL_len, Int.toNat_natCast]
    by_cases c : (openN sz q pl).length < 2
    · rw [decide_eq_true (show ((openN sz q pl).length : Int) < 2 by omega), decide_eq_true c]
    · rw [decide_eq_false (show ¬ ((openN sz q pl).length : Int) < 2 by omega), decide_eq_false c]
/-- the next step -/
def nxt (sz : List Nat) (q : List Int) : Option (Nat × Nat) := match narP sz q with
  | none => none
  | some pl => match openN sz q pl with
    | [h] => some (pl, h)
    | _ => none
theorem nxt_some {sz : List Nat} {q : List Int} {p : Nat × Nat} (h : nxt sz q = some p) : narP sz q = some p.1 ∧ openN sz q p.1 = [p.2] ∧ p.1 < q.length ∧ q.getD p.1 0 = -1 ∧ p.2 < sz.length := by
  unfold nxt at h
  cases e : narP sz q with
  | none => rw [e] at h; cases h
  | some pl =>
    rw [e] at h
    simp only at h
    cases e2 : openN sz q pl with
    | nil => rw [e2] at h; cases h
    | cons a r =>
      cases r with
      | cons b r => rw [e2] at h; cases h
      | nil =>
        rw [e2] at h
        cases h
        have hm : pl ∈ blanksL q := List.mem_of_find?_eq_some e
        have ha : a ∈ openN sz q pl := by rw [e2]; exact List.mem_cons_self
        exact ⟨rfl, e2, (blanks_mem hm).1, (blanks_mem hm).2, List.mem_range.mp (List.mem_filter.mp ha).1⟩
theorem nxt_none {sz : List Nat} {q : List Int} (h : nxt sz q = none) : narP sz q = none ∨ ∃ pl, narP sz q = some pl ∧ openN sz q pl = [] := by
  unfold nxt at h
  cases e : narP sz q with
  | none => exact .inl rfl
  | some pl =>
    right
    refine ⟨pl, rfl, ?_⟩
    rw [e] at h
    simp only at h
    have hp := List.find?_some e
    have hp := of_decide_eq_true hp
    cases e2 : openN sz q pl with
    | nil => rfl
    | cons a r =>
      cases r with
      | cons b r =>
        rw [e2] at hp
        simp only [List.length_cons] at hp
        omega
      | nil => rw [e2] at h; cases h
/-- a run -/
structure Run (sz : List Nat) (q : List Int) (Q : Nat → List Int) (S : Nat → Nat × Nat) (m : Nat) : Prop where
  fst : Q 0 = q
  nx : ∀ i, i < m → nxt sz (Q i) = some (S i)
  step : ∀ i, i < m → Q (i + 1) = (Q i).set (S i).1 ((S i).2 : Int)
  lst : nxt sz (Q m) = none
  few : m ≤ q.length
/-- a draft of sizes -/
structure Dok (sz : List Nat) (q : List Int) : Prop where
  len : q.length ≤ 40
  els : ∀ x ∈ q, -1 ≤ x ∧ x < sz.length
theorem Dok.set {sz : List Nat} {q : List Int} (d : Dok sz q) {pl h : Nat} (hh : h < sz.length) : Dok sz (q.set pl h) := ⟨by rw [List.length_set]; exact d.len, fun x hx => by
  rcases List.mem_or_eq_of_mem_set hx with hx | rfl
  · exact d.els x hx
  · omega⟩
def runQ (sz : List Nat) (q : List Int) : Nat → List Int
  | 0 => q
  | i + 1 => match nxt sz (runQ sz q i) with
    | some p => (runQ sz q i).set p.1 (p.2 : Int)
    | none => runQ sz q i
def runS (sz : List Nat) (q : List Int) (i : Nat) : Nat × Nat := (nxt sz (runQ sz q i)).getD (0, 0)
theorem run_count {sz : List Nat} {q : List Int} : ∀ i, (∀ j, j < i → nxt sz (runQ sz q j) ≠ none) → (runQ sz q i).count (-1) + i = q.count (-1)
  | 0, _ => rfl
  | i + 1, h => by
    have ih := run_count i fun j hj => h j (by omega)
    cases e : nxt sz (runQ sz q i) with
    | none => exact absurd e (h i (by omega))
    | some p =>
      obtain ⟨_, _, h3, h4, _⟩ := nxt_some e
      rw [show runQ sz q (i + 1) = (runQ sz q i).set p.1 (p.2 : Int) from by
        show (match nxt sz (runQ sz q i) with
          | some p => (runQ sz q i).set p.1 (p.2 : Int)
          | none => runQ sz q i) = _
        rw [e]]
      have hg : (runQ sz q i)[p.1] = -1 := by
        rw [List.getD_eq_getElem?_getD, List.getElem?_eq_getElem h3] at h4
        exact h4
      have hc : 0 < (runQ sz q i).count (-1) := List.count_pos_iff.mpr (hg ▸ List.getElem_mem h3)
      rw [List.count_set h3, hg]
      have : ((p.2 : Int) == -1) = false := by
        rw [beq_eq_false_iff_ne]
        omega
      rw [this]
      simp
      omega
theorem run_ex (sz : List Nat) (q : List Int) : ∃ m, Run sz q (runQ sz q) (runS sz q) m := by
  obtain ⟨n, hn, pn⟩ : ∃ n, n ≤ q.length ∧ decide (nxt sz (runQ sz q n) = none) = true := by
    apply Classical.byContradiction
    intro c
    have hne : ∀ j, j < q.length + 1 → nxt sz (runQ sz q j) ≠ none := fun j hj e => c ⟨j, by omega, decide_eq_true e⟩
    have h1 := run_count (q.length + 1) hne
    have h2 : q.count (-1) ≤ q.length := List.count_le_length
    omega
  obtain ⟨m, hm, p, o⟩ := first_of (fun i => decide (nxt sz (runQ sz q i) = none)) n pn
  have hs : ∀ i, i < m → nxt sz (runQ sz q i) = some (runS sz q i) := fun i hi => by
    have h := of_decide_eq_false (o i hi)
    unfold runS
    cases e : nxt sz (runQ sz q i) with
    | none => exact absurd e h
    | some p => rfl
  refine ⟨m, rfl, hs, fun i hi => ?_, of_decide_eq_true p, by omega⟩
  show (match nxt sz (runQ sz q i) with
    | some p => (runQ sz q i).set p.1 (p.2 : Int)
    | none => runQ sz q i) = _
  rw [hs i hi]
theorem Run.ok {sz : List Nat} {q : List Int} {Q : Nat → List Int} {S : Nat → Nat × Nat} {m : Nat} (r : Run sz q Q S m) (d : Dok sz q) : ∀ i, i ≤ m → Dok sz (Q i) ∧ (Q i).length = q.length
  | 0, _ => by rw [r.fst]; exact ⟨d, rfl⟩
  | i + 1, h => by
    obtain ⟨a, b⟩ := r.ok d i (by omega)
    obtain ⟨_, _, _, _, e⟩ := nxt_some (r.nx i (by omega))
    rw [r.step i (by omega)]
    exact ⟨a.set e, by rw [List.length_set, b]⟩
def stepsL (S : Nat → Nat × Nat) (m : Nat) : List (Nat × Nat) := (List.range m).map S
theorem steps_succ (S : Nat → Nat × Nat) (m : Nat) : stepsL S (m + 1) = stepsL S m ++ [S m] := by
  unfold stepsL
  rw [List.range_succ, List.map_append]
  rfl
theorem steps_len (S : Nat → Nat × Nat) (m : Nat) : (stepsL S m).length = m := by
  unfold stepsL
  rw [List.length_map, List.length_range]
def stuckD (sz : List Nat) (q : List Int) : D := match narP sz q with
  | none => .non
  | some pl => .int pl
def runD (sz : List Nat) (Q : Nat → List Int) (S : Nat → Nat × Nat) (m : Nat) : D := .tup [ti (Q m), .lst ((stepsL S m).map Dr), stuckD sz (Q m)]
theorem nar_last {sz : List Nat} {q : List Int} (h : nxt sz q = none) : narD sz q = .non ∨ ∃ pl : Nat, narD sz q = .tup [.int pl, ti []] ∧ stuckD sz q = .int pl := by
  rcases nxt_none h with e | ⟨pl, e, e2⟩
  · left
    unfold narD
    rw [e]
  · right
    refine ⟨pl, ?_, ?_⟩
    · unfold narD
      rw [e]
      show D.tup [.int pl, ti (openL sz q pl)] = _
      rw [openL_N, e2]
      rfl
    · unfold stuckD
      rw [e]
theorem nar_step {sz : List Nat} {q : List Int} {p : Nat × Nat} (h : nxt sz q = some p) : narD sz q = .tup [.int p.1, ti [(p.2 : Int)]] := by
  obtain ⟨a, b, _⟩ := nxt_some h
  unfold narD
  rw [a]
  show D.tup [.int p.1, ti (openL sz q p.1)] = _
  rw [openL_N, b]
  rfl
theorem stuck_none {sz : List Nat} {q : List Int} (h : narD sz q = .non) : stuckD sz q = .non := by
  unfold narD at h
  unfold stuckD
  cases e : narP sz q with
  | none => rfl
  | some pl => rw [e] at h; cases h
theorem ixt0 (x : D) (r : List D) : D.ix (.tup (x :: r)) (.int 0) = pure x := by
  rw [ix_tup (by omega) (by simp)]
  rfl
def runB (sz : List Nat) (q : List Int) (m : Nat) : Bool := decide (m ≤ q.length) && ((List.range m).all fun i => (nxt sz (runQ sz q i)).isSome) && (nxt sz (runQ sz q m)).isNone
theorem run_dec {sz : List Nat} {q : List Int} {m : Nat} (h : runB sz q m = true) : Run sz q (runQ sz q) (runS sz q) m := by
  unfold runB at h
  rw [Bool.and_eq_true, Bool.and_eq_true, decide_eq_true_iff, List.all_eq_true] at h
  have hs : ∀ i, i < m → nxt sz (runQ sz q i) = some (runS sz q i) := fun i hi => by
    have := h.1.2 i (List.mem_range.mpr hi)
    unfold runS
    cases e : nxt sz (runQ sz q i) with
    | none => rw [e] at this; cases this
    | some p => rfl
  refine ⟨rfl, hs, fun i hi => ?_, ?_, h.1.1⟩
  · show (match nxt sz (runQ sz q i) with
      | some p => (runQ sz q i).set p.1 (p.2 : Int)
      | none => runQ sz q i) = _
    rw [hs i hi]
  · have := h.2
    cases e : nxt sz (runQ sz q m) with
    | none => rfl
    | some p => rw [e] at this; cases this
theorem Dok.rev {sz : List Nat} {q : List Int} (d : Dok sz q) : Dok sz q.reverse := ⟨by rw [List.length_reverse]; exact d.len, fun x hx => d.els x (List.mem_reverse.mp hx)⟩
/-! ### ways to fill -/
def sel (k : Nat) (x : Int) : List Nat := (List.range k).filter fun o : Nat => decide ((o : Int) = x) || decide (x = -1)
def wayStep (k : Nat) (x : Int) (ls : List (List Int)) : List (List Int) := ls.flatMap fun p => (sel k x).map fun o : Nat => p ++ [(o : Int)]
def waysF (k : Nat) (q : List Int) (ls : List (List Int)) : List (List Int) := q.foldl (fun ls x => wayStep k x ls) ls
def setStep (k pl : Nat) (ls : List (List Int)) : List (List Int) := ls.flatMap fun s => (List.range k).map fun h : Nat => s.set pl (h : Int)
def fillAll (k : Nat) (ps : List Nat) (ls : List (List Int)) : List (List Int) := ps.foldl (fun ls pl => setStep k pl ls) ls
def blF (n : Nat) : List Int → List Nat
  | [] => []
  | x :: r => if x = -1 then n :: blF (n + 1) r else blF (n + 1) r
theorem blF_eq : ∀ (q : List Int) (n : Nat), blF n q = (blanksL q).map (· + n)
  | [], n => rfl
  | x :: r, n => by
    unfold blanksL
    rw [List.length_cons, List.range_succ_eq_map, List.filter_cons, blF, blF_eq r (n + 1)]
    unfold blanksL
    rw [List.filter_map]
    have e : ((fun i => decide ((x :: r).getD i 0 = -1)) ∘ Nat.succ) = fun i => decide (r.getD i 0 = -1) := by
      funext i
      simp
    rw [e]
    by_cases c : x = -1
    · rw [if_pos c, if_pos (by simpa using c), List.map_cons, List.map_map, Nat.zero_add]
      congr 2
      funext i
      simp only [Function.comp]
      omega
    · rw [if_neg c, if_neg (by simpa using c), List.map_map]
      congr 1
      funext i
      simp only [Function.comp]
      omega
theorem sel_blank (k : Nat) : sel k (-1) = List.range k := by
  unfold sel
  rw [List.filter_eq_self]
  intro a _
  simp
theorem sel_one {k : Nat} {x : Int} (h0 : 0 ≤ x) (h1 : x < k) : sel k x = [x.toNat] := by
  unfold sel
  have e : (fun o : Nat => decide ((o : Int) = x) || decide (x = -1)) = fun o => o == x.toNat := by
    funext o
    rw [decide_eq_false (show ¬ x = -1 by omega), Bool.or_false, Bool.eq_iff_iff, decide_eq_true_iff, beq_iff_eq]
    omega
  rw [e]
  obtain ⟨n, rfl⟩ : ∃ n : Nat, x = n := ⟨x.toNat, by omega⟩
  rw [Int.toNat_natCast]
  have hn : n < k := by omega
  clear e h0 h1
  induction k with
  | zero => omega
  | succ k ih =>
    rw [List.range_succ, List.filter_append]
    by_cases c : n = k
    · subst c
      rw [List.filter_eq_nil_iff.mpr fun a ha => by
        have := List.mem_range.mp ha
        simp
        omega]
      simp
    · rw [ih (by omega), List.filter_cons_of_neg (by simp; omega)]
      rfl
theorem set_app (p r : List Int) (x h : Int) : (p ++ x :: r).set p.length h = (p ++ [h]) ++ r := by
  rw [List.set_append]
  simp
theorem flat_congr {α β : Type} {f g : α → List β} : ∀ {l : List α}, (∀ x ∈ l, f x = g x) → l.flatMap f = l.flatMap g
  | [], _ => rfl
  | x :: r, h => by
    rw [List.flatMap_cons, List.flatMap_cons, h x List.mem_cons_self, flat_congr fun y hy => h y (List.mem_cons_of_mem _ hy)]
theorem flat_one (x : Int) (r : List Int) : ∀ ls : List (List Int), ls.map (· ++ x :: r) = ls.flatMap fun a => [a ++ [x] ++ r]
  | [] => rfl
  | a :: b => by
    rw [List.map_cons, List.flatMap_cons, flat_one x r b]
    simp
theorem fill_ways {k : Nat} : ∀ (r : List Int) (n : Nat) (ls : List (List Int)), (∀ p ∈ ls, p.length = n) → (∀ x ∈ r, -1 ≤ x ∧ x < k) → fillAll k (blF n r) (ls.map (· ++ r)) = waysF k r ls
  | [], n, ls, _, _ => by
    show ls.map (· ++ []) = ls
    simp
  | x :: r, n, ls, hl, hb => by
    have hx := hb x List.mem_cons_self
    have hr : ∀ y ∈ r, -1 ≤ y ∧ y < k := fun y hy => hb y (List.mem_cons_of_mem _ hy)
    have hl2 : ∀ p ∈ wayStep k x ls, p.length = n + 1 := fun p hp => by
      obtain ⟨s, hs, hp⟩ := List.mem_flatMap.mp hp
      obtain ⟨o, _, rfl⟩ := List.mem_map.mp hp
      rw [List.length_append, hl s hs]
      rfl
    have ih := fill_ways r (n + 1) (wayStep k x ls) hl2 hr
    show fillAll k (blF n (x :: r)) _ = waysF k r (wayStep k x ls)
    rw [← ih, blF]
    by_cases c : x = -1
    · subst c
      rw [if_pos rfl]
      show fillAll k (blF (n + 1) r) (setStep k n (ls.map (· ++ (-1) :: r))) = _
      congr 1
      unfold setStep wayStep
      rw [List.flatMap_map, List.map_flatMap, sel_blank]
      refine flat_congr fun p hp => ?_
      rw [List.map_map]
      apply List.map_congr_left
      intro h _
      have := hl p hp
      subst this
      exact set_app p r (-1) h
    · rw [if_neg c]
      congr 1
      unfold wayStep
      rw [sel_one (by omega) hx.2, List.map_flatMap]
      simp only [List.map_cons, List.map_nil]
      rw [show ((x.toNat : Nat) : Int) = x by omega]
      exact flat_one x r ls
theorem bars_nil {sz : List Nat} (z : Szs sz) {q : List Int} {pl h : Nat} (hh : h < sz.length) : barsL q (sz.getD h 0) pl h = [] ↔ ∀ f st : Nat, 1 ≤ st → f + (sz.getD h 0 - 1) * st < q.length → (∃ k, k < sz.getD h 0 ∧ f + k * st = pl) → ¬ ∀ k, k < sz.getD h 0 → f + k * st = pl ∨ q.getD (f + k * st) 0 = (h : Int) := by
  have hs := (z.at hh).1
  unfold barsL
  rw [List.filter_eq_nil_iff]
  constructor
  · intro g f st h1 h2 h3 h4
    have hm : (f, st) ∈ through q.length (sz.getD h 0) pl := List.mem_filter.mpr ⟨(rows_mem hs).mpr ⟨h2, h1⟩, by
      obtain ⟨k, hk, e⟩ := h3
      exact List.any_eq_true.mpr ⟨k, List.mem_range.mpr hk, decide_eq_true e⟩⟩
    refine g _ hm ?_
    unfold barC
    rw [List.all_eq_true]
    intro k hk
    rw [Bool.or_eq_true, decide_eq_true_iff, decide_eq_true_iff]
    exact h4 k (List.mem_range.mp hk)
  · intro g p hp hb
    obtain ⟨h1, h2⟩ := List.mem_filter.mp hp
    obtain ⟨h3, h4⟩ := (rows_mem hs).mp h1
    obtain ⟨k, hk, e⟩ := List.any_eq_true.mp h2
    refine g p.1 p.2 h4 h3 ⟨k, List.mem_range.mp hk, of_decide_eq_true e⟩ fun k hk => ?_
    unfold barC at hb
    rw [List.all_eq_true] at hb
    have := hb k (List.mem_range.mpr hk)
    rwa [Bool.or_eq_true, decide_eq_true_iff, decide_eq_true_iff] at this
theorem good_set {sz : List Nat} (z : Szs sz) {q : List Int} {pl h : Nat} (hp : pl < q.length) (hb : q.getD pl 0 = -1) (hh : h < sz.length) : Good sz (q.set pl (h : Int)) ↔ Good sz q ∧ barsL q (sz.getD h 0) pl h = [] := by
  rw [bars_nil z hh]
  constructor
  · intro g
    refine ⟨fun h' hh' f st h1 h2 h3 => ?_, fun f st h1 h2 ⟨k, hk, e⟩ h3 => ?_⟩
    · refine g h' hh' f st h1 (by rw [List.length_set]; exact h2) fun k hk => ?_
      rw [set_getD hp]
      by_cases c : f + k * st = pl
      · have := h3 k hk
        rw [c, hb] at this
        omega
      · rw [if_neg c]
        exact h3 k hk
    · refine g h hh f st h1 (by rw [List.length_set]; exact h2) fun k hk => ?_
      rw [set_getD hp]
      by_cases c : f + k * st = pl
      · rw [if_pos c]
      · rw [if_neg c]
        exact (h3 k hk).resolve_left c
  · rintro ⟨g, nb⟩ h' hh' f st h1 h2 h3
    rw [List.length_set] at h2
    by_cases c : ∃ k, k < sz.getD h' 0 ∧ f + k * st = pl
    · obtain ⟨k, hk, e⟩ := c
      have e1 := h3 k hk
      rw [set_getD hp, if_pos e] at e1
      have : h' = h := by omega
      subst this
      refine nb f st h1 h2 ⟨k, hk, e⟩ fun j hj => ?_
      by_cases c : f + j * st = pl
      · exact .inl c
      · have := h3 j hj
        rw [set_getD hp, if_neg c] at this
        exact .inr this
    · refine g h' hh' f st h1 h2 fun k hk => ?_
      have := h3 k hk
      rw [set_getD hp, if_neg fun e => c ⟨k, hk, e⟩] at this
      exact this
def cln (sz : List Nat) (l : List Int) : Bool := decide (wrongS sz l = [])
theorem cln_good {sz : List Nat} (z : Szs sz) {l : List Int} : cln sz l = true ↔ Good sz l := by
  unfold cln
  rw [decide_eq_true_iff]
  exact wrongS_nil z
theorem cln_set {sz : List Nat} (z : Szs sz) {q : List Int} {pl h : Nat} (hp : pl < q.length) (hb : q.getD pl 0 = -1) (hh : h < sz.length) : cln sz (q.set pl (h : Int)) = (cln sz q && decide (barsL q (sz.getD h 0) pl h = [])) := by
  rw [Bool.eq_iff_iff, Bool.and_eq_true, cln_good z, cln_good z, decide_eq_true_iff]
  exact good_set z hp hb hh
def openStep (sz : List Nat) (pl : Nat) (ls : List (List Int)) : List (List Int) := ls.flatMap fun s => (openN sz s pl).map fun h : Nat => s.set pl (h : Int)
theorem open_clean {sz : List Nat} (z : Szs sz) {pl : Nat} : ∀ {ls : List (List Int)}, (∀ s ∈ ls, pl < s.length ∧ s.getD pl 0 = -1) → openStep sz pl (ls.filter (cln sz)) = (setStep sz.length pl ls).filter (cln sz)
  | [], _ => rfl
  | s :: r, h => by
    obtain ⟨h1, h2⟩ := h s List.mem_cons_self
    have ih := open_clean z fun s hs => h s (List.mem_cons_of_mem _ hs)
    unfold openStep setStep at ih ⊢
    rw [List.flatMap_cons, List.filter_append, ← ih, List.filter_map]
    have e : (List.range sz.length).filter (cln sz ∘ fun h : Nat => s.set pl (h : Int)) = (List.range sz.length).filter fun h => cln sz s && decide (barsL s (sz.getD h 0) pl h = []) := by
      apply List.filter_congr
      intro a ha
      exact cln_set z h1 h2 (List.mem_range.mp ha)
    rw [e, List.filter_cons]
    cases c : cln sz s with
    | true =>
      rw [if_pos rfl, List.flatMap_cons]
      simp only [Bool.true_and]
      rfl
    | false =>
      rw [if_neg (by decide)]
      simp
theorem fill_take {k : Nat} {bs : List Nat} {ls : List (List Int)} {i pl : Nat} (h : bs[i]? = some pl) : fillAll k (bs.take (i + 1)) ls = setStep k pl (fillAll k (bs.take i) ls) := by
  unfold fillAll
  rw [List.take_add_one, h, List.foldl_append]
  rfl
theorem setStep_len (k pl : Nat) : ∀ ls : List (List Int), (setStep k pl ls).length = k * ls.length
  | [] => rfl
  | s :: r => by
    have ih := setStep_len k pl r
    unfold setStep at ih ⊢
    rw [List.flatMap_cons, List.length_append, ih, List.length_map, List.length_range, List.length_cons, Nat.mul_succ, Nat.add_comm]
theorem fill_len {k : Nat} {bs : List Nat} {q : List Int} : ∀ i, i ≤ bs.length → (fillAll k (bs.take i) [q]).length = k ^ i
  | 0, _ => rfl
  | i + 1, h => by
    rw [fill_take (List.getElem?_eq_getElem (show i < bs.length by omega)), setStep_len, fill_len i (by omega), Nat.pow_succ, Nat.mul_comm]
theorem blanks_rise (q : List Int) : (blanksL q).Pairwise (· < ·) := List.pairwise_lt_range.filter _
theorem blanks_ne {q : List Int} {i j a b : Nat} (h : (blanksL q)[i]? = some a) (h2 : (blanksL q)[j]? = some b) (hij : i < j) : a < b := by
  obtain ⟨p1, rfl⟩ := List.getElem?_eq_some_iff.mp h
  obtain ⟨p2, rfl⟩ := List.getElem?_eq_some_iff.mp h2
  exact List.pairwise_iff_getElem.mp (blanks_rise q) i j p1 p2 hij
theorem fill_els {sz : List Nat} {q : List Int} (d : Dok sz q) : ∀ i, i ≤ (blanksL q).length → ∀ s ∈ fillAll sz.length ((blanksL q).take i) [q], s.length = q.length ∧ Dok sz s ∧ ∀ j pl, i ≤ j → (blanksL q)[j]? = some pl → s.getD pl 0 = -1
  | 0, _, s, hs => by
    have : s = q := List.mem_singleton.mp hs
    subst this
    exact ⟨rfl, d, fun j pl _ h => (blanks_mem (List.mem_of_getElem? h)).2⟩
  | i + 1, hi, s, hs => by
    have hg := List.getElem?_eq_getElem (show i < (blanksL q).length by omega)
    rw [fill_take hg] at hs
    obtain ⟨s', hs', hs⟩ := List.mem_flatMap.mp hs
    obtain ⟨h, hh, rfl⟩ := List.mem_map.mp hs
    obtain ⟨h1, h2, h3⟩ := fill_els d i (by omega) s' hs'
    have hpl := (blanks_mem (List.mem_of_getElem? hg)).1
    refine ⟨by rw [List.length_set]; exact h1, h2.set (List.mem_range.mp hh), fun j pl hj hjp => ?_⟩
    rw [set_getD (by rw [h1]; exact hpl), if_neg (by have := blanks_ne hg hjp (by omega); omega)]
    exact h3 j pl (by omega) hjp
theorem pow_mono {k b i : Nat} (hk : 1 ≤ k) (h : i ≤ b) : k ^ i ≤ k ^ b := Nat.pow_le_pow_right hk h
theorem fillL_few {sz : List Nat} {q : List Int} (hk : 1 ≤ sz.length) (hf : sz.length ^ (blanksL q).length ≤ 512) {i : Nat} (hi : i ≤ (blanksL q).length) : (fillAll sz.length ((blanksL q).take i) [q]).length ≤ 512 := by
  rw [fill_len i hi]
  exact Nat.le_trans (pow_mono hk hi) hf
theorem open_hues_list {sz : List Nat} (z : Szs sz) {s : List Int} {pl : Nat} (hl : s.length ≤ 100) (hp : pl < s.length) : lcF (pure ((openL sz s pl).map D.int)) tg1 (fun _ => pure true) (fun v_hue => D_with_hue [ti s, .int pl, v_hue]) = pure (((openN sz s pl).map fun h : Nat => s.set pl (h : Int)).map ti) := by
  rw [lcF_map1 (fun d => match d with | .int i => ti (s.set pl i) | d => d) ?_ fun x hx => ?_]
  · rw [openL_N, List.map_map, List.map_map, List.map_map]
    rfl
  · rw [List.length_map, openL_len]
    unfold openN
    refine Nat.le_trans (List.length_filter_le _ _) ?_
    rw [List.length_range]
    have := z.few
    omega
  · obtain ⟨h, _, rfl⟩ := List.mem_map.mp hx
    exact with_hue_eq hp (by omega) h
theorem openStep_len {sz : List Nat} {pl : Nat} : ∀ ls : List (List Int), (openStep sz pl ls).length ≤ sz.length * ls.length
  | [] => Nat.zero_le _
  | s :: r => by
    have ih := openStep_len (sz := sz) (pl := pl) r
    unfold openStep at ih ⊢
    rw [List.flatMap_cons, List.length_append, List.length_map, List.length_cons, Nat.mul_succ]
    have : (openN sz s pl).length ≤ sz.length := Nat.le_trans (List.length_filter_le _ _) (by rw [List.length_range]; exact Nat.le_refl _)
    omega
theorem open_step_eq {sz : List Nat} (z : Szs sz) {pl : Nat} {ls : List (List Int)} (hn : ls.length ≤ 512) (hs : ∀ s ∈ ls, s.length ≤ 100 ∧ pl < s.length) {L : Type} : forM (L := L) (fun v_some (s2 : List D) => lcF (D_open_at [tn sz, v_some, .int pl] >>= itemsL) tg1 (fun _ => pure true) (fun v_hue => D_with_hue [v_some, .int pl, v_hue]) >>= fun es => guard (s2.length + es.length ≤ line) >>= fun _ => pure (.nx (s2 ++ es))) (ls.map ti) [] = pure (.nx ((openStep sz pl ls).map ti)) := by
  have zf := z.few
  rw [forM_run (s := ([] : List D)) (fun i => (openStep sz pl (ls.take i)).map ti) rfl fun i x hx => ?_]
  · rw [List.length_map, List.take_length]
  · rw [List.getElem?_map, Option.map_eq_some_iff] at hx
    obtain ⟨s, hs2, rfl⟩ := hx
    obtain ⟨h1, h2⟩ := hs s (List.mem_of_getElem? hs2)
    rw [open_at_eq z h1 h2, pure_bind, show itemsL (ti (openL sz s pl)) = pure ((openL sz s pl).map D.int) from rfl, open_hues_list z h1 h2, pure_bind]
    have l1 := openStep_len (sz := sz) (pl := pl) (ls.take i)
    rw [List.length_take] at l1
    have l2 : (openN sz s pl).length ≤ sz.length := Nat.le_trans (List.length_filter_le _ _) (by rw [List.length_range]; exact Nat.le_refl _)
    have l3 : sz.length * min i ls.length ≤ 4 * 512 := Nat.mul_le_mul zf (by omega)
    rw [grd_line (by rw [List.length_map, List.length_map, List.length_map]; omega), List.take_add_one, hs2]
    unfold openStep
    rw [List.flatMap_append, List.map_append]
    simp
/-- all fillings -/
def fillL (sz : List Nat) (q : List Int) : List (List Int) := (waysF sz.length q [[]]).filter (cln sz)
theorem fillL_eq {sz : List Nat} {q : List Int} (d : Dok sz q) : fillL sz q = (fillAll sz.length (blanksL q) [q]).filter (cln sz) := by
  unfold fillL
  rw [← fill_ways q 0 [[]] (by simp) d.els, blF_eq]
  simp
theorem ways_to_put_eq {sz : List Nat} (z : Szs sz) {q : List Int} (d : Dok sz q) (hf : max 2 sz.length ^ (blanksL q).length ≤ 512) : D_ways_to_put [tn sz, ti q] = pure (.int (max 2 sz.length ^ (blanksL q).length : Nat)) := by
  have zf := z.few
  have hq := d.len
  rw [D_ways_to_put_eq]
  unfold B_ways_to_put
  simp only [callM_def, seqL_cons, seqL_nil, pure_bind, blanks_eq (show q.length ≤ 1000 by omega), items_lst, forF_def, tg1_def, bin_def, f1_one, len_tn]
  rw [forM_run (s := D.int 1) (fun i => .int (max 2 sz.length ^ i : Nat)) rfl fun i x hx => ?_]
  · rw [List.length_map]
    simp only [seqM_nx, endB_rt, pure_bind]
  · have hi := (List.getElem?_eq_some_iff.mp hx).1
    rw [List.length_map] at hi
    rw [show f2 D.max2 [.int 2, .int sz.length] = pure (.int ((max 2 sz.length : Nat) : Int)) from by
      show pure (D.int _) = pure (D.int _)
      congr 2
      omega]
    have : max 2 sz.length ^ i ≤ 512 := Nat.le_trans (pow_mono (by omega) (Nat.le_of_lt hi)) hf
    rw [pure_bind, mul_ok (.inr ⟨by omega, by omega⟩), pure_bind, Nat.pow_succ]
    push_cast
    rfl
theorem need_few_eq {sz : List Nat} (z : Szs sz) {q : List Int} (d : Dok sz q) (hf : max 2 sz.length ^ (blanksL q).length ≤ 512) : D_need_few [tn sz, ti q, .int 512] = pure .non := by
  rw [D_need_few_eq]
  unfold B_need_few
  simp only [callM_def, seqL_cons, seqL_nil, pure_bind, need_draft_eq z d.len d.els, ways_to_put_eq z d hf, bin_def, gt_int, asB_def, isB_bl]
  rw [decide_eq_false (by omega)]
  rfl
theorem few_of {sz : List Nat} {q : List Int} (hf : max 2 sz.length ^ (blanksL q).length ≤ 512) : sz.length ^ (blanksL q).length ≤ 512 := Nat.le_trans (Nat.pow_le_pow_left (by omega) _) hf
def firstD : List (List Int) → D
  | [] => .non
  | a :: _ => ti a
/-! ### texts of tuples of numbers -/
theorem cps_app (a b : Str) : (a ++ b).cps.toList = a.cps.toList ++ b.cps.toList := by
  show (a.cps ++ b.cps).toList = _
  rw [Array.toList_append]
theorem strOk_app (a b : Str) : PyData.strOk (a ++ b) = (PyData.strOk a && PyData.strOk b) := by
  unfold PyData.strOk
  rw [← Array.all_toList, ← Array.all_toList, ← Array.all_toList, cps_app, List.all_append]
theorem strOk_join (s : Str) (hs : PyData.strOk s = true) : ∀ ts : List Str, (∀ t ∈ ts, PyData.strOk t = true) → PyData.strOk (Str.join s ts) = true
  | [], _ => by
    show PyData.strOk Str.empty = true
    decide +kernel
  | [x], h => h x List.mem_cons_self
  | x :: y :: r, h => by
    show PyData.strOk (x ++ s ++ Str.join s (y :: r)) = true
    rw [strOk_app, strOk_app, hs, h x List.mem_cons_self, strOk_join s hs (y :: r) fun t ht => h t (List.mem_cons_of_mem _ ht)]
    rfl
theorem strOk_int (i : Int) : PyData.strOk ((toString i : String) : Str) = true := by
  unfold PyData.strOk
  rw [← Array.all_toList, List.all_eq_true]
  intro c hc
  apply decide_eq_true
  apply Classical.byContradiction
  intro h
  exact PyProof.Rows.int_text_free' c (by omega) i hc
theorem strOk_tup {xs : List D} (h : ∀ x ∈ xs, PyData.strOk x.shown = true) : PyData.strOk (D.shown (.tup xs)) = true := by
  have e : ∀ xs : List D, PyData.shownAll (D.pys xs) = xs.map D.shown := fun xs => by
    induction xs with
    | nil => simp [D.pys, PyData.shownAll]
    | cons x r ih => simp [D.pys, PyData.shownAll, ih, D.shown]
  unfold D.shown
  rw [D.py, PyData.shown, e]
  unfold PySem.tupleText
  rw [strOk_app, strOk_app, strOk_join _ (by decide +kernel) _ fun t ht => by
    obtain ⟨x, hx, rfl⟩ := List.mem_map.mp ht
    exact h x hx]
  rw [show PyData.strOk ("(" : Str) = true from by decide +kernel, Bool.true_and, Bool.true_and]
  split <;> decide +kernel
theorem strOk_ishown (i : Int) : PyData.strOk (D.shown (.int i)) = true := by
  unfold D.shown
  rw [D.py, PyData.shown]
  exact strOk_int i
theorem strOk_Dr (p : Nat × Nat) : PyData.strOk (D.shown (Dr p)) = true := strOk_tup fun x hx => by
  rcases List.mem_cons.mp hx with rfl | hx
  · exact strOk_ishown _
  · rw [List.mem_singleton.mp hx]
    exact strOk_ishown _
/-! ### a tuple's text tells the tuple -/
def sh (d : D) : List Nat := d.shown.cps.toList
def jG' : List (List Nat) → List Nat
  | [] => [41]
  | [t] => t ++ [41]
  | t :: u :: r => t ++ 44 :: 32 :: jG' (u :: r)
def jG : List (List Nat) → List Nat
  | [] => [41]
  | [t] => t ++ [44, 41]
  | t :: u :: r => t ++ 44 :: 32 :: jG' (u :: r)
theorem split44 : ∀ {t u x y : List Nat}, 44 ∉ t → 44 ∉ u → t ++ 44 :: x = u ++ 44 :: y → t = u ∧ x = y
  | [], [], x, y, _, _, h => ⟨rfl, (List.cons.inj h).2⟩
  | [], b :: u, x, y, _, hu, h => absurd (by rw [(List.cons.inj h).1]; exact List.mem_cons_self) hu
  | a :: t, [], x, y, ht, _, h => absurd (by rw [← (List.cons.inj h).1]; exact List.mem_cons_self) ht
  | a :: t, b :: u, x, y, ht, hu, h => by
    obtain ⟨h1, h2⟩ := List.cons.inj h
    obtain ⟨h3, h4⟩ := split44 (fun z => ht (List.mem_cons_of_mem _ z)) (fun z => hu (List.mem_cons_of_mem _ z)) h2
    exact ⟨by rw [h1, h3], h4⟩
theorem no44 {t x u : List Nat} (ht : 44 ∉ t) (h : t ++ [41] = u ++ 44 :: x) : False := by
  have : 44 ∈ t ++ [41] := by rw [h]; simp
  rcases List.mem_append.mp this with h | h
  · exact ht h
  · simp at h
theorem jG'_inj : ∀ {ts us : List (List Nat)}, ts ≠ [] → us ≠ [] → (∀ t ∈ ts, 44 ∉ t) → (∀ t ∈ us, 44 ∉ t) → jG' ts = jG' us → ts = us
  | [], _, h, _, _, _, _ => absurd rfl h
  | _ :: _, [], _, h, _, _, _ => absurd rfl h
  | [t], [u], _, _, _, _, h => by rw [List.append_cancel_right h]
  | [t], u :: v :: r, _, _, h1, _, h => (no44 (h1 t List.mem_cons_self) h).elim
  | t :: t' :: r, [u], _, _, _, h2, h => (no44 (h2 u List.mem_cons_self) h.symm).elim
  | t :: t' :: r, u :: u' :: r', _, _, h1, h2, h => by
    obtain ⟨a, b⟩ := split44 (h1 t List.mem_cons_self) (h2 u List.mem_cons_self) h
    have := jG'_inj (ts := t' :: r) (us := u' :: r') (List.cons_ne_nil _ _) (List.cons_ne_nil _ _) (fun z hz => h1 z (List.mem_cons_of_mem _ hz)) (fun z hz => h2 z (List.mem_cons_of_mem _ hz)) (List.cons.inj b).2
    rw [a, this]
theorem jG_inj : ∀ {ts us : List (List Nat)}, (∀ t ∈ ts, 44 ∉ t) → (∀ t ∈ us, 44 ∉ t) → jG ts = jG us → ts = us
  | [], [], _, _, _ => rfl
  | [], [u], _, _, h => (no44 (t := []) (by simp) h).elim
  | [], u :: v :: r, _, _, h => (no44 (t := []) (by simp) h).elim
  | [t], [], _, _, h => (no44 (t := []) (by simp) h.symm).elim
  | t :: v :: r, [], _, _, h => (no44 (t := []) (by simp) h.symm).elim
  | [t], [u], h1, h2, h => by rw [(split44 (h1 t List.mem_cons_self) (h2 u List.mem_cons_self) h).1]
  | [t], u :: v :: r, h1, h2, h => by
    have := (split44 (h1 t List.mem_cons_self) (h2 u List.mem_cons_self) h).2
    cases this
  | t :: v :: r, [u], h1, h2, h => by
    have := (split44 (h1 t List.mem_cons_self) (h2 u List.mem_cons_self) h).2
    cases this
  | t :: t' :: r, u :: u' :: r', h1, h2, h => by
    obtain ⟨a, b⟩ := split44 (h1 t List.mem_cons_self) (h2 u List.mem_cons_self) h
    have := jG'_inj (ts := t' :: r) (us := u' :: r') (List.cons_ne_nil _ _) (List.cons_ne_nil _ _) (fun z hz => h1 z (List.mem_cons_of_mem _ hz)) (fun z hz => h2 z (List.mem_cons_of_mem _ hz)) (List.cons.inj b).2
    rw [a, this]
theorem mem_jG' {c : Nat} : ∀ {ts : List (List Nat)}, c ∈ jG' ts ↔ c = 41 ∨ (∃ t ∈ ts, c ∈ t) ∨ (2 ≤ ts.length ∧ (c = 44 ∨ c = 32))
  | [] => by simp [jG']
  | [t] => by simp [jG', or_comm]
  | t :: u :: r => by
    rw [jG', List.mem_append, List.mem_cons, List.mem_cons, mem_jG' (ts := u :: r)]
    simp only [List.mem_cons, List.length_cons, exists_eq_or_imp]
    constructor
    · rintro (h | h | h | h | h | ⟨_, h⟩)
      · exact .inr (.inl (.inl h))
      · exact .inr (.inr ⟨by omega, .inl h⟩)
      · exact .inr (.inr ⟨by omega, .inr h⟩)
      · exact .inl h
      · exact .inr (.inl (.inr h))
      · exact .inr (.inr ⟨by omega, h⟩)
    · rintro (h | (h | h) | ⟨_, h | h⟩)
      · exact .inr (.inr (.inr (.inl h)))
      · exact .inl h
      · exact .inr (.inr (.inr (.inr (.inl h))))
      · exact .inr (.inl h)
      · exact .inr (.inr (.inl h))
theorem mem_jG {c : Nat} {ts : List (List Nat)} : c ∈ jG ts → c = 41 ∨ c = 44 ∨ c = 32 ∨ ∃ t ∈ ts, c ∈ t := by
  match ts with
  | [] =>
    intro h
    simp [jG] at h
    exact .inl h
  | [t] =>
    intro h
    simp [jG] at h
    rcases h with h | h | h
    · exact .inr (.inr (.inr ⟨t, List.mem_cons_self, h⟩))
    · exact .inr (.inl h)
    · exact .inl h
  | t :: u :: r =>
    intro h
    rw [jG, List.mem_append, List.mem_cons, List.mem_cons, mem_jG'] at h
    rcases h with h | h | h | h | ⟨z, hz, h⟩ | ⟨_, h⟩
    · exact .inr (.inr (.inr ⟨t, List.mem_cons_self, h⟩))
    · exact .inr (.inl h)
    · exact .inr (.inr (.inl h))
    · exact .inl h
    · exact .inr (.inr (.inr ⟨z, List.mem_cons_of_mem _ hz, h⟩))
    · rcases h with h | h
      · exact .inr (.inl h)
      · exact .inr (.inr (.inl h))
theorem jG_mem {c : Nat} {ts : List (List Nat)} {t : List Nat} (ht : t ∈ ts) (h : c ∈ t) : c ∈ jG ts := by
  match ts with
  | [] => cases ht
  | [u] =>
    rw [List.mem_singleton.mp ht] at h
    exact List.mem_append_left _ h
  | u :: v :: r =>
    rw [jG]
    rcases List.mem_cons.mp ht with rfl | ht
    · exact List.mem_append_left _ h
    · exact List.mem_append_right _ (List.mem_cons_of_mem _ (List.mem_cons_of_mem _ (mem_jG'.mpr (.inr (.inl ⟨t, ht, h⟩)))))
theorem sh_all (xs : List D) : PyData.shownAll (D.pys xs) = xs.map D.shown := by
  induction xs with
  | nil => simp [D.pys, PyData.shownAll]
  | cons x r ih => simp [D.pys, PyData.shownAll, ih, D.shown]
theorem join_jG' : ∀ {ts : List Str}, ts ≠ [] → (Str.join ", " ts).cps.toList ++ [41] = jG' (ts.map fun t => t.cps.toList)
  | [], h => absurd rfl h
  | [t], _ => rfl
  | t :: u :: r, _ => by
    rw [PyProof.Rows.join_cons_cons, cps_app, cps_app, PyProof.Rows.signs_sep, List.append_assoc, join_jG' (List.cons_ne_nil u r), List.append_assoc]
    rfl
theorem sh_tup (xs : List D) : sh (.tup xs) = 40 :: jG (xs.map sh) := by
  unfold sh D.shown
  rw [D.py, PyData.shown, sh_all]
  unfold PySem.tupleText
  rw [cps_app, cps_app, PyProof.Rows.signs_lparen]
  match xs with
  | [] => rfl
  | [x] => rfl
  | x :: y :: r =>
    rw [if_neg (by simp), show ((")" : String) : Str).cps.toList = [41] from by decide, List.append_assoc, join_jG' (by simp), List.map_map]
    rfl
/-- a whole number's text, read -/
def valT (l : List Nat) : Int := match l with
  | 45 :: r => -(r.foldl (fun (a : Int) (c : Nat) => a * 10 + ((c : Int) - 48)) (0 : Int))
  | r => r.foldl (fun (a : Int) (c : Nat) => a * 10 + ((c : Int) - 48)) (0 : Int)
theorem val_all : ((List.range 201).all fun k : Nat => decide (valT ((toString ((k : Int) - 100) : String).toList.map Char.toNat) = (k : Int) - 100)) = true := by decide +kernel
theorem sh_int (i : Int) : sh (.int i) = ((toString i : String) : Str).cps.toList := by
  unfold sh D.shown
  rw [D.py, PyData.shown]
theorem val_sh {i : Int} (h : -100 ≤ i ∧ i ≤ 100) : valT (sh (.int i)) = i := by
  have := List.all_eq_true.mp val_all (i + 100).toNat (List.mem_range.mpr (by omega))
  have := of_decide_eq_true this
  rw [show (((i + 100).toNat : Nat) : Int) - 100 = i by omega] at this
  rw [sh_int, PyProof.Rows.signs_ofString]
  exact this
def badC (c : Nat) : Prop := c ≠ 45 ∧ c ≠ 44 ∧ c ≠ 32 ∧ c ≠ 41 ∧ (c < 48 ∨ 57 < c)
/-- a small number, or what has another sign in its text -/
def Nice (x : D) : Prop := (∃ i : Int, x = .int i ∧ -100 ≤ i ∧ i ≤ 100) ∨ ∃ c, badC c ∧ c ∈ sh x
theorem int44 (i : Int) : 44 ∉ sh (.int i) := by
  rw [sh_int]
  exact PyProof.Rows.int_text_free' 44 (by decide) i
theorem shown_tup_inj {xs : List D} {l : List Int} (hx : ∀ x ∈ xs, Nice x) (hl : ∀ i ∈ l, -100 ≤ i ∧ i ≤ 100) (h : D.shown (.tup xs) = D.shown (ti l)) : xs = l.map D.int := by
  have h2 : sh (.tup xs) = sh (.tup (l.map D.int)) := by
    unfold sh
    rw [h]
    rfl
  rw [sh_tup, sh_tup] at h2
  have h3 := (List.cons.inj h2).2
  have hi : ∀ x ∈ xs, ∃ i : Int, x = .int i ∧ -100 ≤ i ∧ i ≤ 100 := fun x hxs => by
    rcases hx x hxs with h | ⟨c, hc, hm⟩
    · exact h
    · exfalso
      have := jG_mem (List.mem_map.mpr ⟨x, hxs, rfl⟩) hm
      rw [h3] at this
      rcases mem_jG this with h | h | h | ⟨t, ht, h⟩
      · exact hc.2.2.2.1 h
      · exact hc.2.1 h
      · exact hc.2.2.1 h
      · obtain ⟨y, hy, rfl⟩ := List.mem_map.mp ht
        obtain ⟨i, _, rfl⟩ := List.mem_map.mp hy
        rw [sh_int] at h
        exact PyProof.Rows.int_text_free' c ⟨hc.1, hc.2.2.2.2⟩ i h
  have e := jG_inj (fun t ht => by
    obtain ⟨y, hy, rfl⟩ := List.mem_map.mp ht
    obtain ⟨i, rfl, _⟩ := hi y hy
    exact int44 i) (fun t ht => by
    obtain ⟨y, hy, rfl⟩ := List.mem_map.mp ht
    obtain ⟨i, _, rfl⟩ := List.mem_map.mp hy
    exact int44 i) h3
  clear h h2 h3 hx
  induction xs generalizing l with
  | nil =>
    cases l with
    | nil => rfl
    | cons a b => cases e
  | cons x r ih =>
    cases l with
    | nil => cases e
    | cons a b =>
      obtain ⟨i, rfl, hi2⟩ := hi x List.mem_cons_self
      obtain ⟨e1, e2⟩ := List.cons.inj e
      have e3 : i = a := by rw [← val_sh hi2, ← val_sh (hl a List.mem_cons_self), e1]
      rw [List.map_cons, e3, ih (fun i h => hl i (List.mem_cons_of_mem _ h)) (fun x h => hi x (List.mem_cons_of_mem _ h)) e2]
theorem in_two (x : Int) (o : Nat) : D.innA (.int x) (.tup [.int o, .int (-1)]) = pure (.bl (decide ((o : Int) = x) || decide (x = -1))) := by
  show (ofO (intsL _) >>= _) >>= _ = _
  rw [show intsL [D.int o, .int (-1)] = some [(o : Int), -1] from rfl]
  show pure (D.bl ([(o : Int), -1].any fun n => n == x)) = _
  congr 2
  simp only [List.any_cons, List.any_nil, Bool.or_false]
  congr 1
  rw [Bool.eq_iff_iff, beq_iff_eq, decide_eq_true_iff]
  exact eq_comm
theorem ways_list {sz : List Nat} (z : Szs sz) (x : Int) {p : List Int} (hp : p.length ≤ 1000) : lcF (pure (rangeL 0 sz.length)) tg1 (fun l_one => D.innA (.int x) (.tup [l_one, .int (-1)]) >>= isB) (fun l_one => D.add (ti p) (.tup [l_one])) = pure (((sel sz.length x).map fun o : Nat => p ++ [(o : Int)]).map ti) := by
  have zf := z.few
  rw [rangeL0, lcF_eq1 (fun d => match d with | .int i => decide (i = x) || decide (x = -1) | _ => false) (fun d => match d with | .int i => ti (p ++ [i]) | d => d) (by rw [List.length_map, List.length_range]; omega) (fun d hd => ?_) fun d hd _ => ?_]
  · rw [List.filter_map, List.map_map, List.map_map]
    rfl
  · obtain ⟨o, _, rfl⟩ := List.mem_map.mp hd
    rw [in_two, pure_bind, isB_bl]
  · obtain ⟨o, _, rfl⟩ := List.mem_map.mp hd
    unfold ti
    rw [add_tup (by simp; omega)]
    show pure (D.tup (p.map D.int ++ [D.int o])) = pure (D.tup ((p ++ [(o : Int)]).map D.int))
    rw [List.map_append]
    rfl
theorem wayStep_len {k : Nat} (x : Int) : ∀ ls : List (List Int), (wayStep k x ls).length = (sel k x).length * ls.length
  | [] => rfl
  | s :: r => by
    have ih := wayStep_len (k := k) x r
    unfold wayStep at ih ⊢
    rw [List.flatMap_cons, List.length_append, ih, List.length_map, List.length_cons, Nat.mul_succ, Nat.add_comm]
theorem ways_step_eq {sz : List Nat} (z : Szs sz) (x : Int) {ls : List (List Int)} (hn : ls.length ≤ 10000) (hl : ∀ l ∈ ls, l.length ≤ 1000) {L : Type} : forM (L := L) (fun l_some (s2 : D) => lcF (pure (rangeL 0 sz.length)) tg1 (fun l_one => D.innA (.int x) (.tup [l_one, .int (-1)]) >>= isB) (fun l_one => D.add l_some (.tup [l_one])) >>= fun ds => D.add s2 (.lst ds) >>= fun l_later => pure (.nx l_later)) (ls.map ti) (.lst []) = pure (.nx (lti (wayStep sz.length x ls))) := by
  have zf := z.few
  have hsel : (sel sz.length x).length ≤ 4 := Nat.le_trans (List.length_filter_le _ _) (by rw [List.length_range]; exact zf)
  rw [forM_run (s := D.lst []) (fun i => lti (wayStep sz.length x (ls.take i))) rfl fun i d hd => ?_]
  · rw [List.length_map, List.take_length]
  · rw [List.getElem?_map, Option.map_eq_some_iff] at hd
    obtain ⟨p, hp, rfl⟩ := hd
    rw [ways_list z x (hl p (List.mem_of_getElem? hp)), pure_bind]
    unfold lti
    have l1 := wayStep_len (k := sz.length) x (ls.take i)
    have l2 : (sel sz.length x).length * (ls.take i).length ≤ 4 * 10000 := Nat.mul_le_mul hsel (by rw [List.length_take]; omega)
    rw [add_lst (by rw [List.length_map, List.length_map, List.length_map]; omega), pure_bind, List.take_add_one, hp]
    unfold wayStep
    rw [List.flatMap_append, List.map_append]
    simp
theorem waysF_take {k : Nat} {q : List Int} {ls : List (List Int)} {i : Nat} {x : Int} (h : q[i]? = some x) : waysF k (q.take (i + 1)) ls = wayStep k x (waysF k (q.take i) ls) := by
  unfold waysF
  rw [List.take_add_one, h, List.foldl_append]
  rfl
theorem sel_len {k : Nat} {x : Int} (hk : 1 ≤ k) (hx : -1 ≤ x ∧ x < k) : (sel k x).length = if x = -1 then k else 1 := by
  by_cases c : x = -1
  · rw [if_pos c, c, sel_blank, List.length_range]
  · rw [if_neg c, sel_one (by omega) hx.2]
    rfl
theorem waysF_len {k : Nat} {q : List Int} (hk : 1 ≤ k) (hb : ∀ x ∈ q, -1 ≤ x ∧ x < k) : ∀ i, (waysF k (q.take i) [[]]).length = k ^ (q.take i).count (-1)
  | 0 => rfl
  | i + 1 => by
    cases e : q[i]? with
    | none =>
      have hl := List.getElem?_eq_none_iff.mp e
      have ih := waysF_len hk hb i
      rw [List.take_of_length_le (by omega)] at ih ⊢
      exact ih
    | some x =>
      rw [waysF_take e, wayStep_len, waysF_len hk hb i, sel_len hk (hb x (List.mem_of_getElem? e)), List.take_add_one, e, List.count_append]
      by_cases c : x = -1
      · subst c
        rw [if_pos rfl]
        show k * _ = k ^ (_ + List.count (-1) [-1])
        rw [List.count_singleton_self, Nat.pow_succ, Nat.mul_comm]
      · rw [if_neg c, Nat.one_mul]
        have h0 : List.count (-1) (Option.toList (some x)) = 0 := List.count_eq_zero.mpr (by
          show -1 ∉ [x]
          rw [List.mem_singleton]
          exact fun h => c h.symm)
        rw [h0, Nat.add_zero]
theorem blF_len : ∀ (q : List Int) (n : Nat), (blF n q).length = q.count (-1)
  | [], _ => rfl
  | x :: r, n => by
    rw [blF, List.count_cons]
    by_cases c : x = -1
    · subst c
      rw [if_pos rfl, List.length_cons, blF_len r (n + 1)]
      rfl
    · rw [if_neg c, blF_len r (n + 1), show (x == -1) = false from beq_eq_false_iff_ne.mpr c]
      rfl
theorem blanks_count (q : List Int) : (blanksL q).length = q.count (-1) := by
  rw [← blF_len q 0, blF_eq, List.length_map]
theorem waysF_few {sz : List Nat} {q : List Int} (d : Dok sz q) (z : Szs sz) (hf : sz.length ^ (blanksL q).length ≤ 512) (i : Nat) : (waysF sz.length (q.take i) [[]]).length ≤ 512 := by
  rw [waysF_len z.pos d.els]
  refine Nat.le_trans (Nat.pow_le_pow_right z.pos ?_) hf
  rw [blanks_count]
  exact (List.take_sublist i q).count_le _
theorem waysF_els {k : Nat} {q : List Int} : ∀ i, ∀ p ∈ waysF k (q.take i) [[]], p.length = min i q.length ∧ ∀ x ∈ p, 0 ≤ x ∧ x < k
  | 0, p, h => by
    have : p = [] := List.mem_singleton.mp h
    subst this
    exact ⟨by simp, by simp⟩
  | i + 1, p, h => by
    cases e : q[i]? with
    | none =>
      have hl := List.getElem?_eq_none_iff.mp e
      have ih := waysF_els (k := k) (q := q) i p (by rw [List.take_of_length_le (by omega)] at h ⊢; exact h)
      exact ⟨by rw [ih.1]; omega, ih.2⟩
    | some x =>
      have hi := (List.getElem?_eq_some_iff.mp e).1
      rw [waysF_take e] at h
      obtain ⟨p', hp', h⟩ := List.mem_flatMap.mp h
      obtain ⟨o, ho, rfl⟩ := List.mem_map.mp h
      obtain ⟨h1, h2⟩ := waysF_els i p' hp'
      refine ⟨by rw [List.length_append, h1, List.length_singleton]; omega, fun y hy => ?_⟩
      rcases List.mem_append.mp hy with hy | hy
      · exact h2 y hy
      · rw [List.mem_singleton.mp hy]
        have := List.mem_range.mp (List.mem_filter.mp ho).1
        omega
theorem mem_waysF {k : Nat} : ∀ (q : List Int) (ls : List (List Int)) (l : List Int), l ∈ waysF k q ls ↔ ∃ p ∈ ls, ∃ r : List Int, l = p ++ r ∧ r.length = q.length ∧ ∀ i, i < q.length → (∃ o : Nat, o ∈ sel k (q.getD i 0) ∧ r.getD i 0 = (o : Int))
  | [], ls, l => by
    constructor
    · intro h
      exact ⟨l, h, [], by simp, rfl, fun i hi => by simp at hi⟩
    · rintro ⟨p, hp, r, rfl, hr, _⟩
      rw [List.length_eq_zero_iff.mp hr, List.append_nil]
      exact hp
  | x :: q, ls, l => by
    show l ∈ waysF k q (wayStep k x ls) ↔ _
    rw [mem_waysF q]
    constructor
    · rintro ⟨p, hp, r, rfl, hr, h⟩
      obtain ⟨p', hp', hm⟩ := List.mem_flatMap.mp hp
      obtain ⟨o, ho, rfl⟩ := List.mem_map.mp hm
      refine ⟨p', hp', (o : Int) :: r, by simp, by rw [List.length_cons, List.length_cons, hr], fun i hi => ?_⟩
      cases i with
      | zero => exact ⟨o, ho, rfl⟩
      | succ i =>
        rw [List.length_cons] at hi
        exact h i (by omega)
    · rintro ⟨p, hp, r, rfl, hr, h⟩
      cases r with
      | nil => rw [List.length_cons] at hr; cases hr
      | cons y r =>
        obtain ⟨o, ho, e⟩ := h 0 (by simp)
        have e : y = (o : Int) := e
        subst e
        refine ⟨p ++ [(o : Int)], List.mem_flatMap.mpr ⟨p, hp, List.mem_map.mpr ⟨o, ho, rfl⟩⟩, r, by simp, by rw [List.length_cons, List.length_cons] at hr; omega, fun i hi => ?_⟩
        exact h (i + 1) (by rw [List.length_cons]; omega)
/-- a strip that fills a draft -/
def fillB (sz : List Nat) (q l : List Int) : Bool := decide (l.length = q.length) && ((List.range q.length).all fun i => !decide (0 ≤ q.getD i 0) || decide (l.getD i 0 = q.getD i 0)) && fitB sz l
theorem strip_ti {t : D} (h : isStrip t = true) : ∃ l : List Int, t = ti l ∧ l.length ≤ 40 ∧ ∀ x ∈ l, 0 ≤ x ∧ x < 4 := by
  cases t with
  | tup xs =>
    unfold isStrip at h
    rw [Bool.and_eq_true, decide_eq_true_iff, List.all_eq_true] at h
    obtain ⟨l, rfl, hl⟩ := exists_ints (a := 0) (b := 4) (ys := xs) (fun y hy => by
      have := h.2 y hy
      cases y with
      | int i =>
        simp [btw] at this
        exact ⟨i, rfl, this.1, by omega⟩
      | _ => simp [btw] at this)
    exact ⟨l, rfl, by rw [List.length_map] at h; exact h.1, hl⟩
  | _ => cases h
theorem nums_ti (l : List Int) : D.nums (ti l) = some l := by
  unfold ti
  show intsL _ = _
  rw [intsL_int]
def toldL (q : List Int) : List Nat := (List.range q.length).filter fun i => decide (0 ≤ q.getD i 0)
theorem strange_nil_iff {n : Nat} {l : List Int} : strange n l = [] ↔ ∀ x ∈ l, x < n := by
  unfold strange
  rw [List.map_eq_nil_iff, List.filter_eq_nil_iff]
  constructor
  · intro h x hx
    obtain ⟨i, hi, rfl⟩ := List.getElem_of_mem hx
    have := h i (List.mem_range.mpr hi)
    rw [List.getD_eq_getElem?_getD, List.getElem?_eq_getElem hi] at this
    simp at this
    omega
  · intro h i hi
    rw [List.mem_range] at hi
    have := h l[i] (List.getElem_mem hi)
    rw [List.getD_eq_getElem?_getD, List.getElem?_eq_getElem hi]
    simp
    omega
theorem fillB_iff {sz : List Nat} (z : Szs sz) {q : List Int} (d : Dok sz q) {l : List Int} (h0 : ∀ x ∈ l, 0 ≤ x) : fillB sz q l = true ↔ l ∈ fillL sz q := by
  have zf := z.few
  unfold fillB fillL fitB
  rw [Bool.and_eq_true, Bool.and_eq_true, Bool.and_eq_true, decide_eq_true_iff, decide_eq_true_iff, List.all_eq_true, List.mem_filter, mem_waysF, strange_nil_iff]
  have hg : ∀ {a : List Int} {i : Nat} (hi : i < a.length), a.getD i 0 ∈ a := fun {a i} hi => by
    rw [List.getD_eq_getElem?_getD, List.getElem?_eq_getElem hi]
    exact List.getElem_mem hi
  constructor
  · rintro ⟨⟨h1, h2⟩, h3, h4⟩
    refine ⟨⟨[], List.mem_singleton.mpr rfl, l, rfl, h1, fun i hi => ?_⟩, h4⟩
    have hl := h3 _ (hg (a := l) (i := i) (by omega))
    have hl0 := h0 _ (hg (a := l) (i := i) (by omega))
    refine ⟨(l.getD i 0).toNat, List.mem_filter.mpr ⟨List.mem_range.mpr (by omega), ?_⟩, by omega⟩
    have hd := d.els _ (hg hi)
    have := h2 i (List.mem_range.mpr hi)
    by_cases c : q.getD i 0 = -1
    · rw [decide_eq_true c, Bool.or_true]
    · rw [decide_eq_true (show 0 ≤ q.getD i 0 by omega), Bool.not_true, Bool.false_or] at this
      have := of_decide_eq_true this
      rw [decide_eq_true (show ((l.getD i 0).toNat : Int) = q.getD i 0 by omega)]
      rfl
  · rintro ⟨⟨p, hp, r, rfl, h1, h2⟩, h4⟩
    rw [List.mem_singleton.mp hp] at h0 h4 ⊢
    refine ⟨⟨h1, fun i hi => ?_⟩, fun x hx => ?_, h4⟩
    · obtain ⟨o, ho, e⟩ := h2 i (List.mem_range.mp hi)
      have := (List.mem_filter.mp ho).2
      by_cases c : q.getD i 0 = -1
      · rw [decide_eq_false (show ¬ 0 ≤ q.getD i 0 by omega)]
        rfl
      · rw [decide_eq_false c, Bool.or_false, decide_eq_true_iff] at this
        show (_ || decide (r.getD i 0 = q.getD i 0)) = true
        rw [decide_eq_true (show r.getD i 0 = q.getD i 0 by omega), Bool.or_true]
    · obtain ⟨i, hi, rfl⟩ := List.getElem_of_mem (show x ∈ r from hx)
      obtain ⟨o, ho, e⟩ := h2 i (by omega)
      have := List.mem_range.mp (List.mem_filter.mp ho).1
      rw [List.getD_eq_getElem?_getD, List.getElem?_eq_getElem hi] at e
      have e : r[i] = (o : Int) := e
      omega
theorem fillL_els {sz : List Nat} {q : List Int} {l : List Int} (h : l ∈ fillL sz q) : l.length = q.length ∧ ∀ x ∈ l, 0 ≤ x ∧ x < sz.length := by
  have h1 := (List.mem_filter.mp h).1
  rw [← List.take_length (l := q)] at h1
  have := waysF_els q.length l h1
  exact ⟨by rw [this.1, Nat.min_self], this.2⟩
/-! ### what a run leads to, whatever the order -/
/-- e has what q has -/
structure Ext (q e : List Int) : Prop where
  len : e.length = q.length
  at_ : ∀ i, i < q.length → q.getD i 0 ≠ -1 → e.getD i 0 = q.getD i 0
theorem Ext.refl (q : List Int) : Ext q q := ⟨rfl, fun _ _ _ => rfl⟩
theorem Ext.trans {a b c : List Int} (x : Ext a b) (y : Ext b c) : Ext a c := ⟨y.len.trans x.len, fun i hi h => by
  have h1 := x.at_ i hi h
  rw [y.at_ i (by rw [x.len]; exact hi) (by rw [h1]; exact h), h1]⟩
theorem Ext.set {q : List Int} {p : Nat} {h : Int} (hp : p < q.length) (hb : q.getD p 0 = -1) : Ext q (q.set p h) := ⟨List.length_set .., fun i hi hn => by
  rw [set_getD hp, if_neg fun e => hn (by rw [e]; exact hb)]⟩
theorem Ext.set_of {q e : List Int} {p : Nat} {h : Int} (x : Ext q e) (hp : p < q.length) (he : e.getD p 0 = h) : Ext (q.set p h) e := ⟨by rw [List.length_set]; exact x.len, fun i hi hn => by
  rw [List.length_set] at hi
  rw [set_getD hp] at hn ⊢
  by_cases c : i = p
  · rw [if_pos c, c]
    exact he
  · rw [if_neg c] at hn ⊢
    exact x.at_ i hi hn⟩
theorem ext_both {a b : List Int} (x : Ext a b) (y : Ext b a) : a = b := by
  apply List.ext_getElem x.len.symm
  intro i h1 h2
  have e1 : a.getD i 0 = a[i] := by simp [List.getD_eq_getElem?_getD, h1]
  have e2 : b.getD i 0 = b[i] := by simp [List.getD_eq_getElem?_getD, h2]
  rw [← e1, ← e2]
  by_cases c : a.getD i 0 = -1
  · by_cases d : b.getD i 0 = -1
    · rw [c, d]
    · rw [y.at_ i h2 d]
  · rw [x.at_ i h1 c]
/-- a row of one hue -/
def FullR (sz : List Nat) (q : List Int) (h f st : Nat) : Prop := f + (sz.getD h 0 - 1) * st < q.length ∧ ∀ k, k < sz.getD h 0 → q.getD (f + k * st) 0 = (h : Int)
theorem open_mem {sz : List Nat} {q : List Int} {p h : Nat} : h ∈ openN sz q p ↔ h < sz.length ∧ barsL q (sz.getD h 0) p h = [] := by
  unfold openN
  rw [List.mem_filter, List.mem_range, decide_eq_true_iff]
theorem open_nodup (sz : List Nat) (q : List Int) (p : Nat) : (openN sz q p).Nodup := List.nodup_range.filter _
/-- a hue that is not open: a row -/
theorem not_open {sz : List Nat} (z : Szs sz) {q : List Int} {p h : Nat} (hh : h < sz.length) (n : h ∉ openN sz q p) : ∃ f st : Nat, 1 ≤ st ∧ f + (sz.getD h 0 - 1) * st < q.length ∧ (∃ k, k < sz.getD h 0 ∧ f + k * st = p) ∧ ∀ k, k < sz.getD h 0 → f + k * st = p ∨ q.getD (f + k * st) 0 = (h : Int) := by
  apply Classical.byContradiction
  intro c
  refine n (open_mem.mpr ⟨hh, (bars_nil z hh).mpr fun f st h1 h2 h3 h4 => c ⟨f, st, h1, h2, h3, h4⟩⟩)
theorem open_mono {sz : List Nat} (z : Szs sz) {q e : List Int} (x : Ext q e) {p h : Nat} (m : h ∈ openN sz e p) : h ∈ openN sz q p := by
  obtain ⟨hh, hb⟩ := open_mem.mp m
  refine open_mem.mpr ⟨hh, (bars_nil z hh).mpr fun f st h1 h2 h3 h4 => ?_⟩
  refine (bars_nil z hh).mp hb f st h1 (by rw [x.len]; exact h2) h3 fun k hk => ?_
  rcases h4 k hk with c | c
  · exact .inl c
  · right
    have hk2 : k * st ≤ (sz.getD h 0 - 1) * st := Nat.mul_le_mul_right _ (by omega)
    rw [x.at_ _ (by omega) (by rw [c]; omega), c]
/-- what a filled place and a bar make -/
theorem bar_full {sz : List Nat} (z : Szs sz) {q e : List Int} (x : Ext q e) {p h : Nat} (hh : h < sz.length) (n : h ∉ openN sz q p) (he : e.getD p 0 = (h : Int)) : ∃ f st : Nat, 1 ≤ st ∧ (∃ k, k < sz.getD h 0 ∧ f + k * st = p) ∧ FullR sz e h f st := by
  obtain ⟨f, st, h1, h2, h3, h4⟩ := not_open z hh n
  refine ⟨f, st, h1, h3, by rw [x.len]; exact h2, fun k hk => ?_⟩
  rcases h4 k hk with c | c
  · rw [c]; exact he
  · have hk2 : k * st ≤ (sz.getD h 0 - 1) * st := Nat.mul_le_mul_right _ (by omega)
    rw [x.at_ _ (by omega) (by rw [c]; omega), c]
section
variable {sz : List Nat} {q : List Int} {Q : Nat → List Int} {S : Nat → Nat × Nat} {m : Nat}
theorem Run.ext1 (r : Run sz q Q S m) {i : Nat} (hi : i < m) : Ext (Q i) (Q (i + 1)) := by
  obtain ⟨_, _, h3, h4, _⟩ := nxt_some (r.nx i hi)
  rw [r.step i hi]
  exact .set h3 h4
theorem Run.ext (r : Run sz q Q S m) {i : Nat} : ∀ j, i + j ≤ m → Ext (Q i) (Q (i + j))
  | 0, _ => .refl _
  | j + 1, h => (r.ext (i := i) j (by omega)).trans (r.ext1 (i := i + j) (by omega))
theorem Run.extL (r : Run sz q Q S m) {i : Nat} (hi : i ≤ m) : Ext (Q i) (Q m) := by
  have := r.ext (i := i) (m - i) (by omega)
  rwa [show i + (m - i) = m by omega] at this
theorem Run.ext0 (r : Run sz q Q S m) {i : Nat} (hi : i ≤ m) : Ext q (Q i) := by
  have := r.ext (i := 0) i (by omega)
  rwa [r.fst, Nat.zero_add] at this
theorem Run.put (r : Run sz q Q S m) {i : Nat} (hi : i < m) : (Q m).getD (S i).1 0 = ((S i).2 : Int) := by
  obtain ⟨_, _, h3, _, _⟩ := nxt_some (r.nx i hi)
  have x := r.extL (show i + 1 ≤ m by omega)
  have e : (Q (i + 1)).getD (S i).1 0 = ((S i).2 : Int) := by rw [r.step i hi, set_getD h3, if_pos rfl]
  rw [x.at_ (S i).1 (by rw [r.step i hi, List.length_set]; exact h3) (by rw [e]; omega), e]
/-- a run makes no row of one hue -/
theorem Run.full (z : Szs sz) (r : Run sz q Q S m) {h f st : Nat} (hh : h < sz.length) (h1 : 1 ≤ st) : ∀ i, i ≤ m → FullR sz (Q i) h f st → FullR sz q h f st
  | 0, _, u => by rw [r.fst] at u; exact u
  | i + 1, hi, u => by
    refine r.full z hh h1 i (by omega) ?_
    obtain ⟨_, h2, h3, h4, _⟩ := nxt_some (r.nx i (by omega))
    obtain ⟨u1, u2⟩ := u
    rw [r.step i (by omega)] at u1 u2
    rw [List.length_set] at u1
    refine ⟨u1, fun k hk => ?_⟩
    by_cases c : ∃ k, k < sz.getD h 0 ∧ f + k * st = (S i).1
    · exfalso
      obtain ⟨k0, hk0, e0⟩ := c
      have e1 := u2 k0 hk0
      rw [set_getD h3, if_pos e0] at e1
      have e2 : (S i).2 = h := by omega
      have ho : h ∈ openN sz (Q i) (S i).1 := by rw [h2, e2]; exact List.mem_singleton.mpr rfl
      refine (bars_nil z hh).mp (open_mem.mp ho).2 f st h1 u1 ⟨k0, hk0, e0⟩ fun k hk => ?_
      by_cases d : f + k * st = (S i).1
      · exact .inl d
      · have := u2 k hk
        rw [set_getD h3, if_neg d] at this
        exact .inr this
    · have := u2 k hk
      rw [set_getD h3, if_neg fun e => c ⟨k, hk, e⟩] at this
      exact this
/-- no place that is blank at first is in one in the end -/
theorem Run.nofull (z : Szs sz) (r : Run sz q Q S m) {h f st p : Nat} (hh : h < sz.length) (h1 : 1 ≤ st) (hp : q.getD p 0 = -1) (c : ∃ k, k < sz.getD h 0 ∧ f + k * st = p) (u : FullR sz (Q m) h f st) : False := by
  obtain ⟨k, hk, e⟩ := c
  have := (r.full z hh h1 m (Nat.le_refl _) u).2 k hk
  rw [e, hp] at this
  omega
theorem few_sub {l : List Nat} (nd : l.Nodup) {h : Nat} (s : ∀ x ∈ l, x = h) : l.length ≤ 1 := by
  match l, nd, s with
  | [], _, _ => exact Nat.zero_le _
  | [_], _, _ => exact Nat.le_refl _
  | a :: b :: r, nd, s =>
    have h1 := s a List.mem_cons_self
    have h2 := s b (List.mem_cons_of_mem _ List.mem_cons_self)
    have := (List.nodup_cons.mp nd).1
    exact absurd (by rw [h1, h2]; exact List.mem_cons_self) this
/-- the places with one open hue alone -/
def leftL (sz : List Nat) (q : List Int) : List Nat := (blanksL q).filter fun p => decide ((openN sz q p).length = 1)
theorem left_mem {p : Nat} (h : p ∈ leftL sz q) : p < q.length ∧ q.getD p 0 = -1 ∧ ∃ a, openN sz q p = [a] ∧ a < sz.length := by
  obtain ⟨h1, h2⟩ := List.mem_filter.mp h
  obtain ⟨h3, h4⟩ := blanks_mem h1
  obtain ⟨a, ha⟩ := List.length_eq_one_iff.mp (of_decide_eq_true h2)
  exact ⟨h3, h4, a, ha, (open_mem.mp (show a ∈ openN sz q p by rw [ha]; exact List.mem_singleton.mpr rfl)).1⟩
theorem mem_blanks {p : Nat} (h : p < q.length) (h2 : q.getD p 0 = -1) : p ∈ blanksL q := List.mem_filter.mpr ⟨List.mem_range.mpr h, decide_eq_true h2⟩
/-- in the end, unless it is stuck, a blank place has two open hues -/
theorem Run.wide (r : Run sz q Q S m) (n : narP sz (Q m) = none) {p : Nat} (h : p ∈ blanksL (Q m)) : 2 ≤ (openN sz (Q m) p).length := by
  have := List.find?_eq_none.mp n p h
  rw [decide_eq_true_iff] at this
  omega
/-- one step in another order -/
theorem Run.led (z : Szs sz) (d : Dok sz q) (r : Run sz q Q S m) (n : narP sz (Q m) = none) {e : List Int} (x0 : Ext q e) (x1 : Ext e (Q m)) {p a : Nat} (hp : p < e.length) (hb : e.getD p 0 = -1) (ha : openN sz e p = [a]) : Ext q (e.set p (a : Int)) ∧ Ext (e.set p (a : Int)) (Q m) := by
  have hq : q.getD p 0 = -1 := by
    apply Classical.byContradiction
    intro c
    have := x0.at_ p (by rw [← x0.len]; exact hp) c
    omega
  have hpm : p < (Q m).length := by rw [x1.len]; exact hp
  have hne : (Q m).getD p 0 ≠ -1 := fun c => by
    have h1 := r.wide n (mem_blanks hpm c)
    have h2 : (openN sz (Q m) p).length ≤ 1 := few_sub (h := a) (open_nodup ..) fun y hy => by
      have := open_mono z x1 hy
      rw [ha] at this
      exact List.mem_singleton.mp this
    omega
  have hel : (Q m).getD p 0 ∈ Q m := by
    rw [List.getD_eq_getElem?_getD, List.getElem?_eq_getElem hpm]
    exact List.getElem_mem hpm
  have hd := (r.ok d m (Nat.le_refl _)).1.els _ hel
  obtain ⟨b, hbb⟩ : ∃ b : Nat, (Q m).getD p 0 = (b : Int) := ⟨((Q m).getD p 0).toNat, by omega⟩
  have hab : b = a := by
    apply Classical.byContradiction
    intro c
    obtain ⟨f, st, h1, h2, h3⟩ := bar_full z x1 (show b < sz.length by omega) (by rw [ha, List.mem_singleton]; exact c) hbb
    exact r.nofull z (by omega) h1 hq h2 h3
  subst hab
  exact ⟨x0.trans (.set hp hb), x1.set_of hp hbb⟩
/-- where nothing is left -/
theorem Run.come (z : Szs sz) (d : Dok sz q) (r : Run sz q Q S m) {e : List Int} (x0 : Ext q e) (x1 : Ext e (Q m)) (hl : leftL sz e = []) : e = Q m := by
  have key : ∀ i, i ≤ m → Ext (Q i) e := fun i => by
    induction i with
    | zero => intro _; rw [r.fst]; exact x0
    | succ i ih =>
      intro hi
      have x := ih (by omega)
      obtain ⟨_, h2, h3, h4, h5⟩ := nxt_some (r.nx i (by omega))
      rw [r.step i (by omega)]
      refine x.set_of h3 ?_
      have hpe : (S i).1 < e.length := by rw [x.len]; exact h3
      by_cases c : e.getD (S i).1 0 = -1
      · exfalso
        have h6 : ∀ y ∈ openN sz e (S i).1, y = (S i).2 := fun y hy => by
          have := open_mono z x hy
          rw [h2] at this
          exact List.mem_singleton.mp this
        have h7 : (openN sz e (S i).1).length ≠ 1 := fun h => by
          have : (S i).1 ∈ leftL sz e := List.mem_filter.mpr ⟨mem_blanks hpe c, decide_eq_true h⟩
          rw [hl] at this
          cases this
        have h8 := few_sub (open_nodup ..) h6
        have h9 : openN sz e (S i).1 = [] := List.length_eq_zero_iff.mp (by omega)
        obtain ⟨f, st, g1, g2, g3⟩ := bar_full z x1 h5 (by rw [h9]; simp) (r.put (by omega))
        refine r.nofull z h5 g1 ?_ g2 g3
        apply Classical.byContradiction
        intro c2
        have := (r.ext0 (show i ≤ m by omega)).at_ (S i).1 (by rw [← (r.ext0 (show i ≤ m by omega)).len]; exact h3) c2
        omega
      · rw [← r.put (show i < m by omega)]
        exact (x1.at_ _ hpe c).symm
  exact ext_both x1 (key m (Nat.le_refl _))
end
/-! ### fillings of what a run leads to -/
theorem waysF_app (k : Nat) (a b : List Int) (ls : List (List Int)) : waysF k (a ++ b) ls = waysF k b (waysF k a ls) := by
  unfold waysF
  rw [List.foldl_append]
theorem waysF_filter {k : Nat} (P : List Int → Bool) : ∀ (b : List Int) (ls : List (List Int)), (∀ l ∈ ls, ∀ r, P (l ++ r) = P l) → waysF k b (ls.filter P) = (waysF k b ls).filter P
  | [], ls, _ => rfl
  | x :: b, ls, h => by
    show waysF k b (wayStep k x (ls.filter P)) = (waysF k b (wayStep k x ls)).filter P
    have e : wayStep k x (ls.filter P) = (wayStep k x ls).filter P := by
      unfold wayStep
      induction ls with
      | nil => rfl
      | cons l ls ih =>
        rw [List.flatMap_cons, List.filter_append, ← ih fun l hl => h l (List.mem_cons_of_mem _ hl), List.filter_cons]
        have e1 : ((sel k x).map fun o : Nat => l ++ [(o : Int)]).filter P = if P l = true then (sel k x).map fun o : Nat => l ++ [(o : Int)] else [] := by
          by_cases c : P l = true
          · rw [if_pos c, List.filter_eq_self]
            intro y hy
            obtain ⟨o, _, rfl⟩ := List.mem_map.mp hy
            rw [h l List.mem_cons_self]
            exact c
          · rw [if_neg c, List.filter_eq_nil_iff]
            intro y hy
            obtain ⟨o, _, rfl⟩ := List.mem_map.mp hy
            rw [h l List.mem_cons_self]
            exact c
        rw [e1]
        by_cases c : P l = true
        · rw [if_pos c, if_pos c, List.flatMap_cons]
        · rw [if_neg c, if_neg c, List.nil_append]
    rw [e]
    refine waysF_filter P b _ fun l hl r => ?_
    obtain ⟨l0, h0, hl⟩ := List.mem_flatMap.mp hl
    obtain ⟨o, _, rfl⟩ := List.mem_map.mp hl
    rw [List.append_assoc, h l0 h0, h l0 h0]
theorem ways_set {k : Nat} {q : List Int} {p h : Nat} (hp : p < q.length) (hb : q.getD p 0 = -1) (hh : h < k) : waysF k (q.set p (h : Int)) [[]] = (waysF k q [[]]).filter fun l => decide (l.getD p 0 = (h : Int)) := by
  have e0 : q = q.take p ++ (-1) :: q.drop (p + 1) := by
    have : q[p] = -1 := by simpa [List.getD_eq_getElem?_getD, hp] using hb
    rw [← this, List.getElem_cons_drop, List.take_append_drop]
  have e1 : q.set p (h : Int) = q.take p ++ (h : Int) :: q.drop (p + 1) := by
    rw [List.set_eq_take_append_cons_drop, if_pos hp]
  rw [e1, waysF_app]
  rw [show waysF k q [[]] = waysF k ((-1) :: q.drop (p + 1)) (waysF k (q.take p) [[]]) from by rw [← waysF_app, ← e0]]
  have hl : ∀ l ∈ waysF k (q.take p) [[]], l.length = p := fun l hl => by
    have := (waysF_els p l hl).1
    omega
  generalize waysF k (q.take p) [[]] = ls at hl
  show waysF k (q.drop (p + 1)) (wayStep k (h : Int) ls) = (waysF k (q.drop (p + 1)) (wayStep k (-1) ls)).filter _
  rw [← waysF_filter _ (q.drop (p + 1)) _ fun l hl' r => ?_]
  · congr 1
    unfold wayStep
    rw [sel_blank, sel_one (by omega) (by omega), Int.toNat_natCast]
    induction ls with
    | nil => rfl
    | cons l ls ih =>
      rw [List.flatMap_cons, List.flatMap_cons, List.filter_append, ih fun l hl' => hl l (List.mem_cons_of_mem _ hl')]
      congr 1
      rw [List.filter_map]
      have hlp := hl l List.mem_cons_self
      have : ((fun l : List Int => decide (l.getD p 0 = (h : Int))) ∘ fun o : Nat => l ++ [(o : Int)]) = fun o => decide (o = h) := by
        funext o
        simp only [Function.comp]
        rw [getD_app, if_neg (by omega), show p - l.length = 0 by omega]
        simp
        omega
      rw [this]
      have e2 : (List.range k).filter (fun o => decide (o = h)) = [h] := by
        have := sel_one (k := k) (x := (h : Int)) (by omega) (by omega)
        unfold sel at this
        rw [Int.toNat_natCast] at this
        rw [← this]
        apply List.filter_congr
        intro o _
        rw [Bool.eq_iff_iff, Bool.or_eq_true, decide_eq_true_iff, decide_eq_true_iff, decide_eq_true_iff]
        omega
      rw [e2]
  · unfold wayStep at hl'
    obtain ⟨l0, h0, hl'⟩ := List.mem_flatMap.mp hl'
    obtain ⟨o, _, rfl⟩ := List.mem_map.mp hl'
    have := hl l0 h0
    rw [getD_app, if_pos (by rw [List.length_append, List.length_singleton]; omega)]
theorem ways_ext {k : Nat} {q l : List Int} (hb : ∀ x ∈ q, -1 ≤ x ∧ x < k) (h : l ∈ waysF k q [[]]) : Ext q l ∧ ∀ x ∈ l, 0 ≤ x ∧ x < k := by
  obtain ⟨p, hp, r, rfl, h1, h2⟩ := (mem_waysF q [[]] l).mp h
  rw [List.mem_singleton.mp hp, List.nil_append] at h ⊢
  refine ⟨⟨h1, fun i hi hn => ?_⟩, ?_⟩
  · obtain ⟨o, ho, e⟩ := h2 i hi
    have := (List.mem_filter.mp ho).2
    rw [Bool.or_eq_true, decide_eq_true_iff, decide_eq_true_iff] at this
    rcases this with c | c
    · rw [e, c]
    · exact absurd c hn
  · rw [← List.take_length (l := q)] at h
    exact (waysF_els q.length r h).2
theorem fill_open {sz : List Nat} (z : Szs sz) {q l : List Int} (d : Dok sz q) (h : l ∈ fillL sz q) {p : Nat} (hp : p < q.length) (hb : q.getD p 0 = -1) : ∃ o, o ∈ openN sz q p ∧ l.getD p 0 = (o : Int) := by
  obtain ⟨h1, h2⟩ := List.mem_filter.mp h
  obtain ⟨x, hel⟩ := ways_ext d.els h1
  have hm : l.getD p 0 ∈ l := by
    have hpl : p < l.length := by rw [x.len]; exact hp
    rw [List.getD_eq_getElem?_getD, List.getElem?_eq_getElem hpl]
    exact List.getElem_mem hpl
  have := hel _ hm
  refine ⟨(l.getD p 0).toNat, ?_, by omega⟩
  apply Classical.byContradiction
  intro c
  obtain ⟨f, st, g1, _, g3⟩ := bar_full z x (show (l.getD p 0).toNat < sz.length by omega) c (by omega)
  exact (cln_good z).mp h2 _ (by omega) f st g1 g3.1 g3.2
theorem fill_set {sz : List Nat} (z : Szs sz) {q : List Int} (d : Dok sz q) {p h : Nat} (hp : p < q.length) (hb : q.getD p 0 = -1) (ho : openN sz q p = [h]) : fillL sz (q.set p (h : Int)) = fillL sz q := by
  have hh : h < sz.length := (open_mem.mp (show h ∈ openN sz q p by rw [ho]; exact List.mem_singleton.mpr rfl)).1
  unfold fillL
  rw [ways_set hp hb hh, List.filter_filter]
  apply List.filter_congr
  intro l hl
  cases c : cln sz l with
  | false => rfl
  | true =>
    obtain ⟨o, h1, h2⟩ := fill_open z d (List.mem_filter.mpr ⟨hl, c⟩) hp hb
    rw [ho, List.mem_singleton] at h1
    rw [h2, h1, decide_eq_true rfl]
    rfl
section
variable {sz : List Nat} {q : List Int} {Q : Nat → List Int} {S : Nat → Nat × Nat} {m : Nat}
theorem Run.fills (z : Szs sz) (d : Dok sz q) (r : Run sz q Q S m) : ∀ i, i ≤ m → fillL sz (Q i) = fillL sz q
  | 0, _ => by rw [r.fst]
  | i + 1, h => by
    obtain ⟨_, h2, h3, h4, _⟩ := nxt_some (r.nx i (by omega))
    rw [r.step i (by omega), fill_set z (r.ok d i (by omega)).1 h3 h4 h2, r.fills z d i (by omega)]
theorem Run.stuck (z : Szs sz) (d : Dok sz q) (r : Run sz q Q S m) {p : Nat} (h : narP sz (Q m) = some p) : openN sz (Q m) p = [] ∧ fillL sz q = [] ∧ p < (Q m).length ∧ (Q m).getD p 0 = -1 := by
  have e : openN sz (Q m) p = [] := by
    rcases nxt_none r.lst with c | ⟨p', c, e⟩
    · rw [c] at h; cases h
    · rw [c] at h; cases h; exact e
  have hm : p ∈ blanksL (Q m) := List.mem_of_find?_eq_some h
  obtain ⟨h1, h2⟩ := blanks_mem hm
  refine ⟨e, ?_, h1, h2⟩
  rw [← r.fills z d m (Nat.le_refl _)]
  cases c : fillL sz (Q m) with
  | nil => rfl
  | cons l t =>
    obtain ⟨o, ho, _⟩ := fill_open z (r.ok d m (Nat.le_refl _)).1 (show l ∈ fillL sz (Q m) by rw [c]; exact List.mem_cons_self) h1 h2
    rw [e] at ho
    cases ho
theorem Run.fill_at (z : Szs sz) (d : Dok sz q) (r : Run sz q Q S m) {l : List Int} (h : l ∈ fillL sz q) {i : Nat} (hi : i < m) : l.getD (S i).1 0 = ((S i).2 : Int) := by
  obtain ⟨_, h2, h3, h4, _⟩ := nxt_some (r.nx i hi)
  rw [← r.fills z d i (by omega)] at h
  obtain ⟨o, ho, e⟩ := fill_open z (r.ok d i (by omega)).1 h h3 h4
  rw [h2, List.mem_singleton] at ho
  rw [e, ho]
end
theorem waysF_one {k : Nat} : ∀ (q : List Int) (l : List Int), (∀ x ∈ q, 0 ≤ x ∧ x < k) → waysF k q [l] = [l ++ q]
  | [], l, _ => by rw [List.append_nil]; rfl
  | x :: q, l, h => by
    show waysF k q (wayStep k x [l]) = _
    obtain ⟨h0, h1⟩ := h x List.mem_cons_self
    have e : wayStep k x [l] = [l ++ [x]] := by
      unfold wayStep
      rw [sel_one h0 h1]
      show [l ++ [((x.toNat : Nat) : Int)]] = _
      rw [show ((x.toNat : Nat) : Int) = x by omega]
    rw [e, waysF_one q _ fun y hy => h y (List.mem_cons_of_mem _ hy), List.append_assoc]
    rfl
theorem fill_self {sz : List Nat} {q l : List Int} (d : Dok sz q) (h : l ∈ fillL sz q) : fillL sz l = [l] := by
  obtain ⟨h1, h2⟩ := List.mem_filter.mp h
  have hel := (ways_ext d.els h1).2
  unfold fillL
  rw [waysF_one l [] hel, List.nil_append, List.filter_cons_of_pos h2]
  rfl
theorem fill_clean {sz : List Nat} (z : Szs sz) {q l : List Int} (d : Dok sz q) (h : l ∈ fillL sz q) : cln sz q = true := by
  obtain ⟨h1, h2⟩ := List.mem_filter.mp h
  obtain ⟨x, _⟩ := ways_ext d.els h1
  rw [cln_good z]
  intro hu hh f st h3 h4 h5
  refine (cln_good z).mp h2 hu hh f st h3 (by rw [x.len]; exact h4) fun k hk => ?_
  have hk2 : k * st ≤ (sz.getD hu 0 - 1) * st := Nat.mul_le_mul_right _ (by omega)
  rw [x.at_ _ (by omega) (by rw [h5 k hk]; omega), h5 k hk]
/-! ### papers -/
theorem ixm1_ints {d : D} {l : List Int} (hd : d = ti l ∨ d = li l) (h : l ≠ []) : D.ix d (.int (-1)) = pure (.int (l.getLast h)) := by
  have hp := List.length_pos_iff.mpr h
  have key : atI' (l.map D.int) (-1) = some (.int (l.getLast h)) := by
    unfold atI'
    rw [if_neg (by decide), List.length_map, if_pos (by omega), show (-1 + (l.length : Int)).toNat = l.length - 1 by omega, List.getElem?_map, List.getElem?_eq_getElem (by omega), List.getLast_eq_getElem]
    rfl
  rcases hd with rfl | rfl
  · show ofO (atI' (l.map D.int) (-1)) = _
    rw [key]
    rfl
  · show ofO (atI' (l.map D.int) (-1)) = _
    rw [key]
    rfl
theorem places_ne {p : Nat × Nat} {s : Nat} (hs : 1 ≤ s) : places p s ≠ [] := fun e => by
  have := places_len p s
  rw [e] at this
  simp at this
  omega
theorem places_last {p : Nat × Nat} {s : Nat} (hs : 1 ≤ s) : (places p s).getLast (places_ne hs) = ((p.1 + (s - 1) * p.2 : Nat) : Int) := by
  rw [List.getLast_eq_getElem]
  simp [places]
theorem all_places {l : List Int} {s : Nat} {p : Nat × Nat} (h : Int) (hs2 : s ≤ 1000) (hp : p.1 + (s - 1) * p.2 < l.length) :
    lcF (pure ((places p s).map D.int)) tg1 (fun _ => pure true) (fun x => D.ix (ti l) x >>= fun y => D.eqA y (.int h)) = pure ((List.range s).map fun k => D.bl (decide (l.getD (p.1 + k * p.2) 0 = h))) := by
  unfold places
  rw [List.map_map, lcF_map1 (fun d => match d with | .int i => .bl (decide (l.getD i.toNat 0 = h)) | _ => d) (by rw [List.length_map, List.length_range]; omega) fun x hx => ?_]
  · rw [List.map_map]
    congr 1
  · obtain ⟨k, hk, rfl⟩ := List.mem_map.mp hx
    rw [List.mem_range] at hk
    simp only [Function.comp]
    rw [ix_at (places_lt hp hk)]
    simp only [pure_bind, eqA_int, Int.toNat_natCast]
theorem none_places {l : List Int} {s : Nat} {p : Nat × Nat} (h : Int) (hs2 : s ≤ 1000) (hp : p.1 + (s - 1) * p.2 < l.length) :
    (lcF (pure ((places p s).map D.int)) tg1 (fun x => D.ix (ti l) x >>= fun y => D.neA y (.int h) >>= isB) (fun x => pure x) >>= fun ds => D.eqA (.lst ds) (.lst [])) = pure (.bl (hasB l s h p)) := by
  have hv : lcF (pure ((places p s).map D.int)) tg1 (fun x => D.ix (ti l) x >>= fun y => D.neA y (.int h) >>= isB) (fun x => pure x) = pure (((places p s).filter fun a => !decide (l.getD a.toNat 0 = h)).map D.int) := by
    rw [lcF_eq1 (fun d => match d with | .int a => !decide (l.getD a.toNat 0 = h) | _ => false) (fun x => x) (by rw [List.length_map, places_len]; omega) (fun x hx => ?_) fun x _ _ => rfl]
    · rw [List.map_id', List.filter_map]
      rfl
    · obtain ⟨a, ha, rfl⟩ := List.mem_map.mp hx
      unfold places at ha
      obtain ⟨k, hk, rfl⟩ := List.mem_map.mp ha
      rw [List.mem_range] at hk
      rw [ix_at (places_lt hp hk)]
      simp only [pure_bind, neA_int, isB_bl, Int.toNat_natCast]
  have hd : decide (((places p s).filter fun a => !decide (l.getD a.toNat 0 = h)) = []) = hasB l s h p := by
    rw [Bool.eq_iff_iff, decide_eq_true_iff, List.filter_eq_nil_iff]
    unfold hasB places
    rw [List.all_eq_true]
    constructor
    · intro hh k hk
      have h5 := hh _ (List.mem_map.mpr ⟨k, hk, rfl⟩)
      simp only [Int.toNat_natCast] at h5
      cases c : decide (l.getD (p.1 + k * p.2) 0 = h) with
      | true => rfl
      | false => rw [c] at h5; exact absurd rfl h5
    · intro hh a ha
      obtain ⟨k, hk, rfl⟩ := List.mem_map.mp ha
      simp only [Int.toNat_natCast, hh k hk]
      decide
  rw [hv, pure_bind, show D.eqA (.lst (((places p s).filter fun a => !decide (l.getD a.toNat 0 = h)).map D.int)) (.lst []) = pure (.bl (decide (((places p s).filter fun a => !decide (l.getD a.toNat 0 = h)) = []))) from eqA_li _ [], hd]
/-- an even row of one hue is named -/
def rowPB (sz : List Nat) (q : List Int) : D → D → Bool
  | .int i, .int s => decide (0 ≤ i ∧ i < q.length) && (decide (1 ≤ s ∧ s < 40) && (decide (0 ≤ q.getD i.toNat 0) && (decide (i.toNat + (sz.getD (q.getD i.toNat 0).toNat 0 - 1) * s.toNat < q.length) && hasB q (sz.getD (q.getD i.toNat 0).toNat 0) (q.getD i.toNat 0) (i.toNat, s.toNat))))
  | _, _ => false
def caseB (f : List Int → D → Bool) (sz : List Nat) (q : List Int) : D → D → Bool
  | .int i, .tup ps => decide (0 ≤ i ∧ i < q.length) && (decide (q.getD i.toNat 0 = -1) && (decide (ps.length = sz.length) && (List.range sz.length).all fun h => f (q.set i.toNat h) (ps.getD h .non)))
  | _, _ => false
def partB (f : List Int → D → Bool) (sz : List Nat) (q : List Int) : D → Bool
  | .tup [.str w, a, b] => if w = "row" then rowPB sz q a b else if w = "cases" then caseB f sz q a b else false
  | _ => false
/-- whether a thing is a paper -/
def showB : Nat → List Nat → List Int → D → Bool
  | 0, _, _ => fun _ => false
  | n + 1, sz, q => partB (showB n sz) sz q
def HuesOk (sz : List Nat) (q : List Int) : Prop := q.length ≤ 40 ∧ ∀ x ∈ q, -1 ≤ x ∧ x < sz.length
theorem HuesOk.at {sz : List Nat} {q : List Int} (h : HuesOk sz q) {i : Nat} (hi : i < q.length) : -1 ≤ q.getD i 0 ∧ q.getD i 0 < sz.length := by
  rw [List.getD_eq_getElem?_getD, List.getElem?_eq_getElem hi]
  exact h.2 _ (List.getElem_mem _)
theorem HuesOk.set {sz : List Nat} {q : List Int} (h : HuesOk sz q) {o : Nat} (ho : o < sz.length) (i : Nat) : HuesOk sz (q.set i o) := ⟨by rw [List.length_set]; exact h.1, fun x hx => by
  rcases List.mem_or_eq_of_mem_set hx with hx | rfl
  · exact h.2 x hx
  · omega⟩
theorem cut1_three (w a b : D) : D.cutI (.tup [w, a, b]) (some 1) none = pure (.tup [a, b]) := rfl
section
variable {sz : List Nat} {q : List Int} {a b w : D}
theorem row_far {i s : Int} (z : Szs sz) (hq : HuesOk sz q) (h1 : 0 ≤ i ∧ i < q.length) (h3 : 0 ≤ q.getD i.toNat 0) (h4 : i.toNat + (sz.getD (q.getD i.toNat 0).toNat 0 - 1) * s.toNat < q.length) (h0 : 0 ≤ s) : s < q.length := by
  have h5 := hq.at (show i.toNat < q.length by omega)
  have h6 := (z.at (show (q.getD i.toNat 0).toNat < sz.length by omega)).1
  have h7 : 1 * s.toNat ≤ (sz.getD (q.getD i.toNat 0).toNat 0 - 1) * s.toNat := Nat.mul_le_mul_right _ (by omega)
  omega
theorem is_row_paper_D (z : Szs sz) (hq : HuesOk sz q) (ha : a.kn) (hb : b.kn) : D_is_row_paper [tn sz, ti q, .tup [w, a, b]] = pure (.bl (rowPB sz q a b)) := by
  have hl := hq.1
  rw [D_is_row_paper_eq]
  unfold B_is_row_paper
  simp only [bin_def, callM_def, seqL_cons, seqL_nil, pure_bind, f1_one, show D.len (.tup [w, a, b]) = pure (.int 3) from rfl, neA_int, decide_true, Bool.not_true, Bool.false_eq_true, if_false, asB_def, isB_bl, orM_def, notM_def, show D.ix (.tup [w, a, b]) (.int 1) = pure a from rfl, show D.ix (.tup [w, a, b]) (.int 2) = pure b from rfl, len_ti, sub_int, is_between_eq ha, is_between_eq hb]
  cases a with
  | int i =>
    by_cases h1 : 0 ≤ i ∧ i < q.length
    · rw [show btw (.int i) 0 ((q.length : Int) - 1) = true by simp [btw]; omega]
      simp only [Bool.not_true, Bool.false_eq_true, if_false, pure_bind]
      cases b with
      | int s =>
        by_cases h2 : 1 ≤ s ∧ s ≤ q.length
        · rw [show btw (.int s) 1 (q.length : Int) = true by simp [btw]; omega]
          obtain ⟨m, rfl⟩ : ∃ m : Nat, i = m := ⟨i.toNat, by omega⟩
          obtain ⟨t, rfl⟩ : ∃ t : Nat, s = t := ⟨s.toNat, by omega⟩
          simp only [Bool.not_true, Bool.false_eq_true, if_false, pure_bind, ix_at (show m < q.length by omega), lt_int, isB_bl, rowPB, Int.toNat_natCast]
          have hh := hq.at (show m < q.length by omega)
          by_cases h3 : 0 ≤ q.getD m 0
          · obtain ⟨h, eh⟩ : ∃ h : Nat, q.getD m 0 = h := ⟨(q.getD m 0).toNat, by omega⟩
            rw [eh] at hh
            simp only [eh]
            rw [decide_eq_false (show ¬ ((h : Int) < 0) by omega)]
            obtain ⟨z2, z8⟩ := z.at (show h < sz.length by omega)
            simp only [Bool.false_eq_true, if_false, cutM, partM, pure_bind, asI_int, cut1_three, tn_ix (show h < sz.length by omega), Int.toNat_natCast]
            rw [show (.tup [.int m, .int t] : D) = Dr (m, t) from rfl, row_places_eq (m, t) (by omega), pure_bind, neg_int, pure_bind, ixm1_ints (.inl rfl) (places_ne (by omega)), pure_bind, places_last (by omega)]
            simp only [len_ti, pure_bind, lt_int, andV_def, isB_bl]
            by_cases h4 : m + (sz.getD h 0 - 1) * t < q.length
            · rw [decide_eq_true (show ((m + (sz.getD h 0 - 1) * t : Nat) : Int) < (q.length : Int) by omega), if_pos rfl]
              rw [show itemsL (ti (places (m, t) (sz.getD h 0))) = pure ((places (m, t) (sz.getD h 0)).map D.int) from rfl, all_places h (by omega) h4]
              simp only [pure_bind, f1_one]
              rw [all_map (fun k => decide (q.getD (m + k * t) 0 = (h : Int))), pure_bind, endB_rt, decide_eq_true (show (0 : Int) ≤ m ∧ (m : Int) < q.length by omega), decide_eq_true (show (1 : Int) ≤ t ∧ (t : Int) < 40 from ⟨h2.1, by
                have := row_far (s := (t : Int)) z hq h1 (by rw [Int.toNat_natCast, eh]; omega) (by rw [Int.toNat_natCast, eh]; simpa using h4) (by omega)
                omega⟩), decide_eq_true (show (0 : Int) ≤ (h : Int) by omega), decide_eq_true h4]
              simp [hasB]
            · rw [decide_eq_false (show ¬ ((m + (sz.getD h 0 - 1) * t : Nat) : Int) < (q.length : Int) by omega), if_neg (by decide), pure_bind, endB_rt, decide_eq_false h4]
              simp
          · rw [decide_eq_true (show q.getD m 0 < 0 by omega), decide_eq_false h3]
            simp
        · rw [show btw (.int s) 1 (q.length : Int) = false by simp [btw]; omega]
          have e : rowPB sz q (.int i) (.int s) = false := by
            rw [rowPB]
            cases c : decide (1 ≤ s ∧ s < 40) && (decide (0 ≤ q.getD i.toNat 0) && (decide (i.toNat + (sz.getD (q.getD i.toNat 0).toNat 0 - 1) * s.toNat < q.length) && hasB q (sz.getD (q.getD i.toNat 0).toNat 0) (q.getD i.toNat 0) (i.toNat, s.toNat))) with
            | false => exact Bool.and_false _
            | true =>
              simp only [Bool.and_eq_true, decide_eq_true_iff] at c
              have := row_far z hq h1 c.2.1 c.2.2.1 (by omega)
              omega
          rw [e]
          rfl
      | _ => rfl
    · rw [show btw (.int i) 0 ((q.length : Int) - 1) = false by simp [btw]; omega]
      have e : rowPB sz q (.int i) b = false := by
        cases b with
        | int s =>
          rw [rowPB, decide_eq_false h1]
          rfl
        | _ => rfl
      rw [e]
      rfl
  | _ => rfl
theorem is_blank_P {a : D} (ha : a.kn) (hl : q.length ≤ 100) : D_is_blank [ti q, a] = pure (.bl (match a with | .int i => decide (0 ≤ i ∧ i < q.length) && decide (q.getD i.toNat 0 = -1) | _ => false)) := by
  rw [D_is_blank_eq]
  unfold B_is_blank
  simp only [callM_def, seqL_cons, seqL_nil, pure_bind, bin_def, f1_one, len_ti, sub_int, is_between_eq ha, andV_def, isB_bl]
  cases a with
  | int i =>
    by_cases h0 : 0 ≤ i ∧ i < q.length
    · obtain ⟨n, rfl⟩ : ∃ n : Nat, i = n := ⟨i.toNat, by omega⟩
      rw [show btw (.int n) 0 ((q.length : Int) - 1) = true by simp [btw]; omega, if_pos rfl, ix_at (by omega), pure_bind, eqA_int, pure_bind, endB_rt]
      simp only [Int.toNat_natCast, decide_eq_true h0, Bool.true_and]
    · rw [show btw (.int i) 0 ((q.length : Int) - 1) = false by simp [btw]; omega, if_neg (by decide), pure_bind, endB_rt]
      simp only [decide_eq_false h0, Bool.false_and]
  | _ => rfl
end
theorem depth_mem {xs : List D} {n : Nat} (h : (D.py (.tup xs)).depth ≤ n) {x : D} (hx : x ∈ xs) : x.py.depth + 1 ≤ n := by
  rw [D.py, PyData.depth] at h
  have : ∀ xs : List D, x ∈ xs → x.py.depth ≤ PyData.depthAll (D.pys xs) := by
    intro xs
    induction xs with
    | nil => intro h; cases h
    | cons y r ih =>
      intro h
      rw [D.pys, PyData.depthAll]
      rcases List.mem_cons.mp h with rfl | h
      · omega
      · have := ih h
        omega
  have := this xs hx
  omega
theorem forM_parts {S L : Type} {body : D → S → M (Fl S S)} {p : Nat → Bool} {d : D} : ∀ {xs : List D} {s : S} (k : Nat), (∀ i x s, xs[i]? = some x → body (.tup [.int ((k + i : Nat) : Int), x]) s = if p (k + i) = true then pure (.nx s) else pure (.rt d)) →
    forM (L := L) body ((List.range xs.length).map fun i => D.tup [.int ((k + i : Nat) : Int), xs.getD i .non]) s = if (List.range xs.length).all (fun i => p (k + i)) = true then pure (.nx s) else pure (.rt d)
  | [], s, k, h => rfl
  | x :: r, s, k, h => by
    rw [List.length_cons, List.range_succ_eq_map, List.map_cons, List.all_cons, forM_cons]
    have h0 := h 0 x s rfl
    simp only [List.getD_cons_zero]
    rw [h0]
    cases c : p (k + 0) with
    | false => rfl
    | true =>
      rw [if_pos rfl, pure_bind, Bool.true_and, List.map_map, List.all_map]
      have ih := forM_parts (L := L) (body := body) (p := p) (d := d) (xs := r) (s := s) (k + 1) fun i y s hy => by
        have := h (i + 1) y s (by rw [List.getElem?_cons_succ]; exact hy)
        rw [show k + 1 + i = k + (i + 1) by omega]
        exact this
      have e1 : (List.range r.length).map ((fun i => D.tup [.int ((k + i : Nat) : Int), (x :: r).getD i .non]) ∘ Nat.succ) = (List.range r.length).map fun i => D.tup [.int ((k + 1 + i : Nat) : Int), r.getD i .non] := List.map_congr_left fun i _ => by
        simp only [Function.comp, List.getD_cons_succ]
        rw [show k + i.succ = k + 1 + i by omega]
      have e2 : (List.range r.length).all ((fun i => p (k + i)) ∘ Nat.succ) = (List.range r.length).all fun i => p (k + 1 + i) := congrArg _ (funext fun i => by
        simp only [Function.comp]
        rw [show k + i.succ = k + 1 + i by omega])
      rw [e1, e2]
      exact ih
theorem enumL_getD (xs : List D) : enumL xs = (List.range xs.length).map fun i => D.tup [.int ((0 + i : Nat) : Int), xs.getD i .non] := by
  unfold enumL
  refine List.map_congr_left fun i hi => ?_
  rw [Nat.zero_add]
theorem plain_mem {k : Bool} {xs : List D} (h : D.plain k (.tup xs) = true) {x : D} (hx : x ∈ xs) : x.plain k = true := by
  rw [D.plain] at h
  exact plains_mem h x hx
theorem good_paper_nostr {sz : List Nat} {n : Nat} {q : List Int} {w a b : D} (h : isaM .str w = pure (.bl false)) : D_good_paper (n + 1) [tn sz, ti q, .tup [w, a, b]] = pure (.bl false) := by
  rw [D_good_paper_eq]
  unfold B_good_paper
  simp only [bin_def, callM_def, seqL_cons, seqL_nil, pure_bind, f1_one, show D.len (.tup [w, a, b]) = pure (.int 3) from rfl, neA_int, decide_true, Bool.not_true, Bool.false_eq_true, if_false, asB_def, isB_bl, orM_def, notM_def, show isaM .tuple (.tup [w, a, b]) = pure (.bl true) from rfl, show D.ix (.tup [w, a, b]) (.int 0) = pure w from rfl, h]
  rfl
theorem good_paper_eq {sz : List Nat} (z : Szs sz) : ∀ {n : Nat} {q : List Int} {d : D}, HuesOk sz q → d.plain true = true → d.py.depth ≤ n → D_good_paper (n + 1) [tn sz, ti q, d] = pure (.bl (showB (n + 1) sz q d)) := by
  intro n
  induction n with
  | zero =>
    intro q d hq hp hd
    cases d with
    | tup xs => rw [D.py, PyData.depth] at hd; omega
    | pen k => cases hp
    | scr k => cases hp
    | opq k => cases hp
    | _ => rfl
  | succ n ih =>
    intro q d hq hp hd
    have zf := z.few
    cases d with
    | pen k => cases hp
    | scr k => cases hp
    | opq k => cases hp
    | tup xs =>
      by_cases h3 : xs.length = 3
      · match xs, h3 with
        | [w, a, b], _ =>
          have pw := plain_mem hp (x := w) (by simp)
          have pa := plain_mem hp (x := a) (by simp)
          have pb := plain_mem hp (x := b) (by simp)
          cases w with
          | pen k => cases pw
          | scr k => cases pw
          | opq k => cases pw
          | str x =>
            rw [D_good_paper_eq]
            unfold B_good_paper
            simp only [bin_def, callM_def, seqL_cons, seqL_nil, pure_bind, f1_one, show D.len (.tup [.str x, a, b]) = pure (.int 3) from rfl, neA_int, decide_true, Bool.not_true, Bool.false_eq_true, if_false, asB_def, isB_bl, orM_def, notM_def, show isaM .tuple (.tup [.str x, a, b]) = pure (.bl true) from rfl,
              show D.ix (.tup [.str x, a, b]) (.int 0) = pure (.str x) from rfl, show D.ix (.tup [.str x, a, b]) (.int 1) = pure a from rfl, show D.ix (.tup [.str x, a, b]) (.int 2) = pure b from rfl, show isaM .str (.str x) = pure (.bl true) from rfl,
              show D.eqA (.str x) (.str "row") = pure (.bl (decide (x = "row"))) from rfl, show D.neA (.str x) (.str "cases") = pure (.bl (!decide (x = "cases"))) from rfl]
            rw [show showB (n + 1 + 1) sz q (.tup [.str x, a, b]) = if x = "row" then rowPB sz q a b else if x = "cases" then caseB (showB (n + 1) sz) sz q a b else false from rfl]
            by_cases e1 : x = "row"
            · rw [decide_eq_true e1, if_pos rfl, if_pos e1, is_row_paper_D z hq (kn_of_plain pa) (kn_of_plain pb)]
              rfl
            · rw [decide_eq_false e1, if_neg (by decide), if_neg e1]
              by_cases e2 : x = "cases"
              · rw [decide_eq_true e2, if_pos e2]
                simp only [Bool.not_true, Bool.false_eq_true, if_false, pure_bind, is_blank_P (kn_of_plain pa) (show q.length ≤ 100 by have := hq.1; omega), isB_bl]
                cases a with
                | int i =>
                  by_cases h1 : 0 ≤ i ∧ i < q.length
                  · obtain ⟨m, rfl⟩ : ∃ m : Nat, i = m := ⟨i.toNat, by omega⟩
                    simp only [decide_eq_true h1, Bool.true_and, Int.toNat_natCast]
                    by_cases h2 : q.getD m 0 = -1
                    · simp only [decide_eq_true h2, Bool.not_true, Bool.false_eq_true, if_false, pure_bind]
                      cases b with
                      | pen k => cases pb
                      | scr k => cases pb
                      | opq k => cases pb
                      | tup ps =>
                        simp only [show isaM .tuple (.tup ps) = pure (.bl true) from rfl, pure_bind, isB_bl, Bool.not_true, Bool.false_eq_true, if_false, len_tup, len_tn, neA_int]
                        rw [show caseB (showB (n + 1) sz) sz q (.int m) (.tup ps) = (decide ((0 : Int) ≤ m ∧ (m : Int) < q.length) && (decide (q.getD m 0 = -1) && (decide (ps.length = sz.length) && (List.range sz.length).all fun h => showB (n + 1) sz (q.set m h) (ps.getD h .non)))) from by
                          simp only [caseB, Int.toNat_natCast]]
                        rw [decide_eq_true h1, decide_eq_true h2, Bool.true_and, Bool.true_and]
                        by_cases h4 : ps.length = sz.length
                        · rw [decide_eq_true (show (ps.length : Int) = sz.length by omega), decide_eq_true h4]
                          simp only [Bool.not_true, Bool.false_eq_true, if_false, enumM_tup, forF_def, pure_bind, Bool.true_and]
                          rw [enumL_getD, forM_parts (p := fun h => showB (n + 1) sz (q.set m h) (ps.getD h .non)) (d := .bl false) 0 fun i y s hy => ?_]
                          · rw [← h4]
                            simp only [Nat.zero_add]
                            cases (List.range ps.length).all fun h => showB (n + 1) sz (q.set m h) (ps.getD h .non) <;> rfl
                          · have hi := (List.getElem?_eq_some_iff.mp hy).1
                            have hg : ps.getD i .non = y := by rw [List.getD_eq_getElem?_getD, hy]; rfl
                            have hm : y ∈ ps := List.mem_of_getElem? hy
                            simp only [Nat.zero_add, un2_two, pure_bind, hg]
                            rw [with_hue_eq (show m < q.length by omega) (by have := hq.1; omega)]
                            simp only [pure_bind]
                            rw [ih (hq.set (show i < sz.length by omega) m) (plain_mem pb hm) (by
                              have h8 := depth_mem hd (x := .tup ps) (by simp)
                              have h9 := depth_mem (Nat.le_refl _) hm
                              omega)]
                            simp only [pure_bind, isB_bl]
                            cases showB (n + 1) sz (q.set m i) y <;> rfl
                        · rw [decide_eq_false (show ¬ (ps.length : Int) = sz.length by omega), decide_eq_false h4]
                          rfl
                      | _ => rfl
                    · simp only [decide_eq_false h2, Bool.not_false, if_true]
                      have e : caseB (showB (n + 1) sz) sz q (.int m) b = false := by
                        cases b with
                        | tup ps => simp only [caseB, Int.toNat_natCast, decide_eq_false h2, Bool.false_and, Bool.and_false]
                        | _ => rfl
                      rw [e]
                      rfl
                  · simp only [decide_eq_false h1, Bool.false_and, Bool.not_false, if_true]
                    have e : caseB (showB (n + 1) sz) sz q (.int i) b = false := by
                      cases b with
                      | tup ps => simp only [caseB, decide_eq_false h1, Bool.false_and]
                      | _ => rfl
                    rw [e]
                    rfl
                | _ => rfl
              · rw [decide_eq_false e2, if_neg e2]
                rfl
          | _ => exact good_paper_nostr rfl
      · rw [D_good_paper_eq]
        unfold B_good_paper
        simp only [bin_def, callM_def, seqL_cons, seqL_nil, pure_bind, f1_one, len_tup, neA_int, asB_def, isB_bl, orM_def, notM_def, show isaM .tuple (.tup xs) = pure (.bl true) from rfl, Bool.not_true, Bool.false_eq_true, if_false]
        rw [decide_eq_false (show ¬ (xs.length : Int) = 3 by omega)]
        have e : showB (n + 1 + 1) sz q (.tup xs) = false := by
          show partB _ sz q (.tup xs) = false
          unfold partB
          split
          · rename_i h
            cases h
            exact absurd rfl h3
          · rfl
        rw [e]
        rfl
    | _ => rfl
def wholeP : D → Bool
  | .int _ => true
  | _ => false
theorem L_whole_P {d : D} (h : d.kn) : D_L_whole [d] = pure (.bl (wholeP d)) := by
  rw [D_L_whole_eq]
  unfold B_L_whole
  cases d <;> first | exact h.elim | rfl
theorem chain_le_lt {i a b : Int} {m : M D} (hm : m = pure (.int b)) : chainM (pure (.int a)) (pure (.int i)) m D.le D.lt = pure (.bl (decide (a ≤ i ∧ i < b))) := by
  show ((D.le (.int a) (.int i)) >>= isB >>= fun k => if k then (m >>= fun z => D.lt (.int i) z) else pure (.bl false)) = _
  rw [hm]
  by_cases h : a ≤ i
  · rw [show D.le (.int a) (.int i) = pure (.bl true) by show pure _ = _; rw [decide_eq_true h]]
    show pure (D.bl (decide (i < b))) = _
    congr 2
    simp [h]
  · rw [show D.le (.int a) (.int i) = pure (.bl false) by show pure _ = _; rw [decide_eq_false h]]
    show pure (D.bl false) = _
    congr 2
    symm
    exact decide_eq_false fun z => h z.1
theorem put_term {q : List Int} {m : Nat} (h : m < q.length) (hl : q.length ≤ 1000) (o : Int) :
    (D.cutI (ti q) none (some (m : Int)) >>= fun x => pure (D.tup [.int o]) >>= fun y => D.add x y) >>= (fun x => D.cutI (ti q) (some ((m : Int) + 1)) none >>= fun y => D.add x y) = pure (ti (q.set m o)) := by
  simp only [cutI_ti, pure_bind]
  rw [cut_take q h, cut_drop q h]
  unfold ti
  rw [add_tup (by simp; omega), pure_bind, add_tup (by simp; omega), List.set_eq_take_append_cons_drop, if_pos h]
  simp
theorem L_shows_no {sz : List Nat} {n : Nat} {q : List Int} {w a b : D} (pa : a.kn) (h : isaM .str w = pure (.bl false) ∨ isaM .str w = pure (.bl true) ∧ wholeP a = false) : D_L_shows (n + 1) [tn sz, ti q, .tup [w, a, b]] = pure (.bl false) := by
  rw [D_L_shows_eq]
  unfold B_L_shows
  simp only [bin_def, callM_def, seqL_cons, seqL_nil, pure_bind, f1_one, show D.len (.tup [w, a, b]) = pure (.int 3) from rfl, neA_int, decide_true, Bool.not_true, Bool.false_eq_true, if_false, asB_def, isB_bl, orM_def, notM_def, show isaM .tuple (.tup [w, a, b]) = pure (.bl true) from rfl, show D.ix (.tup [w, a, b]) (.int 0) = pure w from rfl, show D.ix (.tup [w, a, b]) (.int 1) = pure a from rfl]
  rcases h with h | ⟨h, h2⟩
  · rw [h]
    rfl
  · rw [h, L_whole_P pa, h2]
    rfl
theorem L_shows_eq {sz : List Nat} (z : Szs sz) : ∀ {n : Nat} {q : List Int} {d : D}, HuesOk sz q → d.plain true = true → d.py.depth ≤ n → D_L_shows (n + 1) [tn sz, ti q, d] = pure (.bl (showB (n + 1) sz q d)) := by
  intro n
  induction n with
  | zero =>
    intro q d hq hp hd
    cases d with
    | tup xs => rw [D.py, PyData.depth] at hd; omega
    | pen k => cases hp
    | scr k => cases hp
    | opq k => cases hp
    | _ => rfl
  | succ n ih =>
    intro q d hq hp hd
    have zf := z.few
    have hl := hq.1
    cases d with
    | pen k => cases hp
    | scr k => cases hp
    | opq k => cases hp
    | tup xs =>
      by_cases h3 : xs.length = 3
      · match xs, h3 with
        | [w, a, b], _ =>
          have pw := plain_mem hp (x := w) (by simp)
          have pa := plain_mem hp (x := a) (by simp)
          have pb := plain_mem hp (x := b) (by simp)
          cases w with
          | pen k => cases pw
          | scr k => cases pw
          | opq k => cases pw
          | str x =>
            have S : showB (n + 1 + 1) sz q (.tup [.str x, a, b]) = if x = "row" then rowPB sz q a b else if x = "cases" then caseB (showB (n + 1) sz) sz q a b else false := rfl
            cases a with
            | pen k => cases pa
            | scr k => cases pa
            | opq k => cases pa
            | int i =>
              rw [D_L_shows_eq]
              unfold B_L_shows
              simp only [bin_def, callM_def, seqL_cons, seqL_nil, pure_bind, f1_one, show D.len (.tup [.str x, .int i, b]) = pure (.int 3) from rfl, neA_int, decide_true, Bool.not_true, Bool.false_eq_true, if_false, asB_def, isB_bl, orM_def, notM_def, show isaM .tuple (.tup [.str x, .int i, b]) = pure (.bl true) from rfl,
                show D.ix (.tup [.str x, .int i, b]) (.int 0) = pure (.str x) from rfl, show D.ix (.tup [.str x, .int i, b]) (.int 1) = pure (.int i) from rfl, show D.ix (.tup [.str x, .int i, b]) (.int 2) = pure b from rfl, show isaM .str (.str x) = pure (.bl true) from rfl,
                show D.eqA (.str x) (.str "row") = pure (.bl (decide (x = "row"))) from rfl, show D.neA (.str x) (.str "cases") = pure (.bl (!decide (x = "cases"))) from rfl, L_whole_P (show (D.int i).kn from trivial), wholeP, chain_le_lt (len_ti q)]
              rw [S]
              by_cases h1 : 0 ≤ i ∧ i < q.length
              · rw [decide_eq_true h1]
                obtain ⟨m, rfl⟩ : ∃ m : Nat, i = m := ⟨i.toNat, by omega⟩
                have hm : m < q.length := by omega
                simp only [Bool.not_true, Bool.false_eq_true, if_false, pure_bind, isB_bl]
                by_cases e1 : x = "row"
                · rw [decide_eq_true e1, if_pos rfl, if_pos e1, ix_at hm]
                  simp only [pure_bind, neg_int, eqA_int, isB_bl, L_whole_P (kn_of_plain pb)]
                  have hh := hq.at hm
                  by_cases h2 : q.getD m 0 = -1
                  · rw [decide_eq_true h2]
                    have e : rowPB sz q (.int m) b = false := by
                      cases b with
                      | int s => simp only [rowPB, Int.toNat_natCast, h2, show decide ((0 : Int) ≤ -1) = false from rfl, Bool.false_and, Bool.and_false]
                      | _ => rfl
                    rw [e]
                    rfl
                  · rw [decide_eq_false h2]
                    simp only [Bool.false_eq_true, if_false]
                    cases b with
                    | pen k => cases pb
                    | scr k => cases pb
                    | opq k => cases pb
                    | int s =>
                      simp only [wholeP, Bool.not_true, Bool.false_eq_true, if_false, pure_bind, isB_bl]
                      rw [chain_le_lt rfl]
                      simp only [pure_bind, isB_bl]
                      simp only [rowPB, Int.toNat_natCast]
                      rw [decide_eq_true h1, Bool.true_and]
                      by_cases h4 : 1 ≤ s ∧ s < 40
                      · rw [decide_eq_true h4, Bool.true_and]
                        obtain ⟨h, eh⟩ : ∃ h : Nat, q.getD m 0 = h := ⟨(q.getD m 0).toNat, by omega⟩
                        obtain ⟨t, rfl⟩ : ∃ t : Nat, s = t := ⟨s.toNat, by omega⟩
                        rw [eh] at hh
                        simp only [eh]
                        obtain ⟨z2, z8⟩ := z.at (show h < sz.length by omega)
                        simp only [Bool.not_true, Bool.false_eq_true, if_false, cutM_def, partM, pure_bind, asI_int, cut1_three, tn_ix (show h < sz.length by omega), Int.toNat_natCast]
                        rw [show (.tup [.int m, .int t] : D) = Dr (m, t) from rfl, L_places_eq (m, t) (by omega), pure_bind, ixm1_ints (.inr rfl) (places_ne (by omega)), pure_bind, places_last (by omega)]
                        simp only [pure_bind, lt_int, len_ti, andV_def, isB_bl]
                        rw [decide_eq_true (show (0 : Int) ≤ h by omega), Bool.true_and]
                        by_cases h5 : m + (sz.getD h 0 - 1) * t < q.length
                        · rw [decide_eq_true (show ((m + (sz.getD h 0 - 1) * t : Nat) : Int) < (q.length : Int) by omega), if_pos rfl, decide_eq_true h5, Bool.true_and]
                          rw [show itemsL (li (places (m, t) (sz.getD h 0))) = pure ((places (m, t) (sz.getD h 0)).map D.int) from rfl]
                          simp only [bind_assoc, pure_bind]
                          rw [← bind_assoc, none_places h (by omega) h5, pure_bind]
                          rfl
                        · rw [decide_eq_false (show ¬ ((m + (sz.getD h 0 - 1) * t : Nat) : Int) < (q.length : Int) by omega), decide_eq_false h5]
                          rfl
                      · rw [decide_eq_false h4]
                        rfl
                    | _ => rfl
                · rw [decide_eq_false e1, if_neg (by decide), if_neg e1]
                  by_cases e2 : x = "cases"
                  · rw [decide_eq_true e2, if_pos e2, ix_at hm]
                    simp only [Bool.not_true, Bool.false_eq_true, if_false, pure_bind, neg_int, neA_int, isB_bl]
                    by_cases h2 : q.getD m 0 = -1
                    · rw [decide_eq_true h2]
                      simp only [Bool.not_true, Bool.false_eq_true, if_false, pure_bind]
                      cases b with
                      | pen k => cases pb
                      | scr k => cases pb
                      | opq k => cases pb
                      | tup ps =>
                        simp only [show isaM .tuple (.tup ps) = pure (.bl true) from rfl, pure_bind, isB_bl, Bool.not_true, Bool.false_eq_true, if_false, len_tup, len_tn, neA_int]
                        rw [show caseB (showB (n + 1) sz) sz q (.int m) (.tup ps) = (decide ((0 : Int) ≤ m ∧ (m : Int) < q.length) && (decide (q.getD m 0 = -1) && (decide (ps.length = sz.length) && (List.range sz.length).all fun h => showB (n + 1) sz (q.set m h) (ps.getD h .non)))) from by
                          simp only [caseB, Int.toNat_natCast]]
                        rw [decide_eq_true h1, decide_eq_true h2, Bool.true_and, Bool.true_and]
                        by_cases h4 : ps.length = sz.length
                        · rw [decide_eq_true (show (ps.length : Int) = sz.length by omega), decide_eq_true h4]
                          simp only [Bool.not_true, Bool.false_eq_true, if_false, enumM_tup, forF_def, pure_bind, Bool.true_and]
                          rw [enumL_getD, forM_parts (p := fun h => showB (n + 1) sz (q.set m h) (ps.getD h .non)) (d := .bl false) 0 fun i y s hy => ?_]
                          · rw [← h4]
                            simp only [Nat.zero_add]
                            cases (List.range ps.length).all fun h => showB (n + 1) sz (q.set m h) (ps.getD h .non) <;> rfl
                          · have hi := (List.getElem?_eq_some_iff.mp hy).1
                            have hg : ps.getD i .non = y := by rw [List.getD_eq_getElem?_getD, hy]; rfl
                            have hmm : y ∈ ps := List.mem_of_getElem? hy
                            simp only [Nat.zero_add, un2_two, pure_bind, hg, tupM_def, seqL_cons, seqL_nil, cutM_def, partM, asI_int, add_int]
                            have pt := put_term hm (by omega) (i : Int)
                            simp only [pure_bind] at pt
                            rw [pt]
                            simp only [pure_bind]
                            rw [ih (hq.set (show i < sz.length by omega) m) (plain_mem pb hmm) (by
                              have h8 := depth_mem hd (x := .tup ps) (by simp)
                              have h9 := depth_mem (Nat.le_refl _) hmm
                              omega)]
                            simp only [pure_bind, isB_bl]
                            cases showB (n + 1) sz (q.set m i) y <;> rfl
                        · rw [decide_eq_false (show ¬ (ps.length : Int) = sz.length by omega), decide_eq_false h4]
                          rfl
                      | _ => rfl
                    · rw [decide_eq_false h2]
                      have e : caseB (showB (n + 1) sz) sz q (.int m) b = false := by
                        cases b with
                        | tup ps => simp only [caseB, Int.toNat_natCast, decide_eq_false h2, Bool.false_and, Bool.and_false]
                        | _ => rfl
                      rw [e]
                      rfl
                  · rw [decide_eq_false e2, if_neg e2]
                    rfl
              · rw [decide_eq_false h1]
                have e1 : rowPB sz q (.int i) b = false := by
                  cases b with
                  | int s => rw [rowPB, decide_eq_false h1]; rfl
                  | _ => rfl
                have e2 : caseB (showB (n + 1) sz) sz q (.int i) b = false := by
                  cases b with
                  | tup ps => rw [caseB, decide_eq_false h1]; rfl
                  | _ => rfl
                rw [e1, e2]
                simp only [ite_self]
                rfl
            | _ =>
              rw [L_shows_no (by exact trivial) (.inr ⟨rfl, rfl⟩), S]
              simp only [rowPB, caseB, ite_self]
          | _ => exact L_shows_no (kn_of_plain pa) (.inl rfl)
      · rw [D_L_shows_eq]
        unfold B_L_shows
        simp only [bin_def, callM_def, seqL_cons, seqL_nil, pure_bind, f1_one, len_tup, neA_int, asB_def, isB_bl, orM_def, notM_def, show isaM .tuple (.tup xs) = pure (.bl true) from rfl, Bool.not_true, Bool.false_eq_true, if_false]
        rw [decide_eq_false (show ¬ (xs.length : Int) = 3 by omega)]
        have e : showB (n + 1 + 1) sz q (.tup xs) = false := by
          show partB _ sz q (.tup xs) = false
          unfold partB
          split
          · rename_i h
            cases h
            exact absurd rfl h3
          · rfl
        rw [e]
        rfl
    | _ => rfl
/-! ### small sizes, knots -/
def fewL : List (List Nat) := [[3, 3], [3, 3], [2, 3], [3, 2], [2, 2, 3], [3, 4], [4, 3], [2, 2], [3], [2, 2, 2], [3, 3, 2], [2, 4]]
theorem fewL_ok : ∀ sz ∈ fewL, Szs sz ∧ sz.length ≤ 3 := by
  have key : ∀ sz ∈ fewL, 1 ≤ sz.length ∧ sz.length ≤ 3 ∧ (∀ s ∈ sz, 2 ≤ s) ∧ ∀ s ∈ sz, s ≤ 8 := by decide
  intro sz h
  obtain ⟨a, b, c, d⟩ := key sz h
  exact ⟨⟨a, by omega, c, d⟩, b⟩
theorem few_sat : Sat (D_L_few [.pen false]) (fun d => ∃ sz : List Nat, d = tn sz ∧ Szs sz ∧ sz.length ≤ 3) := by
  rw [D_L_few_eq]
  unfold B_L_few
  have e : (seqL [(tupM [(pure (.int 3)), (pure (.int 3))]), (tupM [(pure (.int 3)), (pure (.int 3))]), (tupM [(pure (.int 2)), (pure (.int 3))]), (tupM [(pure (.int 3)), (pure (.int 2))]), (tupM [(pure (.int 2)), (pure (.int 2)), (pure (.int 3))]), (tupM [(pure (.int 3)), (pure (.int 4))]), (tupM [(pure (.int 4)), (pure (.int 3))]), (tupM [(pure (.int 2)), (pure (.int 2))]), (tupM [(pure (.int 3))]), (tupM [(pure (.int 2)), (pure (.int 2)), (pure (.int 2))]), (tupM [(pure (.int 3)), (pure (.int 3)), (pure (.int 2))]), (tupM [(pure (.int 2)), (pure (.int 4))])]) = pure (fewL.map tn) := rfl
  rw [e]
  simp only [pure_bind, callM_def, seqL_cons, seqL_nil, bin_def, endB_bind]
  refine Sat.bind (Sat.bind (Sat.drw (by decide) (by decide)) (Q := fun d => ∃ sz : List Nat, d = tn sz ∧ Szs sz ∧ sz.length ≤ 3) ?_) ?_
  · rintro _ ⟨m, rfl, m0, m1⟩
    rw [ix_lst m0 (by simp [fewL]; omega), List.getElem_map]
    obtain ⟨a, b⟩ := fewL_ok _ (List.getElem_mem (l := fewL) (n := m.toNat) (by simp [fewL]; omega))
    exact Sat.pur ⟨_, rfl, a, b⟩
  · rintro _ ⟨sz, rfl, a, b⟩
    rw [endB_rt]
    exact Sat.pur ⟨sz, rfl, a, b⟩
theorem knot_sat {sz : List Nat} (z : Szs sz) {lim spare : Nat} (l1 : lim ≤ 30) :
    Sat (D_L_knot [.pen false, tn sz, .int lim, .int spare]) (fun d => ∃ q : List Int, d = ti q ∧ q.length ≤ lim ∧ (∀ x ∈ q, -1 ≤ x ∧ x < sz.length) ∧ q.count (-1) ≤ spare) := by
  have zp := z.pos
  have zf := z.few
  rw [D_L_knot_eq]
  unfold B_L_knot
  simp only [parM, bin_def, callM_def, seqL_cons, seqL_nil, pure_bind, bind_assoc, endB_bind, add_int, f1_one, len_tn, asB_def, notM_def, andM_def, tupM_def]
  refine Sat.bind (Sat.drw (by decide) (by decide)) ?_
  rintro _ ⟨share, rfl, w0, w1⟩
  simp only [pure_bind, add_int]
  refine Sat.bind (Sat.drw (by omega) (by omega)) ?_
  rintro _ ⟨len, rfl, n0, n1⟩
  simp only [pure_bind, rng1_one, forF_def, tg1_def]
  rw [range1_ok (by omega) (by omega), pure_bind]
  refine Sat.endseq (Sat.for' (fun k (s : List D) => ∃ f : List Int, s = f.map D.int ∧ f.length = k ∧ (∀ x ∈ f, -1 ≤ x ∧ x < sz.length) ∧ f.count (-1) ≤ spare) 0 ⟨[], rfl, rfl, by simp, by simp⟩ (fun k x s hx hi => ?_) (fun s hs => ?_))
  · obtain ⟨hk, rfl⟩ := rangeL_get hx
    obtain ⟨f, rfl, hf, hb, hc⟩ := hi
    have hfl : f.length ≤ 30 := by omega
    refine Sat.bind (Sat.drw (by omega) (by omega)) ?_
    rintro _ ⟨hue, rfl, h0, h1⟩
    refine Sat.bind (Sat.drw (by omega) (by omega)) ?_
    rintro _ ⟨skip, rfl, _, _⟩
    simp only [eqA_int, pure_bind, un2_two, isB_bl]
    rw [range1_ok (by omega) (by omega), lcF_rng0 (fun i => .int ((hue + i) % (sz.length : Int))) (by omega) fun i hi => by rw [add_int, pure_bind, mod_ok (by omega)]]
    simp only [pure_bind, items_lst]
    have hend : ∀ j : Int, ∃ b, 0 ≤ j → j < sz.length → D_L_ended [tn sz, .lst (f.map D.int), .int j] = pure (.bl b) := fun j => by
      by_cases hj : 0 ≤ j ∧ j < sz.length
      · obtain ⟨b, e⟩ := L_ended_ok z hj.1 hj.2 (show f.length ≤ 1000 by omega) (f := .lst (f.map D.int)) (.inl rfl)
        exact ⟨b, fun _ _ => e⟩
      · exact ⟨true, fun a b => absurd ⟨a, b⟩ hj⟩
    obtain ⟨en, hen⟩ := Classical.skolem.mp hend
    have hone : ∀ x ∈ (List.range sz.length).map (fun i : Nat => D.int ((hue + i) % (sz.length : Int))), ∃ j : Int, x = .int j ∧ 0 ≤ j ∧ j < sz.length := fun x hx => by
      obtain ⟨i, _, rfl⟩ := List.mem_map.mp hx
      exact ⟨_, rfl, Int.emod_nonneg _ (by omega), Int.emod_lt_of_pos _ (by omega)⟩
    rw [lcF_eq1 (fun d => match d with | .int j => !decide (skip = 0) && !en j | _ => false) (fun x => x) (by rw [List.length_map, List.length_range]; omega) (fun x hx => ?_) fun x _ _ => rfl]
    · rw [List.map_id', pure_bind]
      obtain ⟨g, hg, hgb⟩ : ∃ g : List Int, ((List.range sz.length).map fun i : Nat => D.int ((hue + i) % (sz.length : Int))).filter (fun d => match d with | .int j => !decide (skip = 0) && !en j | _ => false) = g.map D.int ∧ ∀ x ∈ g, 0 ≤ x ∧ x < sz.length :=
        exists_ints fun y hy => hone y (List.mem_filter.mp hy).1
      have hgl : g.length ≤ 4 := by
        have := congrArg List.length hg
        rw [List.length_map] at this
        have h2 := List.length_filter_le (fun d => match d with | .int j => !decide (skip = 0) && !en j | _ => false) ((List.range sz.length).map fun i : Nat => D.int ((hue + i) % (sz.length : Int)))
        rw [List.length_map, List.length_range] at h2
        omega
      rw [hg, show D.eqA (.lst (g.map D.int)) (.lst []) = pure (.bl (decide (g = []))) from eqA_li g []]
      refine Sat.grd (fun d hd => by
        obtain ⟨i, _, rfl⟩ := List.mem_map.mp hd
        exact trivial) ?_
      simp only [pure_bind, isB_bl, neg_int]
      have hsn : ∀ y : Int, -1 ≤ y → y < sz.length → ∀ x ∈ f ++ [y], -1 ≤ x ∧ x < sz.length := fun y a b x hx => by
        rcases List.mem_append.mp hx with hx | hx
        · exact hb x hx
        · rw [List.mem_singleton.mp hx]; exact ⟨a, b⟩
      match g, hgb, hgl with
      | [], _, _ =>
        rw [decide_eq_true rfl, if_pos rfl]
        have hcn : lstMet cntL (pure (D.lst (f.map D.int))) [pure (D.int (-1))] = pure (.int (f.count (-1) : Nat)) := by
          simp [lstMet, cntL, intsL_int, ofO, -bind_pure_comp]
        rw [hcn, pure_bind, eqA_int, pure_bind, isB_bl, pure_bind]
        refine Sat.ite (fun _ => ?_) (fun hne => ?_)
        · simp only [toTup_lst, pure_bind]
          exact Sat.pur ⟨f, rfl, by omega, hb, hc⟩
        · have hne2 : ¬ ((f.count (-1) : Nat) : Int) = spare := fun e => hne (decide_eq_true e)
          rw [show D.add (.lst (([] : List Int).map D.int)) (.lst [.int (-1)]) = pure (.lst [.int (-1)]) from add_lst (by decide), pure_bind, show D.ix (.lst [.int (-1)]) (.int 0) = pure (.int (-1)) from rfl]
          simp only [appM_def, pure_bind, bind_assoc]
          refine Sat.grd (by rw [line_eq, List.length_map]; omega) (Sat.pur ⟨f ++ [-1], by simp, by rw [List.length_append, List.length_singleton]; omega, hsn _ (by omega) (by omega), ?_⟩)
          rw [List.count_append, List.count_singleton_self]
          omega
      | y :: r, hgb, hgl =>
        rw [decide_eq_false (List.cons_ne_nil _ _), if_neg (by decide), pure_bind, if_neg (by decide)]
        obtain ⟨y0, y1⟩ := hgb y List.mem_cons_self
        rw [List.length_cons] at hgl
        rw [show D.add (.lst ((y :: r).map D.int)) (.lst [.int (-1)]) = pure (.lst ((y :: r).map D.int ++ [.int (-1)])) from add_lst (by simp; omega), pure_bind, show D.ix (.lst ((y :: r).map D.int ++ [.int (-1)])) (.int 0) = pure (.int y) from by
          rw [ix_lst (by decide) (by simp; omega)]
          rfl]
        simp only [appM_def, pure_bind, bind_assoc]
        refine Sat.grd (by rw [line_eq, List.length_map]; omega) (Sat.pur ⟨f ++ [y], by simp, by rw [List.length_append, List.length_singleton]; omega, hsn _ (by omega) y1, ?_⟩)
        rw [List.count_append, List.count_singleton, show ((y == -1) = false) from by rw [beq_eq_false_iff_ne]; omega]
        simpa using hc
    · obtain ⟨j, rfl, j0, j1⟩ := hone x hx
      by_cases c : skip = 0
      · rw [decide_eq_true c]
        rfl
      · rw [decide_eq_false c]
        simp only [Bool.not_false, if_true, hen j j0 j1, pure_bind, isB_bl, Bool.true_and]
  · obtain ⟨f, rfl, hf, hb, hc⟩ := hs
    rw [rangeL_length] at hf
    simp only [toTup_lst, pure_bind, endB_rt]
    exact Sat.pur ⟨f, rfl, by omega, hb, hc⟩
/-! ### papers made here -/
def MPp (sz : List Nat) : Nat → D → Prop
  | 0, _ => False
  | n + 1, d => (∃ i s : Nat, i < 100 ∧ s < 100 ∧ d = .tup [.str "row", .int i, .int s]) ∨ ∃ (i : Nat) (ps : List D), i < 100 ∧ d = .tup [.str "cases", .int i, .tup ps] ∧ ps.length = sz.length ∧ ∀ p ∈ ps, MPp sz n p
theorem wrongS_mem {sz : List Nat} (z : Szs sz) {l : List Int} (hl : l.length ≤ 100) {r : List Int} (h : r ∈ wrongS sz l) : ∃ p : Nat × Nat, r = pairI p ∧ p.1 < 100 ∧ p.2 < 100 := by
  unfold wrongS at h
  have h2 : r ∈ (wrongTo sz l sz.length).map pairI := (sortI_perm _).mem_iff.mp h
  obtain ⟨p, hp, rfl⟩ := List.mem_map.mp h2
  unfold wrongTo at hp
  obtain ⟨i, hi, hp⟩ := List.mem_flatMap.mp hp
  rw [List.mem_range] at hi
  have s2 := (z.at hi).1
  obtain ⟨h3, h4⟩ := rows_in s2 (List.mem_filter.mp hp).1
  have : 1 * p.2 ≤ (sz.getD i 0 - 1) * p.2 := Nat.mul_le_mul_right _ (by omega)
  exact ⟨p, rfl, by omega, by omega⟩
theorem lti_last {ws : List (List Int)} (h : ws ≠ []) : D.ix (lti ws) (.int (-1)) = pure (ti (ws.getLast h)) := by
  have hp := List.length_pos_iff.mpr h
  show ofO (atI' (ws.map ti) (-1)) = _
  unfold atI'
  rw [if_neg (by decide), List.length_map, if_pos (by omega), show (-1 + (ws.length : Int)).toNat = ws.length - 1 by omega, List.getElem?_map, List.getElem?_eq_getElem (by omega), List.getLast_eq_getElem]
  rfl
theorem nats_last {bs : List Nat} (h : bs ≠ []) : D.ix (.lst (bs.map fun i : Nat => D.int i)) (.int (-1)) = pure (.int (bs.getLast h : Nat)) := by
  have hp := List.length_pos_iff.mpr h
  show ofO (atI' (bs.map fun i : Nat => D.int i) (-1)) = _
  unfold atI'
  rw [if_neg (by decide), List.length_map, if_pos (by omega), show (-1 + (bs.length : Int)).toNat = bs.length - 1 by omega, List.getElem?_map, List.getElem?_eq_getElem (by omega), List.getLast_eq_getElem]
  rfl
theorem enum_blanks {q : List Int} (hl : q.length ≤ 1000) : lcF (enumM (pure (ti q))) un2 (fun p1 => p1.2.eqA (.int (-1)) >>= isB) (fun p1 => pure p1.1) = pure ((blanksL q).map fun i : Nat => D.int i) := by
  unfold ti
  rw [show enumM (pure (D.tup (q.map D.int))) = pure (enumL (q.map D.int)) from rfl, lcF_enum (fun i => decide (q.getD i 0 = -1)) (fun i => .int i) (by rw [List.length_map]; omega) fun i x hx => ?_]
  · rw [List.length_map]
    rfl
  · obtain ⟨hi, rfl⟩ := ti_get hx
    refine ⟨?_, fun _ => rfl⟩
    simp only [pure_bind, eqA_int, isB_bl]
theorem put_less {q : List Int} {p : Nat} {h : Nat} (hp : p < q.length) (hb : q.getD p 0 = -1) : (q.set p (h : Int)).count (-1) + 1 ≤ q.count (-1) := by
  rw [List.count_set hp]
  have : ((h : Int) == -1) = false := by
    rw [beq_eq_false_iff_ne]
    omega
  rw [this]
  have e : q[p] = -1 := by
    rw [List.getD_eq_getElem?_getD, List.getElem?_eq_getElem hp] at hb
    exact hb
  rw [e]
  have : 0 < q.count (-1) := List.count_pos_iff.mpr (e ▸ List.getElem_mem hp)
  simp
  omega
theorem nats_eq_nil (bs : List Nat) : D.eqA (.lst (bs.map fun i : Nat => D.int i)) (.lst []) = pure (.bl (decide (bs = []))) := (enc_nat 0).lst.eqA (by decide) bs []
/-! ### things near papers -/
structure Th (n m : Nat) (d : D) : Prop where
  it : d.itm n m
  pf : d.plain false = true
theorem Th.mono {n m n' m' : Nat} {d : D} (h : Th n m d) (h1 : n ≤ n') (h2 : m ≤ m') : Th n' m' d := ⟨itm_mono h.it h1 h2, h.pf⟩
theorem Th.show {n m : Nat} {d : D} (h : Th n m d) (h1 : n ≤ 60) (h2 : m ≤ 16777216) : d.canShow := can_show h.it h1 h2 (.inl (noD_of h.pf))
theorem plains_all {k : Bool} : ∀ {xs : List D}, (∀ x ∈ xs, x.plain k = true) → D.plains k xs = true
  | [], _ => rfl
  | x :: r, h => by
    rw [D.plains, h x List.mem_cons_self, plains_all fun y hy => h y (List.mem_cons_of_mem _ hy)]
    rfl
theorem th_tup {n m k l : Nat} {xs : List D} (h : ∀ x ∈ xs, Th n m x) (hl : xs.length ≤ k) (hm : k * (m + 2) + 3 ≤ l) : Th (n + 1) l (.tup xs) := ⟨itm_tup (fun x hx => (h x hx).it) hl hm, by
  rw [D.plain]
  exact plains_all fun x hx => (h x hx).pf⟩
theorem th_lst {n m k l : Nat} {xs : List D} (h : ∀ x ∈ xs, Th n m x) (hl : xs.length ≤ k) (hm : k * (m + 2) + 3 ≤ l) : Th (n + 1) l (.lst xs) := ⟨itm_lst (fun x hx => (h x hx).it) hl hm, by
  rw [D.plain]
  exact plains_all fun x hx => (h x hx).pf⟩
theorem th_int {n : Nat} {i : Int} (h : i.natAbs < 10 ^ 40) : Th n 50 (.int i) := ⟨itm_int (k := 40) (by decide) h (by decide) (by decide), rfl⟩
theorem th_non {n : Nat} : Th n 50 .non := ⟨itm_non (by decide), rfl⟩
theorem th_bl {n : Nat} {b : Bool} : Th n 50 (.bl b) := ⟨itm_bl (by decide), rfl⟩
theorem th_str {n : Nat} {x : Str} (h : (PySem.reprText x).length ≤ 50) : Th n 50 (.str x) := ⟨itm_str h, rfl⟩
/-- three things, each with its own bound -/
theorem th_three {n ma mb mc l : Nat} {a b c : D} (ha : Th n ma a) (hb : Th n mb b) (hc : Th n mc c) (hl : ma + mb + mc + 9 ≤ l) : Th (n + 1) l (.tup [a, b, c]) := by
  obtain ⟨⟨a1, a2, a3, a4⟩, a5⟩ := ha
  obtain ⟨⟨b1, b2, b3, b4⟩, b5⟩ := hb
  obtain ⟨⟨c1, c2, c3, c4⟩, c5⟩ := hc
  refine ⟨⟨by simp [D.plain, D.plains, a1, b1, c1], by simp [D.py, D.pys, PyData.showable, PyData.showableAll, a2, b2, c2], ?_, ?_⟩, by simp [D.plain, D.plains, a5, b5, c5]⟩
  · simp [D.py, D.pys, PyData.depth, PyData.depthAll]
    omega
  · simp only [D.wt, D.wts]
    omega
def BB : Nat → Nat
  | 0 => 100
  | n + 1 => 4 * (BB n + 2) + 600
theorem BB_ge : ∀ n, 100 ≤ BB n
  | 0 => Nat.le_refl _
  | n + 1 => by
    have := BB_ge n
    rw [BB]
    omega
theorem BB_le {m n : Nat} (h : m ≤ n) : BB m ≤ BB n := by
  induction h with
  | refl => exact Nat.le_refl _
  | step _ ih => rw [BB]; omega
theorem word_row : (PySem.reprText ("row" : Str)).length ≤ 50 := by decide +kernel
theorem word_cases : (PySem.reprText ("cases" : Str)).length ≤ 50 := by decide +kernel
theorem th_nat {n i : Nat} (h : i < 100) : Th n 5 (.int (i : Int)) := ⟨itm_int (k := 3) (by decide) (by rw [Int.natAbs_natCast]; omega) (by decide) (by decide), rfl⟩
theorem th_row {n : Nat} : Th n 10 (.str "row") := ⟨itm_str (by decide +kernel), rfl⟩
theorem th_cases {n : Nat} : Th n 10 (.str "cases") := ⟨itm_str (by decide +kernel), rfl⟩
theorem mp_th {sz : List Nat} (zf : sz.length ≤ 4) : ∀ {n : Nat} {d : D}, MPp sz n d → Th (2 * n + 1) (BB n) d
  | 0, d, h => h.elim
  | n + 1, d, h => by
    rcases h with ⟨i, s, h1, h2, rfl⟩ | ⟨i, ps, h1, rfl, h2, h3⟩
    · exact th_three th_row (th_nat h1) (th_nat h2) (by have := BB_ge (n + 1); omega)
    · have ht : Th (2 * n + 1 + 1) (4 * (BB n + 2) + 3) (.tup ps) := th_tup (fun p hp => mp_th zf (h3 p hp)) (by omega) (Nat.le_refl _)
      exact th_three th_cases (th_nat h1) ht (by rw [BB]; omega)
/-- one of some things -/
theorem pick_th {n m : Nat} {xs : List D} (h : ∀ x ∈ xs, Th n m x) {i : Int} (h0 : 0 ≤ i) (h1 : i < xs.length) : ∃ d, D.ix (.lst xs) (.int i) = pure d ∧ Th n m d := ⟨_, ix_lst h0 h1, h _ (List.getElem_mem _)⟩
theorem strI_nat {s : Nat} (h : s < 100) : D.strI (.int (s : Int)) = pure (.str ((toString (s : Int) : String) : Str)) := by
  show (guard _ >>= fun _ => _) = _
  refine guard_bind ?_ _
  by_cases z : s = 0
  · subst z; decide
  · exact Nat.lt_of_lt_of_le ((Nat.log2_lt (by omega)).mpr (show (s : Int).natAbs < 2 ^ 7 by omega)) (by decide)
theorem text_nat : ∀ s : Nat, s < 100 → (PySem.reprText ((toString (s : Int) : String) : Str)).length ≤ 50 := by decide +kernel
def oddsP (i : Int) : List D := [.non, .bl true, .int (-1), .str "0", .tup [.int 0], .int (10 ^ 29), .int 0, .int (i + 1)]
theorem oddsP_th {i : Nat} (h : i < 100) : ∀ x ∈ oddsP (i : Int), Th 1 100 x := by
  intro x hx
  unfold oddsP at hx
  rcases List.mem_cons.mp hx with rfl | hx
  · exact th_non.mono (Nat.le_refl _) (by decide)
  rcases List.mem_cons.mp hx with rfl | hx
  · exact th_bl.mono (Nat.le_refl _) (by decide)
  rcases List.mem_cons.mp hx with rfl | hx
  · exact (th_int (by decide)).mono (Nat.le_refl _) (by decide)
  rcases List.mem_cons.mp hx with rfl | hx
  · exact (th_str (by decide +kernel)).mono (Nat.le_refl _) (by decide)
  rcases List.mem_cons.mp hx with rfl | hx
  · exact th_tup (n := 0) (m := 50) (k := 1) (fun x hx => by rw [List.mem_singleton.mp hx]; exact th_int (by decide)) (Nat.le_refl _) (by decide)
  rcases List.mem_cons.mp hx with rfl | hx
  · exact (th_int (by decide +kernel)).mono (Nat.le_refl _) (by decide)
  rcases List.mem_cons.mp hx with rfl | hx
  · exact (th_int (by decide)).mono (Nat.le_refl _) (by decide)
  · rw [List.mem_singleton.mp hx]
    exact (th_int (by
      have : ((i : Int) + 1).natAbs < 1000 := by omega
      exact Nat.lt_of_lt_of_le this (by decide))).mono (Nat.le_refl _) (by decide)
def wordsP : List D := [.str "case", .str "rows", .str "", .str "Row", .str "row", .str "cases", .str "row ", .str "paper"]
theorem wordsP_th : ∀ x ∈ wordsP, Th 1 50 x := by
  have key : ∀ w ∈ ([("case" : Str), "rows", "", "Row", "row", "cases", "row ", "paper"] : List Str), (PySem.reprText w).length ≤ 50 := by decide +kernel
  intro x hx
  obtain ⟨w, hw, rfl⟩ := List.mem_map.mp (show x ∈ ([("case" : Str), "rows", "", "Row", "row", "cases", "row ", "paper"] : List Str).map D.str from hx)
  exact th_str (key w hw)
theorem parts {n : Nat} : ∀ {xs : List D}, (∀ x ∈ xs, ∃ m, Th n m x) → D.plains true xs = true ∧ PyData.showableAll (D.pys xs) = true ∧ PyData.depthAll (D.pys xs) ≤ n ∧ D.plains false xs = true
  | [], _ => ⟨rfl, by simp [D.pys, PyData.showableAll], by simp [D.pys, PyData.depthAll], rfl⟩
  | x :: r, h => by
    obtain ⟨m, ⟨a, b, c, _⟩, d⟩ := h x (List.mem_cons_self)
    obtain ⟨e, f, g, i⟩ := parts fun y hy => h y (List.mem_cons_of_mem x hy)
    exact ⟨by simp [D.plains, a, e], by simp [D.pys, PyData.showableAll, b, f], by simp [D.pys, PyData.depthAll]; omega, by simp [D.plains, d, i]⟩
theorem th_tup' {n l : Nat} {xs : List D} (h : ∀ x ∈ xs, ∃ m, Th n m x) (hw : D.wts xs + 3 ≤ l) : Th (n + 1) l (.tup xs) := by
  obtain ⟨a, b, c, d⟩ := parts h
  exact ⟨⟨by simpa [D.plain] using a, by simpa [D.py, PyData.showable] using b, by simpa [D.py, PyData.depth] using c, by rw [D.wt]; exact hw⟩, by simpa [D.plain] using d⟩
theorem th_lst' {n l : Nat} {xs : List D} (h : ∀ x ∈ xs, ∃ m, Th n m x) (hw : D.wts xs + 3 ≤ l) : Th (n + 1) l (.lst xs) := by
  obtain ⟨a, b, c, d⟩ := parts h
  exact ⟨⟨by simpa [D.plain] using a, by simpa [D.py, PyData.showable] using b, by simpa [D.py, PyData.depth] using c, by rw [D.wt]; exact hw⟩, by simpa [D.plain] using d⟩
theorem odds_lst (i : Int) : seqL [(pure .non : M D), pure (.bl true), pure (.int (-1)), pure (.str "0"), pure (.tup [.int 0]), pure (.int (10 ^ 29)), pure (.int 0), pure (.int (i + 1))] = pure (oddsP i) := rfl
def lastP (a b c : D) : List D := [.lst [a, b, c], .tup [a, b], .tup [a, b, c, .int 0], .tup [.tup [a, b, c]]]
theorem lastP_th {n m l : Nat} {a b c : D} (ha : Th n 10 a) (hb : Th n 5 b) (hc : Th n m c) (hl : m + 100 ≤ l) : ∀ x ∈ lastP a b c, Th (n + 2) l x := by
  have wa := ha.it.we
  have wb := hb.it.we
  have wc := hc.it.we
  have w0 : D.wt (.int 0) ≤ 5 := (th_nat (n := 0) (i := 0) (by decide)).it.we
  have h3 : Th (n + 1) (m + 50) (.tup [a, b, c]) := th_three ha hb hc (by omega)
  intro x hx
  unfold lastP at hx
  rcases List.mem_cons.mp hx with rfl | hx
  · refine (th_lst' (n := n) (l := l) (fun x hx => ?_) (by simp only [D.wts]; omega)).mono (by omega) (Nat.le_refl _)
    rcases List.mem_cons.mp hx with rfl | hx
    · exact ⟨_, ha⟩
    rcases List.mem_cons.mp hx with rfl | hx
    · exact ⟨_, hb⟩
    · rw [List.mem_singleton.mp hx]; exact ⟨_, hc⟩
  rcases List.mem_cons.mp hx with rfl | hx
  · refine (th_tup' (n := n) (l := l) (fun x hx => ?_) (by simp only [D.wts]; omega)).mono (by omega) (Nat.le_refl _)
    rcases List.mem_cons.mp hx with rfl | hx
    · exact ⟨_, ha⟩
    · rw [List.mem_singleton.mp hx]; exact ⟨_, hb⟩
  rcases List.mem_cons.mp hx with rfl | hx
  · refine (th_tup' (n := n) (l := l) (fun x hx => ?_) (by simp only [D.wts]; omega)).mono (by omega) (Nat.le_refl _)
    rcases List.mem_cons.mp hx with rfl | hx
    · exact ⟨_, ha⟩
    rcases List.mem_cons.mp hx with rfl | hx
    · exact ⟨_, hb⟩
    rcases List.mem_cons.mp hx with rfl | hx
    · exact ⟨_, hc⟩
    · rw [List.mem_singleton.mp hx]; exact ⟨_, th_nat (i := 0) (by decide)⟩
  · rw [List.mem_singleton.mp hx]
    exact th_tup (k := 1) (fun x hx => by rw [List.mem_singleton.mp hx]; exact h3) (Nat.le_refl _) (by omega)
def rowsP (s : Int) (t : Str) : List D := [.int (s + 1), .int 0, .int (-1), .bl true, .non, .str t, .tup [.int s], .int (s - 1)]
theorem rowsP_th {s : Nat} {t : Str} (h : s < 100) (ht : (PySem.reprText t).length ≤ 50) : ∀ x ∈ rowsP s t, Th 1 100 x := by
  intro x hx
  unfold rowsP at hx
  have small : ∀ i : Int, i.natAbs < 1000 → Th 1 100 (.int i) := fun i hi => (th_int (Nat.lt_of_lt_of_le hi (by decide))).mono (Nat.le_refl _) (by decide)
  rcases List.mem_cons.mp hx with rfl | hx
  · exact small _ (by omega)
  rcases List.mem_cons.mp hx with rfl | hx
  · exact small _ (by omega)
  rcases List.mem_cons.mp hx with rfl | hx
  · exact small _ (by omega)
  rcases List.mem_cons.mp hx with rfl | hx
  · exact th_bl.mono (Nat.le_refl _) (by decide)
  rcases List.mem_cons.mp hx with rfl | hx
  · exact th_non.mono (Nat.le_refl _) (by decide)
  rcases List.mem_cons.mp hx with rfl | hx
  · exact (th_str ht).mono (Nat.le_refl _) (by decide)
  rcases List.mem_cons.mp hx with rfl | hx
  · exact th_tup (n := 0) (m := 50) (k := 1) (fun x hx => by rw [List.mem_singleton.mp hx]; exact th_int (Nat.lt_of_lt_of_le (show (s : Int).natAbs < 1000 by omega) (by decide))) (Nat.le_refl _) (by decide)
  · rw [List.mem_singleton.mp hx]
    exact small _ (by omega)
def partsP (ps : List D) (p : D) : List D := [.tup (stepL ps none none (-1)), .tup (cutL ps none (some (-1))), .tup (ps ++ cutL ps none (some 1)), .lst ps, .non, p, .tup [], .int 0]
theorem partsP_th {n m l : Nat} {ps : List D} {p : D} (h : ∀ x ∈ ps, Th n m x) (hp : p ∈ ps) (hl : ps.length ≤ 4) (hm : 5 * (m + 2) + 60 ≤ l) : ∀ x ∈ partsP ps p, Th (n + 1) l x := by
  intro x hx
  unfold partsP at hx
  rcases List.mem_cons.mp hx with rfl | hx
  · exact th_tup (k := 4) (fun x hx => h x (stepL_mem hx)) (Nat.le_trans (stepL_neg ps) hl) (by omega)
  rcases List.mem_cons.mp hx with rfl | hx
  · exact th_tup (k := 4) (fun x hx => h x (cutL_mem hx)) (Nat.le_trans (cutL_le _ _ _) hl) (by omega)
  rcases List.mem_cons.mp hx with rfl | hx
  · refine th_tup (n := n) (m := m) (k := 5) (fun x hx => ?_) ?_ (by omega)
    · rcases List.mem_append.mp hx with hx | hx
      · exact h x hx
      · exact h x (cutL_mem hx)
    · rw [List.length_append]
      have : (cutL ps none (some 1)).length ≤ 1 := by
        unfold cutL sIx'
        rw [List.length_take]
        simp
        omega
      omega
  rcases List.mem_cons.mp hx with rfl | hx
  · exact th_lst (k := 4) h hl (by omega)
  rcases List.mem_cons.mp hx with rfl | hx
  · exact th_non.mono (Nat.le_refl _) (by omega)
  rcases List.mem_cons.mp hx with rfl | hx
  · exact (h _ hp).mono (by omega) (by omega)
  rcases List.mem_cons.mp hx with rfl | hx
  · exact th_tup (n := n) (m := 0) (k := 0) (l := l) (fun x hx => by cases hx) (Nat.le_refl _) (by omega)
  · rw [List.mem_singleton.mp hx]
    exact (th_int (by decide)).mono (Nat.le_refl _) (by omega)
theorem stepL_rev {α : Type} (l : List α) : stepL l none none (-1) = l.reverse := by
  unfold stepL PySem.Builtin.Slice.slicePlaces PySem.Builtin.Slice.sliceAdjust
  simp only [show ((-1 : Int) < 0) from by decide, show ¬ ((-1 : Int) > 0) from by decide, if_true, if_false]
  have hn : (if ((l.length : Int) - 1 > -1) then ((l.length : Int) - 1 - -1 - 1) / - -1 + 1 else 0).toNat = l.length := by
    by_cases c : ((l.length : Int) - 1 > -1)
    · rw [if_pos c, show (-(-1 : Int)) = 1 from rfl, Int.ediv_one]
      omega
    · rw [if_neg c]
      omega
  rw [hn]
  apply List.ext_getElem?
  intro i
  have key : ∀ n : Nat, n ≤ l.length → (List.range n).filterMap (fun k : Nat => l[((l.length : Int) - 1 + (k : Int) * -1).toNat]?) = l.reverse.take n := by
    intro n
    induction n with
    | zero => intro _; rfl
    | succ n ih =>
      intro hn
      rw [List.range_succ, List.filterMap_append, ih (by omega), List.take_add_one]
      congr 1
      have e1 : l[((l.length : Int) - 1 + (n : Int) * -1).toNat]? = some (l[l.length - 1 - n]'(by omega)) := by
        rw [show ((l.length : Int) - 1 + (n : Int) * -1).toNat = l.length - 1 - n by omega]
        exact List.getElem?_eq_getElem (by omega)
      have e2 : l.reverse[n]? = some (l[l.length - 1 - n]'(by omega)) := by
        rw [List.getElem?_reverse (by omega)]
        exact List.getElem?_eq_getElem (by omega)
      rw [e2]
      simp only [List.filterMap_cons, e1, List.filterMap_nil]
      rfl
  rw [key l.length (Nat.le_refl _), List.take_of_length_le (by rw [List.length_reverse]; exact Nat.le_refl _)]
/-! ### papers told -/
/-- hues can be put on all blanks -/
def Fil (sz : List Nat) (q : List Int) : Prop := ∃ l : List Int, Ext q l ∧ (∀ x ∈ l, 0 ≤ x ∧ x < sz.length) ∧ Good sz l
theorem Fil.good {sz : List Nat} (z : Szs sz) {q : List Int} (h : Fil sz q) : Good sz q := by
  obtain ⟨l, x, _, g⟩ := h
  intro c hc f st h1 h2 h3
  refine g c hc f st h1 (by rw [x.len]; exact h2) fun k hk => ?_
  have hk2 : k * st ≤ (sz.getD c 0 - 1) * st := Nat.mul_le_mul_right _ (by omega)
  have e := h3 k hk
  rw [x.at_ _ (by omega) (by rw [e]; omega), e]
theorem Fil.put {sz : List Nat} {q : List Int} {pl : Nat} (hp : pl < q.length) (hb : q.getD pl 0 = -1) : Fil sz q ↔ ∃ h : Nat, h < sz.length ∧ Fil sz (q.set pl (h : Int)) := by
  constructor
  · rintro ⟨l, x, e, g⟩
    have hl : pl < l.length := by rw [x.len]; exact hp
    have h1 : l.getD pl 0 = l[pl] := by simp [List.getD_eq_getElem?_getD, hl]
    have h2 := e _ (List.getElem_mem hl)
    exact ⟨l[pl].toNat, by omega, l, x.set_of hp (by rw [h1]; omega), e, g⟩
  · rintro ⟨h, hh, l, x, e, g⟩
    exact ⟨l, (Ext.set hp hb).trans x, e, g⟩
theorem Fil.full {sz : List Nat} {q : List Int} (hq : HuesOk sz q) (hb : blanksL q = []) (g : Good sz q) : Fil sz q := by
  refine ⟨q, Ext.refl q, fun x hx => ?_, g⟩
  obtain ⟨i, hi, rfl⟩ := List.getElem_of_mem hx
  have h1 := hq.2 _ (List.getElem_mem hi)
  unfold blanksL at hb
  rw [List.filter_eq_nil_iff] at hb
  have h2 := hb i (List.mem_range.mpr hi)
  rw [decide_eq_true_iff, List.getD_eq_getElem?_getD, List.getElem?_eq_getElem hi] at h2
  have h3 : ¬ q[i] = -1 := h2
  omega
theorem row_showB {sz : List Nat} (z : Szs sz) {q : List Int} (hq : HuesOk sz q) {p : Nat × Nat} {h m : Nat} (hh : h < sz.length) (h1 : p.1 + (sz.getD h 0 - 1) * p.2 < q.length) (h2 : 1 ≤ p.2) (hb : hasB q (sz.getD h 0) h p = true) (hm : 0 < m) :
    showB m sz q (.tup [.str "row", .int p.1, .int p.2]) = true ∧ p.1 < 100 ∧ p.2 < 100 := by
  have s2 := (z.at hh).1
  have h3 : 1 * p.2 ≤ (sz.getD h 0 - 1) * p.2 := Nat.mul_le_mul_right _ (by omega)
  have hl := hq.1
  cases m with
  | zero => omega
  | succ m =>
    refine ⟨?_, by omega, by omega⟩
    show rowPB sz q (.int p.1) (.int p.2) = true
    have e0 : q.getD p.1 0 = (h : Int) := by
      unfold hasB at hb
      have := List.all_eq_true.mp hb 0 (List.mem_range.mpr (by omega))
      simpa using this
    rw [rowPB, Int.toNat_natCast, Int.toNat_natCast, e0, Int.toNat_natCast, hb, decide_eq_true h1, decide_eq_true (show (0 : Int) ≤ p.1 ∧ (p.1 : Int) < q.length by omega), decide_eq_true (show (1 : Int) ≤ p.2 ∧ (p.2 : Int) < 40 by omega), decide_eq_true (show (0 : Int) ≤ (h : Int) by omega)]
    rfl
theorem wrongS_mem2 {sz : List Nat} (z : Szs sz) {l : List Int} {r : List Int} (h : r ∈ wrongS sz l) : ∃ (p : Nat × Nat) (c : Nat), r = pairI p ∧ c < sz.length ∧ p.1 + (sz.getD c 0 - 1) * p.2 < l.length ∧ 1 ≤ p.2 ∧ hasB l (sz.getD c 0) c p = true := by
  unfold wrongS at h
  have h2 : r ∈ (wrongTo sz l sz.length).map pairI := (sortI_perm _).mem_iff.mp h
  obtain ⟨p, hp, rfl⟩ := List.mem_map.mp h2
  unfold wrongTo at hp
  obtain ⟨i, hi, hp⟩ := List.mem_flatMap.mp hp
  rw [List.mem_range] at hi
  obtain ⟨h3, h4⟩ := List.mem_filter.mp hp
  obtain ⟨h5, h6⟩ := rows_in (z.at hi).1 h3
  exact ⟨p, i, rfl, hi, h5, h6, h4⟩
theorem best_sat {sz : List Nat} (z : Szs sz) {q : List Int} (hl : q.length ≤ 100) : (D_best_place [tn sz, ti q] = pure .non ∧ blanksL q = []) ∨ ∃ pl : Nat, D_best_place [tn sz, ti q] = pure (.int pl) ∧ pl < q.length ∧ q.getD pl 0 = -1 := by
  rw [D_best_place_eq]
  unfold B_best_place
  simp only [callM_def, seqL_cons, seqL_nil, pure_bind, first_narrow_eq z hl, bin_def, blanks_eq (show q.length ≤ 1000 by omega), asB_def]
  unfold narD
  cases e : narP sz q with
  | some pl =>
    obtain ⟨a, b⟩ := blanks_mem (List.mem_of_find?_eq_some e)
    exact .inr ⟨pl, rfl, a, b⟩
  | none =>
    simp only [show notNF .non .non = pure (.bl false) from rfl, pure_bind, isB_bl, Bool.false_eq_true, if_false]
    cases hb : blanksL q with
    | nil =>
      left
      refine ⟨?_, rfl⟩
      rw [show D.eqA (.lst (([] : List Nat).map fun i : Nat => D.int i)) (.lst []) = pure (.bl true) from (enc_nat 0).lst.eqA (by decide) [] []]
      rfl
    | cons p r =>
      have hm : p ∈ blanksL q := by rw [hb]; exact List.mem_cons_self
      obtain ⟨a, b⟩ := blanks_mem hm
      right
      refine ⟨p, ?_, a, b⟩
      rw [show D.eqA (.lst ((p :: r).map fun i : Nat => D.int i)) (.lst []) = pure (.bl false) from (enc_nat 0).lst.eqA (by decide) (p :: r) []]
      simp only [pure_bind, isB_bl, Bool.false_eq_true, if_false]
      rw [ix_lst (by decide) (by rw [List.length_map, List.length_cons]; omega)]
      rfl
theorem enc_Drp : Enc 1 Dr := Enc.pair (enc_nat 0) (enc_nat 0)
def PapR (sz : List Nat) (n : Nat) (q : List Int) (d : D) : Prop := (d = .non ∧ Fil sz q) ∨ (MPp sz n d ∧ (∀ m, n ≤ m → showB m sz q d = true) ∧ ¬ Fil sz q)
theorem PapR.isN {sz : List Nat} {n : Nat} {q : List Int} {d : D} (h : MPp sz n d) : isNF d .non = pure (.bl false) := by
  cases n with
  | zero => exact h.elim
  | succ n => rcases h with ⟨i, s, _, _, rfl⟩ | ⟨i, ps, _, rfl, _⟩ <;> rfl
theorem made_paper_step {sz : List Nat} (z : Szs sz) {n F : Nat} {q : List Int} (hq : HuesOk sz q) (g : Good sz q) (hn : 1 ≤ n ∨ ∀ pl, pl < q.length → q.getD pl 0 ≠ -1)
    (ih : ∀ pl h : Nat, pl < q.length → q.getD pl 0 = -1 → h < sz.length → Good sz (q.set pl (h : Int)) → Sat (D_made_paper F [tn sz, ti (q.set pl (h : Int))]) (PapR sz n (q.set pl (h : Int)))) : Sat (D_made_paper (F + 1) [tn sz, ti q]) (PapR sz (n + 1) q) := by
  have zf := z.few
  have zp := z.pos
  have hl := hq.1
  rw [D_made_paper_eq]
  unfold B_made_paper
  simp only [callM_def, seqL_cons, seqL_nil, pure_bind, bin_def, asB_def, tupM_def]
  rcases best_sat z (show q.length ≤ 100 by omega) with ⟨e, hb⟩ | ⟨pl, e, hp, hb⟩
  · rw [e]
    exact Sat.pur (.inl ⟨rfl, Fil.full hq hb g⟩)
  · have hn : 1 ≤ n := hn.elim (fun h => h) fun h => absurd hb (h pl hp)
    rw [e]
    simp only [pure_bind, show isNF (.int (pl : Int)) .non = pure (.bl false) from rfl, isB_bl, Bool.false_eq_true, if_false, rng1_one, f1_one, len_tn, forF_def, tg1_def]
    rw [range1_ok (by omega) (by omega), pure_bind]
    refine Sat.endseq (Sat.for' (fun k (s : List D) => s.length = k ∧ (∀ p ∈ s, MPp sz n p) ∧ ∀ i : Nat, i < k → (∀ m, n ≤ m → showB m sz (q.set pl (i : Int)) (s.getD i .non) = true) ∧ ¬ Fil sz (q.set pl (i : Int))) 0 ⟨rfl, by simp, fun i hi => by omega⟩ (fun k x s hx hi => ?_) (fun s hs => ?_))
    · obtain ⟨hk, rfl⟩ := rangeL_get hx
      obtain ⟨i1, i2, i3⟩ := hi
      have hk' : k < sz.length := by omega
      rw [Int.zero_add]
      simp only [bars_at_eq z (show q.length ≤ 100 by omega) hp hk', pure_bind]
      rw [show D.neA (.lst ((barsL q (sz.getD k 0) pl k).map Dr)) (.lst []) = pure (.bl (!decide (barsL q (sz.getD k 0) pl k = []))) from enc_Drp.lst.neA (by decide) (barsL q (sz.getD k 0) pl k) [], pure_bind, isB_bl, pure_bind]
      refine Sat.bind (P := fun d => (d = .non ∧ Fil sz (q.set pl (k : Int))) ∨ (MPp sz n d ∧ (∀ m, n ≤ m → showB m sz (q.set pl (k : Int)) d = true) ∧ ¬ Fil sz (q.set pl (k : Int)))) ?_ ?_
      · by_cases hw : barsL q (sz.getD k 0) pl k = []
        · rw [decide_eq_true hw]
          simp only [Bool.not_true, Bool.false_eq_true, if_false]
          rw [with_hue_eq hp (by omega), pure_bind]
          exact ih pl k hp hb hk' ((good_set z hp hb hk').mpr ⟨g, hw⟩)
        · rw [decide_eq_false hw]
          simp only [Bool.not_false, if_true]
          cases hbs : barsL q (sz.getD k 0) pl k with
          | nil => exact absurd hbs hw
          | cons p r =>
            have hm : p ∈ barsL q (sz.getD k 0) pl k := by rw [hbs]; exact List.mem_cons_self
            obtain ⟨m1, m2⟩ := List.mem_filter.mp hm
            obtain ⟨r1, r2⟩ := rows_in (z.at hk').1 (List.mem_filter.mp m1).1
            rw [show D.ix (.lst ((p :: r).map Dr)) (.int 0) = pure (Dr p) from by
              rw [ix_lst (by decide) (by rw [List.length_map, List.length_cons]; omega)]
              rfl, pure_bind, show D.add (.tup [.str "row"]) (Dr p) = pure (.tup [.str "row", .int p.1, .int p.2]) from add_tup (by show 1 + 2 ≤ 16777216; decide)]
            have hl2 : (q.set pl (k : Int)).length = q.length := List.length_set ..
            have hbb : hasB (q.set pl (k : Int)) (sz.getD k 0) k p = true := by
              unfold hasB
              unfold barC at m2
              rw [List.all_eq_true] at m2 ⊢
              intro j hj
              rw [set_getD hp, decide_eq_true_iff]
              have := m2 j hj
              rw [Bool.or_eq_true, decide_eq_true_iff, decide_eq_true_iff] at this
              split
              · rfl
              · rename_i hne
                exact this.resolve_left hne
            refine Sat.pur (.inr ⟨?_, fun m hm => (row_showB z (hq.set hk' pl) hk' (by rw [hl2]; exact r1) r2 hbb (by omega)).1, fun f => hw ((good_set z hp hb hk').mp (f.good z)).2⟩)
            obtain ⟨_, b1, b2⟩ := row_showB (m := 1) z (hq.set hk' pl) hk' (by rw [hl2]; exact r1) r2 hbb (by decide)
            cases n with
            | zero => omega
            | succ n => exact .inl ⟨p.1, p.2, b1, b2, rfl⟩
      · rintro d (⟨rfl, hd⟩ | ⟨d1, d2, d3⟩)
        · simp only [show isNF .non .non = pure (.bl true) from rfl, pure_bind, isB_bl, if_true]
          exact Sat.pur (.inl ⟨rfl, (Fil.put hp hb).mpr ⟨k, hk', hd⟩⟩)
        · rw [PapR.isN (q := q) d1]
          simp only [pure_bind, isB_bl, Bool.false_eq_true, if_false, appM_def]
          refine Sat.grd (by rw [line_eq]; omega) (Sat.pur ⟨by rw [List.length_append, List.length_singleton]; omega, fun p hp => ?_, fun i hi => ?_⟩)
          · rcases List.mem_append.mp hp with hp | hp
            · exact i2 p hp
            · rw [List.mem_singleton.mp hp]; exact d1
          · by_cases e : i < s.length
            · rw [List.getD_eq_getElem?_getD, List.getElem?_append_left e, ← List.getD_eq_getElem?_getD]
              exact i3 i (by omega)
            · have : i = k := by omega
              subst this
              rw [List.getD_eq_getElem?_getD, List.getElem?_append_right (by omega), show i - s.length = 0 by omega]
              exact ⟨d2, d3⟩
    · obtain ⟨i1, i2, i3⟩ := hs
      rw [rangeL_length] at i1 i3
      simp only [f1_one, toTup_lst, pure_bind, endB_rt]
      refine Sat.pur (.inr ⟨.inr ⟨pl, s, by omega, rfl, by omega, i2⟩, fun m hm => ?_, fun f => ?_⟩)
      · match m, hm with
        | m + 1, hm =>
          show caseB (showB m sz) sz q (.int pl) (.tup s) = true
          rw [caseB, Int.toNat_natCast, decide_eq_true hb, decide_eq_true (show (0 : Int) ≤ pl ∧ (pl : Int) < q.length by omega), decide_eq_true (show s.length = sz.length by omega)]
          simp only [Bool.true_and]
          rw [List.all_eq_true]
          intro i hi
          rw [List.mem_range] at hi
          exact (i3 i (by omega)).1 m (by omega)
      · obtain ⟨h, hh, f⟩ := (Fil.put hp hb).mp f
        exact (i3 h (by omega)).2 f
theorem made_paper_sat {sz : List Nat} (z : Szs sz) : ∀ {n F : Nat} {q : List Int}, HuesOk sz q → Good sz q → q.count (-1) ≤ n → n < F → Sat (D_made_paper F [tn sz, ti q]) (PapR sz (n + 1) q)
  | _, 0, q, _, _, _, h => absurd h (by omega)
  | 0, F + 1, q, hq, g, hc, _ => made_paper_step z hq g (.inr fun pl h1 h2 => by
    have := put_less (h := 0) h1 h2
    omega) fun pl k h1 h2 _ _ => by
    have := put_less (h := k) h1 h2
    omega
  | n + 1, F + 1, q, hq, g, hc, hF => made_paper_step z hq g (.inl (by omega)) fun pl k h1 h2 h3 g2 => made_paper_sat z (hq.set h3 pl) g2 (by
    have := put_less (h := k) h1 h2
    omega) (by omega)
theorem some_paper_sat {sz : List Nat} (z : Szs sz) {n : Nat} {q : List Int} (hq : HuesOk sz q) (hc : q.count (-1) ≤ n) (hn : n < 40) : Sat (D_some_paper [tn sz, ti q]) (PapR sz (n + 1) q) := by
  have hl := hq.1
  rw [D_some_paper_eq]
  unfold B_some_paper
  simp only [callM_def, seqL_cons, seqL_nil, pure_bind, bin_def, asB_def, tupM_def, wrong_rows_eq z (show q.length ≤ 100 by omega), show D.neA (lti (wrongS sz q)) (.lst []) = pure (.bl (!decide (wrongS sz q = []))) from neA_lti _ [], isB_bl]
  cases hw : wrongS sz q with
  | nil =>
    simp only [decide_true, Bool.not_true, Bool.false_eq_true, if_false, endB_bind]
    refine Sat.bind (made_paper_sat z hq ((wrongS_nil z).mp hw) hc hn) fun d hd => ?_
    rw [endB_rt]
    exact Sat.pur hd
  | cons r t =>
    obtain ⟨p, c, rfl, hc2, h1, h2, h3⟩ := wrongS_mem2 z (r := r) (by rw [hw]; exact List.mem_cons_self)
    rw [decide_eq_false (List.cons_ne_nil _ _)]
    simp only [Bool.not_false, if_true]
    rw [show D.ix (lti (pairI p :: t)) (.int 0) = pure (ti (pairI p)) from by
      rw [show lti (pairI p :: t) = D.lst ((pairI p :: t).map ti) from rfl, ix_lst (by decide) (by rw [List.length_map, List.length_cons]; omega)]
      rfl, pure_bind, show D.add (.tup [.str "row"]) (ti (pairI p)) = pure (.tup [.str "row", .int p.1, .int p.2]) from add_tup (by show 1 + 2 ≤ 16777216; decide)]
    obtain ⟨_, b1, b2⟩ := row_showB (m := 1) z hq hc2 h1 h2 h3 (by decide)
    refine Sat.pur (.inr ⟨.inl ⟨p.1, p.2, b1, b2, rfl⟩, fun m hm => (row_showB z hq hc2 h1 h2 h3 (by omega)).1, fun f => ?_⟩)
    have := (wrongS_nil z).mpr (f.good z)
    rw [hw] at this
    cases this
theorem paper_for_sat {sz : List Nat} (z : Szs sz) {n : Nat} {q : List Int} (hq : HuesOk sz q) (hc : q.count (-1) ≤ n) (hn : n < 40) (hf : max 2 sz.length ^ (blanksL q).length ≤ 512) : Sat (D_paper_for [tn sz, ti q]) (PapR sz (n + 1) q) := by
  rw [D_paper_for_eq]
  unfold B_paper_for
  simp only [callM_def, seqL_cons, seqL_nil, pure_bind, need_few_eq z ⟨hq.1, hq.2⟩ hf, endB_bind]
  refine Sat.bind (some_paper_sat z hq hc hn) fun d hd => ?_
  rw [endB_rt]
  exact Sat.pur hd
end Ev

namespace Ev
open PySem (Str PyData)
def canB : Nat → List Nat → List Int → Bool
  | 0, _, _ => false
  | n + 1, sz, q => decide (wrongS sz q = []) && match blanksL q with
    | [] => true
    | pl :: _ => (List.range sz.length).any fun h : Nat => canB n sz (q.set pl (h : Int))
theorem canB_iff {sz : List Nat} (z : Szs sz) : ∀ {n : Nat} {q : List Int}, HuesOk sz q → q.count (-1) < n → (canB n sz q = true ↔ Fil sz q)
  | 0, q, _, h => absurd h (by omega)
  | n + 1, q, hq, hc => by
    rw [canB, Bool.and_eq_true, decide_eq_true_iff, wrongS_nil z]
    cases hb : blanksL q with
    | nil => exact ⟨fun h => Fil.full hq hb h.1, fun f => ⟨f.good z, rfl⟩⟩
    | cons pl r =>
      have hm : pl ∈ blanksL q := by rw [hb]; exact List.mem_cons_self
      obtain ⟨a, b⟩ := blanks_mem hm
      simp only [List.any_eq_true, List.mem_range]
      have key : ∀ h : Nat, h < sz.length → (canB n sz (q.set pl (h : Int)) = true ↔ Fil sz (q.set pl (h : Int))) := fun h hh => canB_iff z (hq.set hh pl) (by
        have := put_less (h := h) a b
        omega)
      constructor
      · rintro ⟨_, h, hh, c⟩
        exact (Fil.put a b).mpr ⟨h, hh, (key h hh).mp c⟩
      · intro f
        obtain ⟨h, hh, c⟩ := (Fil.put a b).mp f
        exact ⟨f.good z, h, hh, (key h hh).mpr c⟩
theorem L_can_eq {sz : List Nat} (z : Szs sz) : ∀ {n : Nat} {q : List Int}, HuesOk sz q → q.count (-1) < n → D_L_can n [tn sz, ti q] = pure (.bl (canB n sz q))
  | 0, q, _, h => absurd h (by omega)
  | n + 1, q, hq, hc => by
    have zf := z.few
    have hl := hq.1
    rw [D_L_can_eq]
    unfold B_L_can
    simp only [callM_def, seqL_cons, seqL_nil, pure_bind, bin_def, asB_def, tupM_def, neg_int, L_wrong_eq z (show q.length ≤ 100 by omega), show D.neA (lti (wrongS sz q)) (.lst []) = pure (.bl (!decide (wrongS sz q = []))) from neA_lti _ [], isB_bl]
    rw [canB]
    by_cases hw : wrongS sz q = []
    · rw [decide_eq_true hw]
      simp only [Bool.not_true, Bool.false_eq_true, if_false, enum_blanks (show q.length ≤ 1000 by omega), pure_bind, nats_eq_nil, isB_bl, Bool.true_and]
      cases hb : blanksL q with
      | nil => rfl
      | cons pl r =>
        have hm : pl ∈ blanksL q := by rw [hb]; exact List.mem_cons_self
        obtain ⟨a, b⟩ := blanks_mem hm
        rw [decide_eq_false (List.cons_ne_nil _ _)]
        have hx : D.ix (.lst ((pl :: r).map fun i : Nat => D.int i)) (.int 0) = pure (.int (pl : Nat)) := by
          rw [ix_lst (by decide) (by rw [List.length_map, List.length_cons]; omega)]
          rfl
        simp only [Bool.false_eq_true, if_false, rng1_one, f1_one, len_tn, pure_bind, forF_def, tg1_def, hx]
        rw [range1_ok (by omega) (by omega), pure_bind]
        rw [forM_any (d := .bl true) (p := fun d => match d with | .int i => canB n sz (q.set pl i) | _ => false) fun x hx s => ?_]
        · have e : (rangeL 0 (sz.length : Int)).any (fun d => match d with | .int i => canB n sz (q.set pl i) | _ => false) = (List.range sz.length).any fun h : Nat => canB n sz (q.set pl (h : Int)) := by
            rw [rangeL0, List.any_map]
            rfl
          rw [e]
          cases (List.range sz.length).any fun h : Nat => canB n sz (q.set pl (h : Int)) <;> rfl
        · obtain ⟨i, rfl, i0, i1⟩ := rangeL_mem.mp hx
          obtain ⟨k, rfl⟩ : ∃ k : Nat, i = k := ⟨i.toNat, by omega⟩
          have pt := put_term a (by omega) (k : Int)
          simp only [partM, asI_int, cutM_def, pure_bind, add_int] at pt ⊢
          rw [pt]
          simp only [pure_bind]
          rw [L_can_eq z (hq.set (show k < sz.length by omega) pl) (by
            have := put_less (h := k) a b
            omega)]
          simp only [pure_bind, isB_bl]
    · rw [decide_eq_false hw]
      rfl
theorem pap_ok {sz : List Nat} (zf : sz.length ≤ 4) {n : Nat} {d : D} (h : MPp sz n d) (hn : n ≤ 19) : d.plain true = true ∧ d.py.depth ≤ 39 := by
  have t := mp_th zf h
  exact ⟨t.it.pl, Nat.le_trans t.it.de (by omega)⟩
theorem is_paper_eq {sz : List Nat} (z : Szs sz) {q : List Int} (hq : HuesOk sz q) {d : D} (h : d.plain true = true) (hd : d.py.depth ≤ 39) : D_is_paper [tn sz, ti q, d] = pure (.bl (showB 40 sz q d)) := by
  rw [D_is_paper_eq]
  unfold B_is_paper
  simp only [callM_def, seqL_cons, seqL_nil, pure_bind, need_draft_eq z hq.1 hq.2, good_paper_eq (n := 39) z hq h hd, endB_rt]
theorem few_pow {sz : List Nat} (z : Szs sz) {q : List Int} {sp : Nat} (hc : q.count (-1) ≤ sp) (hs : max 2 sz.length ^ sp ≤ 512) : max 2 sz.length ^ (blanksL q).length ≤ 512 := by
  rw [blanks_count]
  exact Nat.le_trans (Nat.pow_le_pow_right (by omega) hc) hs
theorem spare_at (k : Int) : ∀ m : Nat, m ≤ 3 → ∃ sp : Nat, D.ix (.lst [.int 0, .int 5, .int (7 - if 0 < k then 1 else 0), .int 4]) (.int (m : Int)) = pure (.int (sp : Int)) ∧ max 2 m ^ sp ≤ 512 ∧ sp ≤ 9
  | 0, _ => ⟨0, rfl, by decide⟩
  | 1, _ => ⟨5, rfl, by decide⟩
  | 2, _ => by
    by_cases c : 0 < k
    · rw [if_pos c]
      exact ⟨6, rfl, by decide⟩
    · rw [if_neg c]
      exact ⟨7, rfl, by decide⟩
  | 3, _ => ⟨4, rfl, by decide⟩
  | n + 4, h => absurd h (by omega)
theorem cst_none {sz : List Nat} {q : List Int} (z : Szs sz) (hq : HuesOk sz q) (hc : q.count (-1) ≤ 9) (hf : max 2 sz.length ^ 9 ≤ 512) (h : canB 40 sz q = true) : Sat (D_paper_for [tn sz, ti q]) (fun d => d = .non) := by
  refine Sat.mono (paper_for_sat z hq hc (by decide) (few_pow z hc hf)) fun d hd => ?_
  rcases hd with ⟨rfl, f⟩ | ⟨h1, h2, h3⟩
  · rfl
  · exact absurd ((canB_iff z hq (by omega)).mp h) h3
theorem cst_some {sz : List Nat} {q : List Int} {n : Nat} (z : Szs sz) (hq : HuesOk sz q) (hc : q.count (-1) ≤ n) (hn : n ≤ 9) (hf : max 2 sz.length ^ n ≤ 512) (h : canB 40 sz q = false) : Sat (D_paper_for [tn sz, ti q]) (fun d => D_L_shows 40 [tn sz, ti q, d] = pure (.bl true)) := by
  refine Sat.mono (paper_for_sat z hq hc (by omega) (few_pow z hc hf)) fun d hd => ?_
  rcases hd with ⟨rfl, f⟩ | ⟨h1, h2, h3⟩
  · rw [(canB_iff z hq (by omega)).mpr f] at h
    cases h
  · obtain ⟨p1, p2⟩ := pap_ok z.few h1 (by omega)
    rw [L_shows_eq (n := 39) z hq p1 p2, h2 40 (by omega)]
theorem can1 : canB 40 [2, 2, 2] [0, -1, -1, -1] = false := by decide +kernel
theorem can2 : canB 40 [2] [0, 0] = false := by decide +kernel
theorem can3 : canB 40 [2, 3] [0, -1, -1, -1] = false := by decide +kernel
theorem can4 : canB 40 [3, 3] [-1, -1, -1, -1, -1, -1, -1, -1, -1] = false := by decide +kernel
theorem can5 : canB 40 [3, 3] [-1, -1, -1, -1, -1, -1, -1, -1] = true := by decide +kernel
def casesP : List (List Nat × List Int) := [([2, 2, 2], [0, -1, -1, -1]), ([2], [0, 0]), ([2, 3], [0, -1, -1, -1])]
theorem casesP_ok : ∀ p ∈ casesP, Szs p.1 ∧ HuesOk p.1 p.2 ∧ p.2.count (-1) ≤ 3 ∧ max 2 p.1.length ^ 3 ≤ 512 ∧ canB 40 p.1 p.2 = false := by
  intro p hp
  unfold casesP at hp
  rcases List.mem_cons.mp hp with rfl | hp
  · exact ⟨⟨by decide, by decide, by decide, by decide⟩, ⟨by decide, by decide⟩, by decide, by decide, can1⟩
  rcases List.mem_cons.mp hp with rfl | hp
  · exact ⟨⟨by decide, by decide, by decide, by decide⟩, ⟨by decide, by decide⟩, by decide, by decide, can2⟩
  · rw [List.mem_singleton.mp hp]
    exact ⟨⟨by decide, by decide, by decide, by decide⟩, ⟨by decide, by decide⟩, by decide, by decide, can3⟩
theorem math : ∀ ns : List Int, ns.length ≤ 63 → (D_law [.scr ns]).run (fun d => d = .bl true) (fun _ => False) := by
  intro ns hl
  show Sat (D_law [.scr ns]) (fun d => d = .bl true)
  rw [D_law_eq]
  unfold B_law
  simp only [rng1_one, callM_def, seqL_cons, seqL_nil, pure_bind, f1_one, f2_two, len_scr, min2_int, max2_int, forF_def, tg1_def]
  rw [range1_ok (by omega) (by omega), pure_bind]
  refine Sat.endseq (Sat.for0 (fun _ => True) trivial (fun k hk _ _ => ?_) (fun _ _ => ?_))
  · obtain ⟨k, rfl, k0, _⟩ := rangeL_mem.mp hk
    obtain ⟨n, hn⟩ := cell_sat ns k0
    rw [hn, pure_bind]
    refine Sat.bind (Sat.bind (pen_sat n) (Q := fun xs => penOk false xs) ?_) ?_
    · rintro _ ⟨xs, rfl, hp⟩
      rw [asL_lst]
      exact Sat.pur hp
    intro xs hp
    refine Sat.grd hp ?_
    refine Sat.bind few_sat ?_
    rintro _ ⟨sz, rfl, z, z3⟩
    have zp := z.pos
    have zf := z.few
    simp only [bin_def, pure_bind, f1_one, len_tn, gt_int, toInt_bl, sub_int, decide_eq_true_iff]
    obtain ⟨sp, esp, hsp, hsp9⟩ := spare_at k sz.length z3
    rw [esp]
    simp only [pure_bind]
    refine Sat.bind (knot_sat z (lim := 14) (spare := sp) (by decide)) ?_
    rintro _ ⟨q, rfl, q1, q2, q3⟩
    simp only [tupM_def, seqL_cons, seqL_nil, pure_bind, bin_def, callM_def, f1_one, neg_int, partM, asI_int, cutM_def, cutSM_pure, cutI_ti]
    rw [cutS_any (by decide) (stepL_neg q) (by omega), stepL_rev]
    simp only [pure_bind]
    have hd : ∀ x ∈ [ti q, ti q.reverse, ti (cutL q none (some 9) ++ [0]), ti (0 :: q)], ∃ r : List Int, x = ti r ∧ HuesOk sz r ∧ r.count (-1) ≤ sp := fun x hx => by
      rcases List.mem_cons.mp hx with rfl | hx
      · exact ⟨_, rfl, ⟨by omega, q2⟩, by omega⟩
      rcases List.mem_cons.mp hx with rfl | hx
      · exact ⟨_, rfl, ⟨by rw [List.length_reverse]; omega, fun x hx => q2 x (List.mem_reverse.mp hx)⟩, by rw [List.count_reverse]; exact q3⟩
      rcases List.mem_cons.mp hx with rfl | hx
      · have hc := cutL_le q none (some 9)
        refine ⟨_, rfl, ⟨by rw [List.length_append, List.length_singleton]; omega, fun x hx => ?_⟩, ?_⟩
        · rcases List.mem_append.mp hx with hx | hx
          · exact q2 x (cutL_mem hx)
          · rw [List.mem_singleton.mp hx]; omega
        · rw [List.count_append]
          have : (cutL q none (some 9)).count (-1) ≤ q.count (-1) := ((List.take_sublist _ _).trans (List.drop_sublist _ _)).count_le _
          simp
          omega
      · rw [List.mem_singleton.mp hx]
        refine ⟨_, rfl, ⟨by rw [List.length_cons]; omega, fun x hx => ?_⟩, ?_⟩
        · rcases List.mem_cons.mp hx with rfl | hx
          · omega
          · exact q2 x hx
        · rw [List.count_cons]
          simp
          exact q3
    have l9 := cutL_le q none (some 9)
    rw [show D.add (ti (cutL q none (some 9))) (.tup [.int 0]) = pure (ti (cutL q none (some 9) ++ [0])) from by
      rw [show ti (cutL q none (some 9)) = D.tup ((cutL q none (some 9)).map D.int) from rfl, add_tup (by simp; omega)]
      unfold ti
      rw [List.map_append]
      rfl, show D.add (.tup [.int 0]) (ti q) = pure (ti (0 :: q)) from by
      rw [show ti q = D.tup (q.map D.int) from rfl, add_tup (by simp; omega)]
      rfl]
    simp only [pure_bind, items_tup]
    refine Sat.seq (Sat.for0 (fun _ => True) trivial (fun x hx _ _ => ?_) (fun _ _ => Sat.pur trivial))
    obtain ⟨r, rfl, hr, hc⟩ := hd x hx
    rw [L_can_eq z hr (show r.count (-1) < 40 by omega), pure_bind, range1_ok (by decide) (by decide), pure_bind]
    have hcan := canB_iff (n := 40) z hr (by omega)
    refine Sat.seq (Sat.for0 (fun _ => True) trivial (fun x hx _ _ => ?_) (fun _ _ => Sat.pur trivial))
    refine Sat.bind (paper_for_sat z hr hc (by omega) (few_pow z hc hsp)) fun d hd => ?_
    rcases hd with ⟨rfl, f⟩ | ⟨h1, h2, h3⟩
    · rw [hcan.mpr f]
      simp only [show isNF .non .non = pure (.bl true) from rfl, show notNF .non .non = pure (.bl false) from rfl, pure_bind, neA_bl, asB_def, isB_bl, andM_def, Bool.false_eq_true, if_false, beq_self_eq_true, Bool.not_true]
      exact Sat.pur trivial
    · obtain ⟨p1, p2⟩ := pap_ok zf h1 (by omega)
      rw [show canB 40 sz r = false from Bool.eq_false_iff.mpr fun c => h3 (hcan.mp c), PapR.isN (q := r) h1, show notNF d .non = pure (.bl true) from by
        rcases h1 with ⟨i, s, _, _, rfl⟩ | ⟨i, ps, _, rfl, _⟩ <;> rfl]
      simp only [pure_bind, neA_bl, asB_def, isB_bl, andM_def, notM_def, L_shows_eq (n := 39) z hr p1 p2, is_paper_eq z hr p1 p2, h2 40 (by omega), Bool.not_true, if_true, Bool.false_eq_true, if_false, beq_self_eq_true]
      exact Sat.pur trivial
  · show Sat (endB false (seqM _ _)) _
    simp only [tupM_def, seqL_cons, seqL_nil, pure_bind, neg_int, bin_def]
    rw [show D.lst [D.tup [D.tup [.int 2, .int 2, .int 2], D.tup [.int 0, .int (-1), .int (-1), .int (-1)]], D.tup [D.tup [.int 2], D.tup [.int 0, .int 0]], D.tup [D.tup [.int 2, .int 3], D.tup [.int 0, .int (-1), .int (-1), .int (-1)]]] = D.lst (casesP.map fun p => D.tup [tn p.1, ti p.2]) from rfl]
    rw [items_lst, pure_bind]
    refine Sat.endseq (Sat.for0 (fun _ => True) trivial (fun x hx _ _ => ?_) (fun _ _ => ?_))
    · obtain ⟨p, hp, rfl⟩ := List.mem_map.mp hx
      obtain ⟨c1, c2, c3, c4, c5⟩ := casesP_ok p hp
      simp only [un2_two, pure_bind, asB_def, notM_def, bind_assoc]
      refine Sat.bind (cst_some c1 c2 c3 (by decide) c4 c5) fun d hd => ?_
      rw [hd]
      simp only [pure_bind, isB_bl, Bool.not_true, Bool.false_eq_true, if_false]
      exact Sat.pur trivial
    · have z3 : Szs [3, 3] := ⟨by decide, by decide, by decide, by decide⟩
      have e9 : D.tup (rep 9 [.int (-1)]) = ti [-1, -1, -1, -1, -1, -1, -1, -1, -1] := rfl
      have e8 : D.tup (rep 8 [.int (-1)]) = ti [-1, -1, -1, -1, -1, -1, -1, -1] := rfl
      have m9 : D.mulA (.tup [.int (-1)]) (.int 9) = pure (.tup (rep 9 [.int (-1)])) := mul_tup (by decide)
      have m8 : D.mulA (.tup [.int (-1)]) (.int 8) = pure (.tup (rep 8 [.int (-1)])) := mul_tup (by decide)
      simp only [tupM_def, seqL_cons, seqL_nil, pure_bind, bin_def, neg_int, m9, m8, e9, e8, show D.tup [.int 3, .int 3] = tn [3, 3] from rfl, endB_bind, andV_def, bind_assoc]
      refine Sat.bind (cst_some z3 ⟨by decide, by decide⟩ (n := 9) (by decide) (by decide) (by decide) can4) fun d hd => ?_
      rw [hd]
      simp only [pure_bind, isB_bl, if_true, bind_assoc]
      refine Sat.bind (cst_none z3 ⟨by decide, by decide⟩ (by decide) (by decide) can5) fun d hd => ?_
      subst hd
      rw [show isNF .non .non = pure (.bl true) from rfl, pure_bind, endB_rt]
      exact Sat.pur rfl
end Ev

open PySem PySem.W PyProof.Rows
set_option maxHeartbeats 0 in
theorem PySem.Challenge.cw_evenhues_k32_papers_told_holds : PySem.Challenge.rw_evenhues_k32_papers_told.Holds := by
  w_on; o_law; k_head; (case hw => w_witness2)
  k_fill
  refine' @Ev.walk_g ⟨[], fun _ => 0⟩ false PySem.Challenge.rw_evenhues_k32_papers_told 63 49 _ _ _ _ _ _ "_law_script" Ev.D_law rfl (by decide) rfl ⟨rfl, by decide, by decide⟩ (fun w h Y => PySem.W.kIn_of Y) [] rfl ?hT ?nT ?G Ev.math
  case G =>
    intro w mg fa h KX G hmg
    letI : Ev.Tb := ⟨[], fun _ => 0⟩
    refine' Ev.all_mk KX G hmg ?a_is_whole ?l_is_whole ?e_is_whole ?k_is_whole ?a_is_between ?l_is_between ?e_is_between ?k_is_between ?a_are_sizes ?l_are_sizes ?e_are_sizes ?k_are_sizes ?a_need_sizes ?l_need_sizes ?e_need_sizes ?k_need_sizes ?a_good_draft ?l_good_draft ?e_good_draft ?k_good_draft ?a_need_draft ?l_need_draft ?e_need_draft ?k_need_draft ?a_blanks ?l_blanks ?e_blanks ?k_blanks ?a_ways_to_put ?l_ways_to_put ?e_ways_to_put ?k_ways_to_put ?a_need_few ?l_need_few ?e_need_few ?k_need_few ?a_lying_rows ?l_lying_rows ?e_lying_rows ?k_lying_rows ?a_row_places ?l_row_places ?e_row_places ?k_row_places ?a_has_hue ?l_has_hue ?e_has_hue ?k_has_hue ?a_wrong_rows ?l_wrong_rows ?e_wrong_rows ?k_wrong_rows ?a_with_hue ?l_with_hue ?e_with_hue ?k_with_hue ?a_rows_through ?l_rows_through ?e_rows_through ?k_rows_through ?a_bars_at ?l_bars_at ?e_bars_at ?k_bars_at ?a_open_at ?l_open_at ?e_open_at ?k_open_at ?a_first_narrow ?l_first_narrow ?e_first_narrow ?k_first_narrow ?a_best_place ?l_best_place ?e_best_place ?k_best_place ?a_made_paper ?l_made_paper ?e_made_paper ?k_made_paper ?a_some_paper ?l_some_paper ?e_some_paper ?k_some_paper ?a_paper_for ?l_paper_for ?e_paper_for ?k_paper_for ?a_L_pen ?l_L_pen ?e_L_pen ?k_L_pen ?a_L_draw ?l_L_draw ?e_L_draw ?k_L_draw ?a_L_few ?l_L_few ?e_L_few ?k_L_few ?a_L_ended ?l_L_ended ?e_L_ended ?k_L_ended ?a_L_knot ?l_L_knot ?e_L_knot ?k_L_knot ?a_L_places ?l_L_places ?e_L_places ?k_L_places ?a_L_whole ?l_L_whole ?e_L_whole ?k_L_whole ?a_L_shows ?l_L_shows ?e_L_shows ?k_L_shows ?a_L_cell_at ?l_L_cell_at ?e_L_cell_at ?k_L_cell_at ?a_L_rows ?l_L_rows ?e_L_rows ?k_L_rows ?a_L_wrong ?l_L_wrong ?e_L_wrong ?k_L_wrong ?a_L_can ?l_L_can ?e_L_can ?k_L_can ?a_is_row_paper ?l_is_row_paper ?e_is_row_paper ?k_is_row_paper ?a_is_blank ?l_is_blank ?e_is_blank ?k_is_blank ?a_good_paper ?l_good_paper ?e_good_paper ?k_good_paper ?a_is_paper ?l_is_paper ?e_is_paper ?k_is_paper ?a_law ?l_law ?e_law ?k_law ?z_all ?z_bool ?z_divmod ?z_enumerate ?z_int ?z_isinstance ?z_len ?z_max ?z_min ?z_range ?z_sorted ?z_str ?z_tuple ?y_BLANK ?y_HUES ?y_LEAST_SIZE ?y_MOST_PLACES ?y_MOST_SIZE ?y_MOST_WAYS ?xg_NoDraft ?xx_NoDraft ?xk_NoDraft ?xb_NoDraft ?xt_NoDraft ?xg_NoSizes ?xx_NoSizes ?xk_NoSizes ?xb_NoSizes ?xt_NoSizes ?ng_TooGreat ?nc_TooGreat ?ni_TooGreat ?nt_TooGreat ?ng_HueError ?nc_HueError ?ni_HueError ?nt_HueError ?nb_HueError ?nd_HueError ?vh_1 ?vh_2 ?u1_NoDraft ?u2_NoDraft ?u3_NoDraft ?u4_NoDraft ?u5_NoDraft ?u6_NoDraft ?u7_NoDraft ?u8_NoDraft ?s_NoDraft_TooGreat ?u1_NoSizes ?u2_NoSizes ?u3_NoSizes ?u4_NoSizes ?u5_NoSizes ?u6_NoSizes ?u7_NoSizes ?u8_NoSizes ?s_NoSizes_TooGreat ?u1_TooGreat ?u2_TooGreat ?u3_TooGreat ?u4_TooGreat ?u5_TooGreat ?u6_TooGreat ?u7_TooGreat ?u8_TooGreat ?isx ?sa_T ?kT ?fi_T ?ti_T ?l_T ?e_T ?k_T ?rd1 ?rd2 ?bi_T ?w1 ?w2 ?w3 ?w4 ?w5 ?w6 ?nodup
    (case a_is_whole => k_is); (case l_is_whole => k_is); (case e_is_whole => k_is); (case k_is_whole => k_is); (case a_is_between => k_is); (case l_is_between => k_is); (case e_is_between => k_is); (case k_is_between => k_is); (case a_are_sizes => k_is); (case l_are_sizes => k_is); (case e_are_sizes => k_is); (case k_are_sizes => k_is); (case a_need_sizes => k_is); (case l_need_sizes => k_is); (case e_need_sizes => k_is); (case k_need_sizes => k_is); (case a_good_draft => k_is); (case l_good_draft => k_is); (case e_good_draft => k_is); (case k_good_draft => k_is); (case a_need_draft => k_is); (case l_need_draft => k_is); (case e_need_draft => k_is); (case k_need_draft => k_is); (case a_blanks => k_is); (case l_blanks => k_is); (case e_blanks => k_is); (case k_blanks => k_is); (case a_ways_to_put => k_is); (case l_ways_to_put => k_is); (case e_ways_to_put => k_is); (case k_ways_to_put => k_is); (case a_need_few => k_is); (case l_need_few => k_is); (case e_need_few => k_is); (case k_need_few => k_is); (case a_lying_rows => k_is); (case l_lying_rows => k_is); (case e_lying_rows => k_is); (case k_lying_rows => k_is); (case a_row_places => k_is); (case l_row_places => k_is); (case e_row_places => k_is); (case k_row_places => k_is); (case a_has_hue => k_is); (case l_has_hue => k_is); (case e_has_hue => k_is); (case k_has_hue => k_is); (case a_wrong_rows => k_is); (case l_wrong_rows => k_is); (case e_wrong_rows => k_is); (case k_wrong_rows => k_is); (case a_with_hue => k_is); (case l_with_hue => k_is); (case e_with_hue => k_is); (case k_with_hue => k_is); (case a_rows_through => k_is); (case l_rows_through => k_is); (case e_rows_through => k_is); (case k_rows_through => k_is); (case a_bars_at => k_is); (case l_bars_at => k_is); (case e_bars_at => k_is); (case k_bars_at => k_is); (case a_open_at => k_is); (case l_open_at => k_is); (case e_open_at => k_is); (case k_open_at => k_is); (case a_first_narrow => k_is); (case l_first_narrow => k_is); (case e_first_narrow => k_is); (case k_first_narrow => k_is); (case a_best_place => k_is); (case l_best_place => k_is); (case e_best_place => k_is); (case k_best_place => k_is); (case a_made_paper => k_is); (case l_made_paper => k_is); (case e_made_paper => k_is); (case k_made_paper => k_is); (case a_some_paper => k_is); (case l_some_paper => k_is); (case e_some_paper => k_is); (case k_some_paper => k_is); (case a_paper_for => k_is); (case l_paper_for => k_is); (case e_paper_for => k_is); (case k_paper_for => k_is); (case a_L_pen => k_is); (case l_L_pen => k_is); (case e_L_pen => k_is); (case k_L_pen => k_is); (case a_L_draw => k_is); (case l_L_draw => k_is); (case e_L_draw => k_is); (case k_L_draw => k_is); (case a_L_few => k_is); (case l_L_few => k_is); (case e_L_few => k_is); (case k_L_few => k_is); (case a_L_ended => k_is); (case l_L_ended => k_is); (case e_L_ended => k_is); (case k_L_ended => k_is); (case a_L_knot => k_is); (case l_L_knot => k_is); (case e_L_knot => k_is); (case k_L_knot => k_is); (case a_L_places => k_is); (case l_L_places => k_is); (case e_L_places => k_is); (case k_L_places => k_is); (case a_L_whole => k_is); (case l_L_whole => k_is); (case e_L_whole => k_is); (case k_L_whole => k_is); (case a_L_shows => k_is); (case l_L_shows => k_is); (case e_L_shows => k_is); (case k_L_shows => k_is); (case a_L_cell_at => k_is); (case l_L_cell_at => k_is); (case e_L_cell_at => k_is); (case k_L_cell_at => k_is); (case a_L_rows => k_is); (case l_L_rows => k_is); (case e_L_rows => k_is); (case k_L_rows => k_is); (case a_L_wrong => k_is); (case l_L_wrong => k_is); (case e_L_wrong => k_is); (case k_L_wrong => k_is); (case a_L_can => k_is); (case l_L_can => k_is); (case e_L_can => k_is); (case k_L_can => k_is); (case a_is_row_paper => k_is); (case l_is_row_paper => k_is); (case e_is_row_paper => k_is); (case k_is_row_paper => k_is); (case a_is_blank => k_is); (case l_is_blank => k_is); (case e_is_blank => k_is); (case k_is_blank => k_is); (case a_good_paper => k_is); (case l_good_paper => k_is); (case e_good_paper => k_is); (case k_good_paper => k_is); (case a_is_paper => k_is); (case l_is_paper => k_is); (case e_is_paper => k_is); (case k_is_paper => k_is); (case a_law => k_is); (case l_law => k_is); (case e_law => k_is); (case k_law => k_is); (case z_all => k_is); (case z_bool => k_is); (case z_divmod => k_is); (case z_enumerate => k_is); (case z_int => k_is); (case z_isinstance => k_is); (case z_len => k_is); (case z_max => k_is); (case z_min => k_is); (case z_range => k_is); (case z_sorted => k_is); (case z_str => k_is); (case z_tuple => k_is); (case y_BLANK => k_is); (case y_HUES => k_is); (case y_LEAST_SIZE => k_is); (case y_MOST_PLACES => k_is); (case y_MOST_SIZE => k_is); (case y_MOST_WAYS => k_is); (case xg_NoDraft => k_is); (case xx_NoDraft => k_exc); (case xk_NoDraft => k_is); (case xb_NoDraft => k_is); (case xt_NoDraft => k_is); (case xg_NoSizes => k_is); (case xx_NoSizes => k_exc); (case xk_NoSizes => k_is); (case xb_NoSizes => k_is); (case xt_NoSizes => k_is); (case ng_TooGreat => k_is); (case nc_TooGreat => k_is); (case ni_TooGreat => exact rfl); (case nt_TooGreat => k_is); (case ng_HueError => k_is); (case nc_HueError => k_is); (case ni_HueError => exact rfl); (case nt_HueError => k_is); (case nb_HueError => k_is); (case nd_HueError => k_is); (case vh_1 => k_is); (case vh_2 => k_is); (case u1_NoDraft => k_is); (case u2_NoDraft => k_is); (case u3_NoDraft => k_is); (case u4_NoDraft => k_is); (case u5_NoDraft => k_is); (case u6_NoDraft => k_is); (case u7_NoDraft => k_is); (case u8_NoDraft => k_is); (case s_NoDraft_TooGreat => k_is); (case u1_NoSizes => k_is); (case u2_NoSizes => k_is); (case u3_NoSizes => k_is); (case u4_NoSizes => k_is); (case u5_NoSizes => k_is); (case u6_NoSizes => k_is); (case u7_NoSizes => k_is); (case u8_NoSizes => k_is); (case s_NoSizes_TooGreat => k_is); (case u1_TooGreat => k_is); (case u2_TooGreat => k_is); (case u3_TooGreat => k_is); (case u4_TooGreat => k_is); (case u5_TooGreat => k_is); (case u6_TooGreat => k_is); (case u7_TooGreat => k_is); (case u8_TooGreat => k_is); (case isx => exact rfl); (case sa_T => k_is); (case kT => k_is); (case fi_T => k_is); (case ti_T => k_is); (case l_T => k_is); (case e_T => k_is); (case k_T => k_is); (case rd1 => k_is); (case rd2 => k_is); (case bi_T => k_is); (case w1 => k_is); (case w2 => k_is); (case w3 => k_is); (case w4 => k_is); (case w5 => k_is); (case w6 => k_is); (case nodup => exact (by decide))
  case hT => exact fun w h Y => fun _ h => nomatch h
  case nT => exact fun w => fun _ h => nomatch h
