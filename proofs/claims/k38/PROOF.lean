import PyProof.Rows.All
import Wide.All
import OpenK.AllK
import Wide.FinOn
import PySem.Challenge.RW_siftchain_k38_whole_made_chains_by_tryin
import HandS.ClsMeth
import HandS.Deep
import HandS.DictEq
import HandS.FStr
import HandS.ForExc
import HandS.ForMost
import HandS.IsInst
import HandS.Iter
import HandS.NoneIn
import HandS.OwnEq
import HandS.Property
import HandS.SetFor
import HandS.SortInts
import HandS.Star
import HandS.Style
import HandS.Text
import HandS.TupMul
import HandS.Wide
import HandS.Words
import HandS.WordsDict
import HandS.Zip
import KE.DataFind
import KE.GoesEnum
import KE.IntTextLaws
import KE.KDictKeyed
import PyProof.Rows.Walk
import PySem.StrEq
import PySem.Syntax
set_option linter.all false
namespace SV
open PySem
/-- a value: what never changes is told by value, what may change by a place k of the store -/
inductive D where
  | non
  | bl (b : Bool)
  | int (i : Int)
  | str (s : Str)
  | tup (xs : List D)
  | lst (xs : List D)
  | dct (es : List D)
  | ins (c : Nat) (xs : List D)
  | ref (k : Nat)
  | clo (k : Nat)
  | cls (c : Nat)
  | scr (xs : List Int)
  deriving Inhabited
mutual
def D.beq : D → D → Bool
  | .non, .non => true
  | .bl a, .bl b => a == b
  | .int a, .int b => a == b
  | .str a, .str b => a == b
  | .tup a, .tup b => D.beqs a b
  | .lst a, .lst b => D.beqs a b
  | .dct a, .dct b => D.beqs a b
  | .ins c a, .ins d b => c == d && D.beqs a b
  | .ref a, .ref b => a == b
  | .clo a, .clo b => a == b
  | .cls a, .cls b => a == b
  | .scr a, .scr b => a == b
  | _, _ => false
def D.beqs : List D → List D → Bool
  | [], [] => true
  | a :: x, b :: y => D.beq a b && D.beqs x y
  | _, _ => false
end
mutual
theorem D.beq_ok : ∀ (a b : D), D.beq a b = true → a = b
  | .non, b, h => by cases b <;> simp [D.beq] at h ⊢
  | .bl x, b, h => by cases b <;> simp [D.beq] at h ⊢ <;> exact h
  | .int x, b, h => by cases b <;> simp [D.beq] at h ⊢ <;> exact h
  | .str x, b, h => by cases b <;> simp [D.beq] at h ⊢ <;> exact h
  | .tup x, b, h => by
    cases b <;> simp [D.beq] at h ⊢
    exact D.beqs_ok _ _ h
  | .lst x, b, h => by
    cases b <;> simp [D.beq] at h ⊢
    exact D.beqs_ok _ _ h
  | .dct x, b, h => by
    cases b <;> simp [D.beq] at h ⊢
    exact D.beqs_ok _ _ h
  | .ins c x, b, h => by
    cases b <;> simp [D.beq] at h ⊢
    exact ⟨h.1, D.beqs_ok _ _ h.2⟩
  | .ref x, b, h => by cases b <;> simp [D.beq] at h ⊢ <;> exact h
  | .clo x, b, h => by cases b <;> simp [D.beq] at h ⊢ <;> exact h
  | .cls x, b, h => by cases b <;> simp [D.beq] at h ⊢ <;> exact h
  | .scr x, b, h => by cases b <;> simp [D.beq] at h ⊢ <;> exact h
theorem D.beqs_ok : ∀ (a b : List D), D.beqs a b = true → a = b
  | [], b, h => by cases b <;> simp [D.beqs] at h ⊢
  | x :: r, b, h => by
    cases b with
    | nil => simp [D.beqs] at h
    | cons y t =>
      simp [D.beqs] at h
      rw [D.beq_ok _ _ h.1, D.beqs_ok _ _ h.2]
end
mutual
theorem D.beq_refl : ∀ (a : D), D.beq a a = true
  | .non => rfl
  | .bl x => by simp [D.beq]
  | .int x => by simp [D.beq]
  | .str x => by simp [D.beq]
  | .tup x => by simp [D.beq]; exact D.beqs_refl x
  | .lst x => by simp [D.beq]; exact D.beqs_refl x
  | .dct x => by simp [D.beq]; exact D.beqs_refl x
  | .ins c x => by simp [D.beq]; exact D.beqs_refl x
  | .ref x => by simp [D.beq]
  | .clo x => by simp [D.beq]
  | .cls x => by simp [D.beq]
  | .scr x => by simp [D.beq]
theorem D.beqs_refl : ∀ (a : List D), D.beqs a a = true
  | [] => rfl
  | x :: r => by simp [D.beqs]; exact ⟨D.beq_refl x, D.beqs_refl r⟩
end
instance : DecidableEq D := fun a b => if h : D.beq a b = true then .isTrue (D.beq_ok a b h) else .isFalse fun e => h (e ▸ D.beq_refl a)
/-- what stands at a place of the store -/
inductive MO where
  | lst (xs : List D)
  | dct (es : List D)
  | obj (c : Nat) (fs : List (Nat × D))
  | dead
  deriving Inhabited, DecidableEq
/-- a def's state: its names by slot, the store -/
structure S where
  e : List (Option D)
  m : List MO
  deriving Inhabited
inductive Out (α : Type) where
  | ok (a : α)
  | exc (c : Nat) (d : D) (s : S)
  | bad
  deriving Inhabited
@[inline] def Out.bind {α β : Type} : Out α → (α → Out β) → Out β
  | .ok a, f => f a
  | .exc c d s, _ => .exc c d s
  | .bad, _ => .bad
instance : Monad Out where
  pure := .ok
  bind := Out.bind
inductive Ctl where
  | nx | brk | cnt | ret (d : D)
  deriving Inhabited, DecidableEq
inductive Ty where
  | int | bool | str | tuple | list | dict | own (c : Nat)
  deriving DecidableEq, Inhabited, Repr
inductive Bi where
  | len | abs | min1 | max1 | min2 | max2 | max3 | sorted | int | str | list | tuple | dict | sum | all | sset
  deriving DecidableEq, Inhabited, Repr
inductive Bm where
  | append | extend | pop0 | pop1 | count | index | get2 | items | values | split | join
  deriving DecidableEq, Inhabited, Repr
mutual
inductive Ex where
  | cst (d : D)
  | var (i : Nat)
  | frz (a : Ex)
  | new (a : Ex)
  | bin (op : Operator) (a b : Ex)
  | neg (a : Ex)
  | cmp (op : CmpOp) (a b : Ex)
  | chn (o1 o2 : CmpOp) (a b c : Ex)
  | and (a b : Ex)
  | or (a b : Ex)
  | not (a : Ex)
  | ite (c a b : Ex)
  | tup (es : Exs)
  | lst (es : Exs)
  | dsp (ps : Exs)
  | sub (a b : Ex)
  | slc (a : Ex) (lo hi : Exo)
  | rev (a : Ex)
  | fld (a : Ex) (f : Nat)
  | prp (a : Ex) (m : Nat)
  | kcn (a : Ex) (k : Nat)
  | cal (f : Nat) (es : Exs)
  | mth (a : Ex) (m : Nat) (es : Exs)
  | smt (f : Nat) (c : Nat) (es : Exs)
  | ctr (c : Nat) (es : Exs)
  | app (a : Ex) (es : Exs)
  | bif (b : Bi) (es : Exs)
  | bmt (b : Bm) (a : Ex) (es : Exs)
  | isi (a : Ex) (t : Ty)
  | fst (a : Ex)
  | lam (k : Nat)
  | eof (a : Ex)
  | alr (a b : Ex)
  | lc (e : Ex) (own : List Nat) (t : Tg) (it : It) (ifs : Exs)
  | lc2 (e : Ex) (own own1 : List Nat) (t : Tg) (it : It) (t1 : Tg) (it1 : It)
  | dc (k v : Ex) (own : List Nat) (t : Tg) (it : It)
inductive Exo where
  | none
  | some (a : Ex)
inductive Exs where
  | nil
  | cons (a : Ex) (r : Exs)
  | star (a : Ex) (r : Exs)
inductive It where
  | val (a : Ex)
  | enm (a : Ex)
  | zip (a b : Ex)
  | rng (es : Exs)
  | itm (a : Ex)
inductive Tg where
  | name (i : Nat)
  | tup (ts : Tgs)
  | sub (o i : Ex)
  | att (o : Ex) (f : Nat)
inductive Tgs where
  | nil
  | cons (t : Tg) (r : Tgs)
end
inductive Sm where
  | mat (a : Ex) (ps : List (Str × Option Nat)) (bs : List Sm)
  | asg (t : Tg) (a : Ex)
  | par (ts : Tgs) (es : Exs)
  | aug (i : Nat) (op : Operator) (a : Ex)
  | exp (a : Ex)
  | ifs (c : Ex) (a b : List Sm)
  | whl (c : Ex) (b : List Sm)
  | for (t : Tg) (it : It) (b : List Sm)
  | ret (a : Ex)
  | rse (c : Nat) (a : Ex)
  | rers
  | try (b : List Sm) (h : List Sm)
  | pas
  | never
instance : Inhabited Ex := ⟨.cst .non⟩
instance : Inhabited Sm := ⟨.pas⟩
instance : Inhabited Tg := ⟨.name 0⟩
/-- how many targets -/
def tgN : Tgs → Nat
  | .nil => 0
  | .cons _ r => tgN r + 1
/-- classes: 0 Cell, 1 Last, 2 Less, 3 Greater, 4 Near, 5 Chain, 6 Flow, 7 Observer, 8 Worktop; errors from 20 on -/
def isSub : Nat → Nat → Bool
  | c, 0 => decide (c < 5)
  | c, 20 => decide (20 ≤ c)
  | c, t => c == t
/-- the fields of the classes whose objects never change behind their making; none: its objects may change -/
def flds : Nat → Option (List Nat)
  | 0 => some [0] | 1 => some [0] | 2 => some [0] | 3 => some [0] | 4 => some [0, 1] | 5 => some [2] | 6 => some [3, 4, 5]
  | _ => none
def seqOf (m : List MO) : D → Option (List D)
  | .tup xs => some xs
  | .lst xs => some xs
  | .ref k => match m[k]? with
    | some (.lst xs) => some xs
    | _ => none
  | _ => none
def dctOf (m : List MO) : D → Option (List D)
  | .dct es => some es
  | .ref k => match m[k]? with
    | some (.dct es) => some es
    | _ => none
  | _ => none
/-- as a value, where it is a list or a dict of the store -/
def rslv (m : List MO) : D → D
  | .ref k => match m[k]? with
    | some (.lst xs) => .lst xs
    | some (.dct es) => .dct es
    | _ => .ref k
  | d => d
def intE : D → Bool
  | .tup [.int _, .int _] => true
  | _ => false
def flatD : D → Bool
  | .non => true
  | .bl _ => true
  | .int _ => true
  | .str _ => true
  | _ => false
/-- data, at most n deep -/
def okD : Nat → D → Bool
  | _, .non => true
  | _, .bl _ => true
  | _, .int _ => true
  | _, .str s => s.cps.all (· < 0x110000)
  | n + 1, .tup xs => xs.all (okD n)
  | n + 1, .lst xs => xs.all (okD n)
  | _, _ => false
mutual
/-- == of data -/
def eqB : D → D → Bool
  | .non, .non => true
  | .bl a, .bl b => a == b
  | .bl a, .int j => (if a then 1 else 0) == j
  | .int i, .bl b => i == (if b then 1 else 0)
  | .int a, .int b => a == b
  | .str a, .str b => a == b
  | .tup a, .tup b => eqBs a b
  | .lst a, .lst b => eqBs a b
  | _, _ => false
def eqBs : List D → List D → Bool
  | [], [] => true
  | a :: x, b :: y => eqB a b && eqBs x y
  | _, _ => false
end
/-- the rule of a cell -/
def ruleOf : D → Option Str
  | .ins c (.str a :: _) => if c < 5 then some a else none
  | _ => none
def eqCells : List D → List D → Bool
  | [], [] => true
  | a :: x, b :: y => ruleOf a == ruleOf b && eqCells x y
  | _, _ => false
/-- == of data -/
def eqD (x y : D) : Option Bool := match x, y with
  | .str a, .str b => some (a == b)
  | x, y => if okD 60 x && okD 60 y then some (eqB x y) else none
/-- == of other things -/
def eqX (x y : D) : Option Bool := match x, y with
  | .tup a, .tup b =>
    if a = [] ∨ b = [] then some (decide (a = [] ∧ b = [])) else none
  | .lst a, .lst b => if a.length ≠ b.length then some false else none
  | _, _ => none
def eqDct (x y : D) : Option Bool := match x, y with
  | .dct a, .dct b => if a = [] ∨ b = [] then some (decide (a = [] ∧ b = [])) else if a.all intE && b.all intE then some (decide (a.length = b.length) && a.all fun p => b.contains p) else none
  | _, _ => none
mutual
def ltD : D → D → Option Bool
  | .int a, .int b => some (decide (a < b))
  | .str a, .str b => some (decide (a.cps.toList < b.cps.toList))
  | .tup a, .tup b => ltDs a b
  | .lst a, .lst b => ltDs a b
  | _, _ => none
def ltDs : List D → List D → Option Bool
  | [], [] => some false
  | [], _ :: _ => some true
  | _ :: _, [] => some false
  | a :: x, b :: y => match eqD a b with
    | some true => ltDs x y
    | some false => ltD a b
    | none => none
end
mutual
/-- the same kind at every level, comparable by < -/
def alike : D → D → Bool
  | .int _, .int _ => true
  | .str _, .str _ => true
  | .non, .non => true
  | .tup a, .tup b => alikes a b
  | .lst a, .lst b => alikel a b
  | _, _ => false
def alikes : List D → List D → Bool
  | [], [] => true
  | a :: x, b :: y => alike a b && alikes x y
  | _, _ => false
def alikel : List D → List D → Bool
  | a :: x, b :: y => alike a b && alikel x y
  | _, _ => true
end
def leD (a b : D) : Bool := match ltD b a with
  | some c => !c
  | none => false
/-- sorted, where all items are of one kind -/
def sortD (xs : List D) : Option (List D) :=
  match xs with
  | [] => some []
  | x :: _ => if xs.all (alike x) then some (xs.mergeSort leD) else none
def dedup (xs : List D) : List D := xs.foldl (fun acc x => if acc.contains x then acc else acc ++ [x]) []
def isInt : D → Bool | .int _ => true | _ => false
def sizeL : Nat := 16777216
def lok (xs : List D) : Bool := decide (xs.length ≤ sizeL)
def opt {α : Type} : Option α → Out α
  | some a => .ok a
  | none => .bad
def gd (b : Bool) : Out Unit := if b then .ok () else .bad
/-- an index into a sequence of n -/
def ixOf (i : Int) (n : Nat) : Option Nat := if 0 ≤ i then (if i < n then some i.toNat else none) else if 0 ≤ i + n then some (i + n).toNat else none
def clampI (i : Int) (n : Nat) : Nat := if i < 0 then (i + n).toNat else min i.toNat n
def sliceL {α : Type} (xs : List α) (lo hi : Option Int) : List α :=
  let a := match lo with | none => 0 | some i => clampI i xs.length
  let b := match hi with | none => xs.length | some i => clampI i xs.length
  (xs.take b).drop a
def strOf (s : List Nat) : Str := ⟨s.toArray⟩
def Str.sub (s : Str) (lo hi : Option Int) : Str := strOf (sliceL s.cps.toList lo hi)
/-- a text sign by sign -/
def signs (s : Str) : List D := s.cps.toList.map fun c => .str (strOf [c])
def dget (es : List D) (k : D) : Option D := match es with
  | [] => none
  | .tup [a, v] :: r => if a = k then some v else dget r k
  | _ :: r => dget r k
def keyOf : D → D
  | .tup (k :: _) => k
  | _ => .clo 0
def dput (es : List D) (k v : D) : List D := if (es.any fun e => decide (keyOf e = k)) = true then es.map (fun e => if keyOf e = k then .tup [keyOf e, v] else e) else es ++ [.tup [k, v]]
/-- a key that is an int or a text -/
def keyK : D → Bool
  | .int _ => true
  | .str _ => true
  | _ => false
/-- a key of the kind of the others -/
def kindOk (es : List D) (k : D) : Bool := keyK k && es.all fun e => keyK (keyOf e)
mutual
def keyOk : D → Bool
  | .int _ => true
  | .str _ => true
  | .non => true
  | .tup xs => keysOk xs
  | _ => false
def keysOk : List D → Bool
  | [] => true
  | x :: r => keyOk x && keysOk r
end
def dkeys (es : List D) : List D := es.map fun | .tup (k :: _) => k | _ => .non
def dvals (es : List D) : List D := es.map fun | .tup [_, v] => v | _ => .non
/-- a sequence by value, a dict by value -/
def seqV : D → Option (List D)
  | .lst xs => some xs
  | .tup xs => some xs
  | _ => none
def dctV : D → Option (List D)
  | .dct es => some es
  | _ => none
/-- what a for walks -/
def walkD : D → Option (List D)
  | .lst xs => some xs
  | .tup xs => some xs
  | .scr xs => some (xs.map .int)
  | .str s => some (signs s)
  | _ => none
def splitOn (sep : List Nat) : Nat → List Nat → List Nat → List (List Nat)
  | 0, acc, s => [acc.reverse ++ s]
  | _ + 1, acc, [] => [acc.reverse]
  | f + 1, acc, c :: s => if sep.isPrefixOf (c :: s) && !sep.isEmpty then acc.reverse :: splitOn sep f [] ((c :: s).drop sep.length) else splitOn sep f (c :: acc) s
def splitS (s sep : Str) : List Str := (splitOn sep.cps.toList (s.cps.size + 1) [] s.cps.toList).map strOf
def joinS (sep : Str) : List Str → Str
  | [] => strOf []
  | [x] => x
  | x :: r => x ++ sep ++ joinS sep r
def digVal : Nat → Option Nat := fun c => if 48 ≤ c ∧ c ≤ 57 then some (c - 48) else none
def natOf : List Nat → Nat → Option Nat
  | [], n => some n
  | c :: r, n => match digVal c with
    | some k => natOf r (n * 10 + k)
    | none => none
/-- int of a text of digits, with or without a minus -/
def intOf (s : Str) : Option Int := match s.cps.toList with
  | [] => none
  | 45 :: r => if r.isEmpty then none else match natOf r 0 with
    | some n => some (-(n : Int))
    | none => none
  | l => match natOf l 0 with
    | some n => some (n : Int)
    | none => none
def strOfInt (i : Int) : Str := Str.ofString (toString i)
def binD (m : List MO) (op : Operator) (x y : D) : Out D :=
  match op, x, y with
  | .Add, .int i, .int j => .ok (.int (i + j))
  | .Add, .str a, .str b => do gd (decide (a.length + b.length ≤ sizeL)); .ok (.str (a ++ b))
  | .Add, .tup a, .tup b => do gd (decide (a.length + b.length ≤ sizeL)); .ok (.tup (a ++ b))
  | .Add, x, y => match rslv m x, rslv m y with
    | .lst a, .lst b => do gd (decide (a.length + b.length ≤ sizeL)); .ok (.lst (a ++ b))
    | _, _ => .bad
  | .Sub, .int i, .int j => .ok (.int (i - j))
  | .Mult, .int i, .int j => do gd (decide ((-(2 ^ 64) < i ∧ i < 2 ^ 64) ∨ (-(2 ^ 64) < j ∧ j < 2 ^ 64))); .ok (.int (i * j))
  | .Mult, .tup a, .int k => do gd (decide (a ≠ [] ∧ a.length ≤ 1000 ∧ -(2 ^ 62) < k ∧ k ≤ 1000)); .ok (.tup (List.replicate k.toNat a).flatten)
  | .Mult, x, .int k => match rslv m x with
    | .lst a => do gd (decide (a.length * k.toNat ≤ sizeL ∧ -(2 ^ 62) < k ∧ k < 2 ^ 62)); .ok (.lst (List.replicate k.toNat a).flatten)
    | _ => .bad
  | .FloorDiv, .int i, .int j => do gd (decide (0 < j ∧ j < 2 ^ 62)); .ok (.int (i / j))
  | .Mod, .int i, .int j => do gd (decide (0 < j)); .ok (.int (i % j))
  | .Pow, .int i, .int j => do gd (decide (0 ≤ j ∧ j ≤ 1000000 ∧ i.natAbs < 2 ^ 64)); .ok (.int (i ^ j.toNat))
  | _, _, _ => .bad
/-- x op= y: ints, texts -/
def augD (op : Operator) (x y : D) : Out D := match op, x, y with
  | .Add, .int i, .int j => .ok (.int (i + j))
  | .Sub, .int i, .int j => .ok (.int (i - j))
  | .Add, .str a, .str b => do gd (decide (a.length + b.length ≤ sizeL)); .ok (.str (a ++ b))
  | _, _, _ => .bad
def notO : Option Bool → Option Bool := fun o => o.map (!·)
def inD (x : D) (ys : List D) : Option Bool := if okD 60 x && ys.all (okD 60) then some (ys.any fun y => eqB y x) else none
/-- x is None -/
def nonD (m : List MO) : D → Option Bool
  | .non => some true
  | .ref k => match m[k]? with
    | some (.lst _) => some false
    | some (.dct _) => some false
    | some (.obj _ _) => some false
    | _ => none
  | .clo _ => none
  | _ => some false
/-- < of ints, of texts -/
def ltS : D → D → Option Bool
  | .int a, .int b => some (decide (a < b))
  | .str a, .str b => some (decide (a.cps.toList < b.cps.toList))
  | _, _ => none
def cmpD (m : List MO) (op : CmpOp) (x y : D) : Out D :=
  match op with
  | .Eq => match eqD (rslv m x) (rslv m y) with
    | some b => .ok (.bl b)
    | none => do .ok (.bl (← opt (eqX (rslv m x) (rslv m y))))
  | .NotEq => do .ok (.bl (!(← opt (eqD (rslv m x) (rslv m y)))))
  | .Lt => do .ok (.bl (← opt (ltS x y)))
  | .Gt => do .ok (.bl (← opt (ltS y x)))
  | .LtE => do .ok (.bl (!(← opt (ltS y x))))
  | .GtE => do .ok (.bl (!(← opt (ltS x y))))
  | .Is => match y with
    | .non => do .ok (.bl (← opt (nonD m x)))
    | .bl b => match x with
      | .bl a => .ok (.bl (decide (a = b)))
      | _ => .bad
    | _ => .bad
  | .IsNot => match y with
    | .non => do .ok (.bl (!(← opt (nonD m x))))
    | .bl b => match x with
      | .bl a => .ok (.bl (!decide (a = b)))
      | _ => .bad
    | _ => .bad
  | .In => match x, y with
    | .str a, .str b => do gd (decide (a.length = 1)); .ok (.bl (match a.cps.toList with | [c] => b.cps.toList.contains c | _ => false))
    | x, y => match dctOf m y with
      | some es => do gd (kindOk es x); .ok (.bl (dget es x).isSome)
      | none => do .ok (.bl (← opt (inD (rslv m x) (← opt (seqOf m y)))))
  | .NotIn => match x, y with
    | x, y => match dctOf m y with
      | some es => do gd (kindOk es x); .ok (.bl (!(dget es x).isSome))
      | none => do .ok (.bl (!(← opt (inD (rslv m x) (← opt (seqOf m y))))))
def asBool : D → Out Bool
  | .bl b => .ok b
  | _ => .bad
def subSq (m : List MO) (x i : D) : Out D :=
  match x, i with
  | .str a, .int j => do gd (decide (a.length ≤ sizeL)); let k ← opt (ixOf j a.cps.toList.length); let c ← opt a.cps.toList[k]?; .ok (.str (strOf [c]))
  | x, .int j => do
    let xs ← opt (seqOf m x)
    let k ← opt (ixOf j xs.length)
    opt xs[k]?
  | _, _ => .bad
def subD (m : List MO) (x i : D) : Out D :=
  match dctOf m x with
  | some es => do gd (kindOk es i); opt (dget es i)
  | none => subSq m x i
def optI : D → Option (Option Int)
  | .non => some none
  | .int i => some (some i)
  | _ => none
def slcD (m : List MO) (x : D) (l h : Option Int) : Out D :=
  match x with
  | .str z => do gd (decide (z.length ≤ sizeL)); .ok (.str (Str.sub z l h))
  | .tup xs => .ok (.tup (sliceL xs l h))
  | x => match rslv m x with
    | .lst xs => .ok (.lst (sliceL xs l h))
    | _ => .bad
def prt : D → Out (Option Int)
  | .int i => .ok (some i)
  | _ => .bad
def revD (m : List MO) (x : D) : Out D :=
  match rslv m x with
  | .lst xs => .ok (.lst xs.reverse)
  | _ => .bad
def intL : List D → Option (List Int)
  | [] => some []
  | .int i :: r => (intL r).map (i :: ·)
  | _ => none
def strL : List D → Option (List Str)
  | [] => some []
  | .str i :: r => (strL r).map (i :: ·)
  | _ => none
def boolL : List D → Option (List Bool)
  | [] => some []
  | .bl i :: r => (boolL r).map (i :: ·)
  | _ => none
/-- the first least (or greatest) item -/
def bestD (better : D → D → Option Bool) : D → List D → Option D
  | x, [] => some x
  | x, y :: r => match better y x with
    | some true => bestD better y r
    | some false => bestD better x r
    | none => none
def countD (x : D) (ys : List D) : Option Nat := if okD 60 x && ys.all (okD 60) then some (ys.countP fun y => eqB y x) else none
def indexD (x : D) (ys : List D) : Option Nat := if okD 60 x && ys.all (okD 60) then ys.findIdx? fun y => eqB y x else none
def fzM (m : List MO) (d : D) : D × List MO × Bool :=
  match d with
  | .ref k => match m[k]? with
    | some (.lst xs) => (.lst xs, m.set k .dead, true)
    | some (.dct es) => (.dct es, m.set k .dead, true)
    | _ => (.ref k, m, false)
  | d => (d, m, false)
/-- frozen: a list or dict of the store becomes a value, and its place is dead -/
def fzS (s : S) (d : D) : D × S :=
  match fzM s.m d with
  | (d', m', true) => (d', ⟨s.e.map fun o => if o = some d then some d' else o, m'⟩)
  | (d', _, false) => (d', s)
def biLen (m : List MO) (xs : List D) : Out D := match xs with
  | [.str s] => do gd (decide (s.length ≤ sizeL)); .ok (.int s.length)
  | [x] => match dctOf m x with
    | some es => do gd (kindOk es (.int 0)); .ok (.int es.length)
    | none => do .ok (.int (← opt (seqOf m x)).length)
  | _ => .bad
def biAbs (xs : List D) : Out D := match xs with
  | [.int i] => .ok (.int (if i < 0 then -i else i))
  | _ => .bad
def biMin2 (xs : List D) : Out D := match xs with
  | [.int i, .int j] => .ok (.int (if j < i then j else i))
  | _ => .bad
def biMax2 (xs : List D) : Out D := match xs with
  | [.int i, .int j] => .ok (.int (if j > i then j else i))
  | _ => .bad
def biMax3 (xs : List D) : Out D := match xs with
  | [.int i, .int j, .int k] => .ok (.int (let a := if j > i then j else i; if k > a then k else a))
  | _ => .bad
/-- the ints of a list -/
def intsOf (m : List MO) (x : D) : Option (List Int) := match rslv m x with
  | .lst ys => intL ys
  | _ => none
def biMin1 (m : List MO) (xs : List D) : Out D := match xs with
  | [x] => match intsOf m x with
    | some (i :: r) => .ok (.int (r.foldl (fun a b => if b < a then b else a) i))
    | _ => .bad
  | _ => .bad
def biMax1 (m : List MO) (xs : List D) : Out D := match xs with
  | [x] => match intsOf m x with
    | some (i :: r) => .ok (.int (r.foldl (fun a b => if a < b then b else a) i))
    | _ => .bad
  | _ => .bad
def biSorted (m : List MO) (xs : List D) : Out D := match xs with
  | [x] => match dctOf m x with
    | some es => do .ok (.lst (← opt (sortD (dkeys es))))
    | none => do .ok (.lst (← opt (sortD (← opt (seqOf m x)))))
  | _ => .bad
def biSset (m : List MO) (xs : List D) : Out D := match xs with
  | [x] => do
    let xs ← opt (seqOf m x)
    gd (xs.all isInt && decide (xs.length < 4096))
    .ok (.lst (← opt (sortD (dedup xs))))
  | _ => .bad
def biInt (xs : List D) : Out D := match xs with
  | [.int i] => .ok (.int i)
  | [.bl b] => .ok (.int (if b then 1 else 0))
  | [.str s] => do gd (decide (s.length ≤ 600)); .ok (.int (← opt (intOf s)))
  | _ => .bad
def biStr (xs : List D) : Out D := match xs with
  | [.int i] => do gd (decide (i.natAbs < 2 ^ 1900)); .ok (.str (strOfInt i))
  | _ => .bad
def biList (m : List MO) (xs : List D) : Out D := match xs with
  | [x] => do .ok (.lst (← opt (seqOf m x)))
  | _ => .bad
def biTuple (m : List MO) (xs : List D) : Out D := match xs with
  | [x] => do .ok (.tup (← opt (seqOf m x)))
  | _ => .bad
def biDict (m : List MO) (xs : List D) : Out D := match xs with
  | [x] => do
    let ps ← opt (seqOf m x)
    gd (ps.all fun | .tup [k, _] => keyK k | _ => false)
    .ok (.dct (ps.foldl (fun es p => match p with | .tup [k, v] => dput es k v | _ => es) []))
  | _ => .bad
def biSum (m : List MO) (xs : List D) : Out D := match xs with
  | [x] => do let is ← opt (intL (← opt (seqOf m x))); .ok (.int is.sum)
  | _ => .bad
def biAll (m : List MO) (xs : List D) : Out D := match xs with
  | [x] => do let bs ← opt (boolL (← opt (seqOf m x))); .ok (.bl (bs.all id))
  | _ => .bad
def biD (m : List MO) (b : Bi) (xs : List D) : Out D :=
  match b with
  | .len => biLen m xs
  | .abs => biAbs xs
  | .min2 => biMin2 xs
  | .max2 => biMax2 xs
  | .max3 => biMax3 xs
  | .min1 => biMin1 m xs
  | .max1 => biMax1 m xs
  | .sorted => biSorted m xs
  | .sset => biSset m xs
  | .int => biInt xs
  | .str => biStr xs
  | .list => biList m xs
  | .tuple => biTuple m xs
  | .dict => biDict m xs
  | .sum => biSum m xs
  | .all => biAll m xs
/-- the receiver of a built-in type's method -/
def kindM (m : List MO) (b : Bm) (x : D) : Bool := match b with
  | .append => (match rslv m x with | .lst _ => true | _ => false)
  | .extend => (match rslv m x with | .lst _ => true | _ => false)
  | .pop0 => (match rslv m x with | .lst _ => true | _ => false)
  | .pop1 => (match rslv m x with | .lst _ => true | _ => false)
  | .count => (match rslv m x with | .lst _ => true | _ => false)
  | .index => (match rslv m x with | .lst _ => true | _ => false)
  | .get2 => (match dctOf m x with | some es => kindOk es (.int 0) | none => false)
  | .items => (match dctOf m x with | some es => kindOk es (.int 0) | none => false)
  | .values => (match dctOf m x with | some es => kindOk es (.int 0) | none => false)
  | .split => (match x with | .str _ => true | _ => false)
  | .join => (match x with | .str _ => true | _ => false)
/-- methods of built-in types -/
def bmD (m : List MO) (b : Bm) (o : D) (xs : List D) : Out (D × List MO) :=
  match b, xs with
  | .append, [x] => match o with
    | .ref k => match m[k]? with
      | some (.lst ys) => do gd (decide (ys.length < sizeL)); .ok (.non, m.set k (.lst (ys ++ [x])))
      | _ => .bad
    | _ => .bad
  | .extend, [x] => match o with
    | .ref k => match m[k]?, rslv m x with
      | some (.lst ys), .lst zs => do gd (decide (ys.length + zs.length ≤ sizeL)); .ok (.non, m.set k (.lst (ys ++ zs)))
      | _, _ => .bad
    | _ => .bad
  | .pop0, [] => match o with
    | .ref k => match m[k]? with
      | some (.lst ys) => match ys.getLast? with
        | some y => .ok (y, m.set k (.lst ys.dropLast))
        | none => .bad
      | _ => .bad
    | _ => .bad
  | .pop1, [.int i] => match o with
    | .ref k => match m[k]? with
      | some (.lst ys) => do
        gd (decide (-(2 ^ 62) ≤ i ∧ i < 2 ^ 62))
        let j ← opt (ixOf i ys.length)
        let y ← opt ys[j]?
        .ok (y, m.set k (.lst (ys.eraseIdx j)))
      | _ => .bad
    | _ => .bad
  | .count, [x] => match rslv m o with
    | .lst ys => do .ok (.int (← opt (countD (rslv m x) ys)), m)
    | _ => .bad
  | .index, [x] => match rslv m o with
    | .lst ys => do .ok (.int (← opt (indexD (rslv m x) ys)), m)
    | _ => .bad
  | .get2, [k, z] => do
    let es ← opt (dctOf m o)
    gd (kindOk es k)
    .ok ((dget es k).getD z, m)
  | .items, [] => do .ok (.lst (← opt (dctOf m o)), m)
  | .values, [] => do .ok (.lst (dvals (← opt (dctOf m o))), m)
  | .split, [.str sep] => match o with
    | .str s => do gd (decide (0 < sep.length ∧ s.length + 2 ≤ sizeL)); .ok (.lst ((splitS s sep).map .str), m)
    | _ => .bad
  | .join, [x] => match o with
    | .str sep => do
      let ss ← opt (strL (← opt (seqOf m x)))
      gd (decide ((ss.map (·.length)).sum + ss.length * sep.length ≤ sizeL))
      .ok (.str (Str.join sep ss), m)
    | _ => .bad
  | _, _ => .bad
/-- what kind a value is: None, a built-in kind, an own class -/
def kindD (m : List MO) : D → Option (Option Ty ⊕ Nat)
  | .non => some (.inl none)
  | .bl _ => some (.inl (some .bool))
  | .int _ => some (.inl (some .int))
  | .str _ => some (.inl (some .str))
  | .tup _ => some (.inl (some .tuple))
  | .lst _ => some (.inl (some .list))
  | .dct es => if kindOk es (.int 0) then some (.inl (some .dict)) else none
  | .ins c _ => some (.inr c)
  | .ref k => match m[k]? with
    | some (.lst _) => some (.inl (some .list))
    | some (.dct es) => if kindOk es (.int 0) then some (.inl (some .dict)) else none
    | some (.obj c _) => if c < 9 then some (.inr c) else none
    | _ => none
  | _ => none
def isiD (m : List MO) (x : D) (t : Ty) : Out Bool := match kindD m x, t with
  | some (.inl _), .own t => if t = 0 ∨ t = 5 then .ok false else .bad
  | some (.inl a), t => .ok (decide (a = some t ∨ (a = some .bool ∧ t = .int)))
  | some (.inr c), .own t => if t = 0 ∨ (t = 5 ∧ c ≤ 5) then .ok (isSub c t) else .bad
  | some (.inr _), _ => .ok false
  | none, _ => .bad
/-- o[i] = v -/
def putD (m : List MO) (o i v : D) : Out (List MO) :=
  match o with
  | .ref k => match m[k]? with
    | some (.lst ys) => match i with
      | .int j => do let n ← opt (ixOf j ys.length); .ok (m.set k (.lst (ys.set n v)))
      | _ => .bad
    | some (.dct es) => do gd (kindOk es i && decide (es.length < sizeL)); .ok (m.set k (.dct (dput es i v)))
    | _ => .bad
  | _ => .bad
def fget (fs : List (Nat × D)) (f : Nat) : Option D := match fs with
  | [] => none
  | (g, v) :: r => if g = f then some v else fget r f
def fput (fs : List (Nat × D)) (f : Nat) (v : D) : List (Nat × D) := match fs with
  | [] => [(f, v)]
  | (g, w) :: r => if g = f then (g, v) :: r else (g, w) :: fput r f v
def getAt : List Nat → List D → Nat → Option D
  | g :: gs, v :: vs, f => if g = f then some v else getAt gs vs f
  | _, _, _ => none
/-- the fields of the classes -/
def hasF : Nat → Nat → Bool
  | 0, f => f == 0 | 1, f => f == 0 | 2, f => f == 0 | 3, f => f == 0 | 4, f => f == 0 || f == 1 | 5, f => f == 2 | 6, f => f == 3 || f == 4 || f == 5
  | 7, f => f == 6 || f == 7 || f == 8 | 8, f => f == 7 || f == 9 || f == 10 || f == 11
  | _, _ => false
def fldD (m : List MO) (o : D) (f : Nat) : Out D :=
  match o with
  | .ins c xs => match flds c with
    | some gs => do gd (hasF c f); opt (getAt gs xs f)
    | none => .bad
  | .ref k => match m[k]? with
    | some (.obj c fs) => do gd (hasF c f); opt (fget fs f)
    | _ => .bad
  | _ => .bad
def clsOf (m : List MO) : D → Option Nat
  | .ins c _ => some c
  | .ref k => match m[k]? with
    | some (.obj c _) => some c
    | _ => none
  | _ => none
def rangeL (a : Int) : Nat → Int → List D
  | 0, _ => []
  | n + 1, st => .int a :: rangeL (a + st) n st
def rngD (xs : List D) : Out (List D) :=
  match xs with
  | [.int n] => do gd (decide (-(2 ^ 61) ≤ n ∧ n < 2 ^ 61)); .ok (rangeL 0 n.toNat 1)
  | [.int a, .int b] => do gd (decide (-(2 ^ 61) ≤ a ∧ a < 2 ^ 61 ∧ -(2 ^ 61) ≤ b ∧ b < 2 ^ 61)); .ok (rangeL a (b - a).toNat 1)
  | [.int a, .int b, .int c] => do
    gd (decide (-(2 ^ 61) ≤ a ∧ a < 2 ^ 61 ∧ -(2 ^ 61) ≤ b ∧ b < 2 ^ 61 ∧ c ≠ 0 ∧ -1000 ≤ c ∧ c ≤ 1000))
    .ok (if 0 < c then rangeL a ((b - a + c - 1) / c).toNat c else rangeL a ((a - b + (-c) - 1) / (-c)).toNat c)
  | _ => .bad
def enumL : Nat → List D → List D
  | _, [] => []
  | n, x :: r => .tup [.int n, x] :: enumL (n + 1) r
def zipL : List D → List D → List D
  | x :: r, y :: t => .tup [x, y] :: zipL r t
  | _, _ => []
def zipD : D → D → Option (List D)
  | .lst xs, .lst ys => some (zipL xs ys)
  | .tup xs, .tup ys => some (zipL xs ys)
  | _, _ => none
def forL (f : D → S → Out (Ctl × S)) : List D → S → Out (Ctl × S)
  | [], s => .ok (.nx, s)
  | x :: xs, s => match f x s with
    | .ok (.nx, s') => forL f xs s'
    | .ok (.cnt, s') => forL f xs s'
    | .ok (.brk, s') => .ok (.nx, s')
    | .ok (.ret d, s') => .ok (.ret d, s')
    | .exc c d s' => .exc c d s'
    | .bad => .bad
def lcL (f : D → S → Out S) : List D → S → Out S
  | [], s => .ok s
  | x :: xs, s => match f x s with
    | .ok s' => lcL f xs s'
    | .exc c d s' => .exc c d s'
    | .bad => .bad
/-- nothing is raised -/
def noX {α : Type} : Out α → Out α
  | .exc .. => .bad
  | o => o
def whlL (c : S → Out (Bool × S)) (f : S → Out (Ctl × S)) : Nat → S → Out (Ctl × S)
  | 0, _ => .bad
  | n + 1, s => match c s with
    | .ok (true, s') => match f s' with
      | .ok (.nx, s2) => whlL c f n s2
      | .ok (.cnt, s2) => whlL c f n s2
      | .ok (.brk, s2) => .ok (.nx, s2)
      | .ok (.ret d, s2) => .ok (.ret d, s2)
      | .exc k d s2 => .exc k d s2
      | .bad => .bad
    | .ok (false, s') => .ok (.nx, s')
    | .exc k d s' => .exc k d s'
    | .bad => .bad
/-- a list or a dict of the store gets an item -/
def addM (k : Nat) (y : D) (s : S) : Out S := match s.m[k]? with
  | some (.lst ys) => do gd (decide (ys.length < sizeL)); .ok ⟨s.e, s.m.set k (.lst (ys ++ [y]))⟩
  | _ => .bad
def putM (k : Nat) (a b : D) (s : S) : Out S := match s.m[k]? with
  | some (.dct es) => do gd (kindOk es a && decide (es.length < sizeL)); .ok ⟨s.e, s.m.set k (.dct (dput es a b))⟩
  | _ => .bad
def wipeS (own : List Nat) (s : S) : S := ⟨own.foldl (fun e i => e.set i none) s.e, s.m⟩
def backS (own : List Nat) (s0 s : S) : S := ⟨own.foldl (fun e i => e.set i ((s0.e[i]?).getD none)) s.e, s.m⟩
/-- how the world outside a def's body is asked: a call of the f-th def; which def a class has by a name; what a constant of a class is; what a module's constant is -/
structure W where
  call : Nat → List D → List MO → Out (D × List MO)
  meth : Nat → Nat → Option Nat
  init : Nat → Option Nat
  kcon : Nat → Nat → Option D
  clo : Nat → S → Out (D × S)
  fuel : Nat
/-- behind a call: its place is taken by the caller's names -/
def inS {α : Type} (s : S) : Out (α × List MO) → Out (α × S)
  | .ok (a, m) => .ok (a, ⟨s.e, m⟩)
  | .exc c d s' => .exc c d ⟨s.e, s'.m⟩
  | .bad => .bad
/-- a method of an instance, its object first -/
def callM (w : W) (o : D) (k : Nat) (xs : List D) (s : S) : Out (D × S) :=
  match clsOf s.m o with
  | some c => match w.meth c k with
    | some f => inS s (w.call f (o :: xs) s.m)
    | none => .bad
  | none => .bad
/-- methods by number: 0 __call__, 1 __eq__, 2 __neg__, 3 __len__, 4 __getitem__, 5 __rshift__, then properties and plain methods -/
def isOwn (m : List MO) (d : D) : Bool := (clsOf m d).isSome
mutual
/-- no place of the store from n on is met -/
def cloD (n : Nat) : D → Bool
  | .ref k => decide (k < n)
  | .tup xs => cloDs n xs
  | .lst xs => cloDs n xs
  | .dct xs => cloDs n xs
  | .ins _ xs => cloDs n xs
  | _ => true
def cloDs (n : Nat) : List D → Bool
  | [] => true
  | x :: r => cloD n x && cloDs n r
end
def cloM (n : Nat) : MO → Bool
  | .lst xs => cloDs n xs
  | .dct xs => cloDs n xs
  | .obj _ fs => fs.all fun p => cloD n p.2
  | .dead => true
/-- behind a def: the first n places stand as they were, or meet no place beyond -/
def exOk (n : Nat) : List MO → List MO → Bool
  | [], _ => true
  | a :: r, b :: t => (decide (a = b) || cloM n b) && exOk n r t
  | _ :: _, [] => false
/-- as a value, where it is a list or a dict of a place from k on -/
def rsK (k : Nat) (m : List MO) : D → D
  | .ref j => if j < k then .ref j else rslv m (.ref j)
  | d => d
/-- C(..): a new object behind the others, its maker; where its class's objects never change it becomes a value -/
def makeD (w : W) (c : Nat) (xs : List D) (s : S) : Out (D × S) :=
  match w.init c with
  | none => .bad
  | some f =>
    let k := s.m.length
    match inS s (w.call f (.ref k :: xs) (s.m ++ [.obj c []])) with
    | .ok (.non, s') => match flds c with
      | none => .ok (.ref k, s')
      | some gs => match s'.m[k]? with
        | some (.obj c' fs) =>
          let vs := fs.map fun p => rsK k s'.m p.2
          if c' = c ∧ fs.map (·.1) = gs ∧ exOk k s.m s'.m = true ∧ cloDs k vs = true then .ok (.ins c vs, ⟨s'.e, s'.m.take k⟩) else .bad
        | _ => .bad
    | .exc e d s' => if exOk k s.m s'.m && cloD k d then .exc e d ⟨s'.e, s'.m.take k⟩ else .bad
    | _ => .bad
/-- the errors by their names -/
def errD : Nat → D → D
  | 21, _ => .tup [.str "number", .int 0]
  | 22, d => .tup [.str "chain", d]
  | 23, _ => .tup [.str "cell", .int 0]
  | 24, d => .tup [.str "row", d]
  | 25, d => .tup [.str "text", d]
  | 26, _ => .tup [.str "many", .int 0]
  | 27, _ => .tup [.str "contradiction", .int 0]
  | 28, _ => .tup [.str "name", .int 0]
  | 29, _ => .tup [.str "unknown", .int 0]
  | 30, d => .tup [.str "operation", d]
  | _, _ => .tup [.str "other", .int 0]
/-- what a call without arguments raises -/
def errO (w : W) (x : D) (s : S) : Out (D × S) :=
  match x with
  | .clo k => match w.clo k s with
    | .ok (_, s') => .ok (.non, s')
    | .exc c d s' => .ok (errD c d, s')
    | .bad => .bad
  | _ => .bad
def allO (w : W) (y : D) : List D → S → Out (Bool × S)
  | [], s => .ok (true, s)
  | x :: r, s => do
    let (e, s) ← errO w x s
    let b ← opt (eqD e y)
    let (c, s) ← allO w y r s
    .ok (b && c, s)
/-- operators that may ask an own class -/
def binF (w : W) (op : Operator) (x y : D) (s : S) : Out (D × S) := if op = .RShift then (if clsOf s.m x = clsOf s.m y then callM w x 5 [y] s else .bad) else do
  let z ← binD s.m op x y
  .ok (z, s)
def negF (w : W) (x : D) (s : S) : Out (D × S) := match x with
  | .int i => .ok (.int (-i), s)
  | x => callM w x 2 [] s
def eqF (w : W) (x y : D) (s : S) : Out (D × S) := .bad
def cmpF (w : W) (op : CmpOp) (x y : D) (s : S) : Out (D × S) := if isOwn s.m x = true ∧ op = .Eq then eqF w x y s
  else do
    let z ← cmpD s.m op x y
    .ok (z, s)
def subF (w : W) (x y : D) (s : S) : Out (D × S) := if isOwn s.m x = true then callM w x 4 [y] s else do
  let z ← subD s.m x y
  .ok (z, s)
def lenF (w : W) (x : D) (s : S) : Out (D × S) := if isOwn s.m x = true then do
    let (z, s) ← callM w x 3 [] s
    match z with
    | .int n => do gd (decide (0 ≤ n ∧ n < 2 ^ 62)); .ok (.int n, s)
    | _ => .bad
  else do
    let z ← biD s.m .len [x]
    .ok (z, s)
def bifF (w : W) (b : Bi) (xs : List D) (s : S) : Out (D × S) := match b, xs with
  | .len, [x] => lenF w x s
  | b, xs => do
    let z ← biD s.m b xs
    .ok (z, s)
mutual
def evE (w : W) : Ex → S → Out (D × S)
  | .cst d, s => .ok (d, s)
  | .var i, s => match s.e[i]? with
    | some (some d) => .ok (d, s)
    | _ => .bad
  | .frz a, s => do
    let (x, s) ← evE w a s
    .ok (fzS s x)
  | .new a, s => do
    let (x, s) ← evE w a s
    match x with
    | .lst xs => .ok (.ref s.m.length, ⟨s.e, s.m ++ [.lst xs]⟩)
    | .dct es => .ok (.ref s.m.length, ⟨s.e, s.m ++ [.dct es]⟩)
    | x => .ok (x, s)
  | .bin op a b, s => do
    let (x, s) ← evE w a s
    let (y, s) ← evE w b s
    binF w op x y s
  | .neg a, s => do
    let (x, s) ← evE w a s
    negF w x s
  | .cmp op a b, s => do
    let (x, s) ← evE w a s
    let (y, s) ← evE w b s
    cmpF w op x y s
  | .chn o1 o2 a b c, s => do
    let (x, s) ← evE w a s
    let (y, s) ← evE w b s
    let k ← asBool (← cmpD s.m o1 x y)
    if k then do
      let (z, s) ← evE w c s
      let r ← cmpD s.m o2 y z
      .ok (r, s)
    else .ok (.bl false, s)
  | .and a b, s => do
    let (x, s) ← evE w a s
    if ← asBool x then evE w b s else .ok (.bl false, s)
  | .or a b, s => do
    let (x, s) ← evE w a s
    if ← asBool x then .ok (.bl true, s) else evE w b s
  | .not a, s => do
    let (x, s) ← evE w a s
    let b ← asBool x
    .ok (.bl (!b), s)
  | .ite c a b, s => do
    let (x, s) ← evE w c s
    if ← asBool x then evE w a s else evE w b s
  | .tup es, s => do
    let (xs, s) ← evEs w es s
    gd (lok xs)
    .ok (.tup xs, s)
  | .lst es, s => do
    let (xs, s) ← evEs w es s
    gd (lok xs)
    .ok (.lst xs, s)
  | .dsp ps, s => do
    let (es, s) ← evDs w ps s []
    .ok (.dct es, s)
  | .sub a b, s => do
    let (x, s) ← evE w a s
    let (y, s) ← evE w b s
    subF w x y s
  | .slc a lo hi, s => do
    let (x, s) ← evE w a s
    let (l, s) ← evO w lo s
    let (h, s) ← evO w hi s
    let r ← slcD s.m x l h
    .ok (r, s)
  | .rev a, s => do
    let (x, s) ← evE w a s
    let r ← revD s.m x
    .ok (r, s)
  | .fld a f, s => do
    let (x, s) ← evE w a s
    let r ← fldD s.m x f
    .ok (r, s)
  | .prp a k, s => do
    let (x, s) ← evE w a s
    noX (callM w x k [] s)
  | .kcn a k, s => do
    let (x, s) ← evE w a s
    match clsOf s.m x with
    | some c => do let d ← opt (w.kcon c k); .ok (d, s)
    | none => .bad
  | .cal f es, s => do
    let (xs, s) ← evEs w es s
    inS s (w.call f xs s.m)
  | .mth a k es, s => do
    let (x, s) ← evE w a s
    match clsOf s.m x with
    | some c => match w.meth c k with
      | some f => do
        let (xs, s) ← evEs w es s
        inS s (w.call f (x :: xs) s.m)
      | none => .bad
    | none => .bad
  | .smt f c es, s => do
    let (xs, s) ← evEs w es s
    inS s (w.call f xs s.m)
  | .ctr c es, s => do
    let (xs, s) ← evEs w es s
    makeD w c xs s
  | .app a es, s => do
    let (x, s) ← evE w a s
    gd (isOwn s.m x)
    let (xs, s) ← evEs w es s
    callM w x 0 xs s
  | .bif b es, s => do
    let (xs, s) ← evEs w es s
    bifF w b xs s
  | .bmt b a es, s => do
    let (x, s) ← evE w a s
    gd (kindM s.m b x)
    let (xs, s) ← evEs w es s
    let (z, m) ← bmD s.m b x xs
    .ok (z, ⟨s.e, m⟩)
  | .isi a t, s => do
    let (x, s) ← evE w a s
    let b ← isiD s.m x t
    .ok (.bl b, s)
  | .fst a, s => do
    let (x, s) ← evE w a s
    match x with
    | .int i => do gd (decide (i.natAbs < 2 ^ 1900)); .ok (.str (Str.ofString "near:" ++ strOfInt i), s)
    | _ => .bad
  | .lam k, s => .ok (.clo k, s)
  | .eof a, s => do
    let (x, s) ← evE w a s
    errO w x s
  | .alr a b, s => do
    let (x, s) ← evE w a s
    let (y, s) ← evE w b s
    let xs ← opt (seqOf s.m x)
    let (r, s) ← allO w y xs s
    .ok (.bl r, s)
  | .lc e own t it ifs, s => do
    let (xs, s0) ← evI w it s
    let s1 ← lcL (fun x s => noX do
      let s ← asg w t x (wipeS own s)
      let (b, s) ← evA w ifs s
      if b then do
        let (y, s) ← evE w e s
        addM s0.m.length y s
      else .ok s) xs ⟨s0.e, s0.m ++ [.lst []]⟩
    .ok (.ref s0.m.length, backS own s0 s1)
  | .lc2 e own own1 t it t1 it1, s => do
    let (xs, s0) ← evI w it s
    let s1 ← lcL (fun x s => noX do
      let s ← asg w t x (wipeS own s)
      let (xs1, s) ← evI w it1 s
      lcL (fun x s => do
        let s ← asg w t1 x (wipeS own1 s)
        let (y, s) ← evE w e s
        addM s0.m.length y s) xs1 s) xs ⟨s0.e, s0.m ++ [.lst []]⟩
    .ok (.ref s0.m.length, backS own s0 s1)
  | .dc k v own t it, s => do
    let (xs, s0) ← evI w it s
    let s1 ← lcL (fun x s => noX do
      let s ← asg w t x (wipeS own s)
      let (a, s) ← evE w k s
      let (b, s) ← evE w v s
      putM s0.m.length a b s) xs ⟨s0.e, s0.m ++ [.dct []]⟩
    .ok (.ref s0.m.length, backS own s0 s1)
def evO (w : W) : Exo → S → Out (Option Int × S)
  | .none, s => .ok (none, s)
  | .some a, s => do
    let (x, s) ← evE w a s
    let l ← prt x
    .ok (l, s)
def evEs (w : W) : Exs → S → Out (List D × S)
  | .nil, s => .ok ([], s)
  | .cons a r, s => do
    let (x, s) ← evE w a s
    let (xs, s) ← evEs w r s
    .ok (x :: xs, s)
  | .star a r, s => do
    let (x, s) ← evE w a s
    let ys ← opt (seqOf s.m x)
    let (xs, s) ← evEs w r s
    .ok (ys ++ xs, s)
def evDs (w : W) : Exs → S → List D → Out (List D × S)
  | .nil, s, es => .ok (es, s)
  | .cons k (.cons v r), s, es => do
    let (x, s) ← evE w k s
    let (y, s) ← evE w v s
    gd (kindOk es x && decide (es.length < 15))
    evDs w r s (dput es x y)
  | _, _, _ => .bad
/-- tests, all of them -/
def evA (w : W) : Exs → S → Out (Bool × S)
  | .nil, s => .ok (true, s)
  | .cons a r, s => do
    let (x, s) ← evE w a s
    if ← asBool x then evA w r s else .ok (false, s)
  | .star _ _, _ => .bad
def evI (w : W) : It → S → Out (List D × S)
  | .val a, s => do
    let (x, s) ← evE w a s
    let xs ← opt (walkD x)
    .ok (xs, s)
  | .enm a, s => do
    let (x, s) ← evE w a s
    let xs ← opt (seqV x)
    .ok (enumL 0 xs, s)
  | .zip a b, s => do
    let (x, s) ← evE w a s
    let (y, s) ← evE w b s
    let r ← opt (zipD x y)
    .ok (r, s)
  | .rng es, s => do
    let (xs, s) ← evEs w es s
    let r ← rngD xs
    .ok (r, s)
  | .itm a, s => do
    let (x, s) ← evE w a s
    let es ← opt (dctV x)
    .ok (es, s)
def asg (w : W) : Tg → D → S → Out S
  | .name i, d, s => .ok ⟨s.e.set i (some d), s.m⟩
  | .tup ts, d, s => do
    let xs ← opt (seqOf s.m d)
    gd (decide (xs.length = tgN ts))
    asgs w ts xs s
  | .sub o i, d, s => do
    let (x, s) ← evE w o s
    let (y, s) ← evE w i s
    let m ← putD s.m x y d
    .ok ⟨s.e, m⟩
  | .att o f, d, s => do
    let (x, s) ← evE w o s
    match x with
    | .ref k => match s.m[k]? with
      | some (.obj c fs) => do gd (hasF c f && decide (fs.length < 16)); .ok ⟨s.e, s.m.set k (.obj c (fput fs f d))⟩
      | _ => .bad
    | _ => .bad
def asgs (w : W) : Tgs → List D → S → Out S
  | .nil, [], s => .ok s
  | .cons t r, d :: ds, s => do
    let s ← asg w t d s
    asgs w r ds s
  | _, _, _ => .bad
end
/-- the first case of a match that fits: a list or tuple of a text and, or not, one more -/
def matP (s : S) (xs : List D) : List (Str × Option Nat) → Nat → Option (Nat × S)
  | [], _ => none
  | (z, none) :: r, n => match xs with
    | [.str y] => if y = z then some (n, s) else matP s xs r (n + 1)
    | _ => matP s xs r (n + 1)
  | (z, some i) :: r, n => match xs with
    | [.str y, d] => if y = z then some (n, ⟨s.e.set i (some d), s.m⟩) else matP s xs r (n + 1)
    | _ => matP s xs r (n + 1)
mutual
/-- x: the exception that is being handled -/
def exS (w : W) (x : Option (Nat × D)) : Sm → S → Out (Ctl × S)
  | .asg t a, s => do
    let (d, s) ← evE w a s
    let s ← asg w t d s
    .ok (.nx, s)
  | .par ts es, s => do
    let (ds, s) ← evEs w es s
    let s ← asgs w ts ds s
    .ok (.nx, s)
  | .aug i op a, s => do
    match s.e[i]? with
    | some (some d) => do
      let (y, s) ← evE w a s
      let z ← augD op d y
      .ok (.nx, ⟨s.e.set i (some z), s.m⟩)
    | _ => .bad
  | .exp a, s => do
    let (_, s) ← evE w a s
    .ok (.nx, s)
  | .ifs c a b, s => do
    let (d, s) ← evE w c s
    if ← asBool d then exSs w x a s else exSs w x b s
  | .whl c b, s => whlL (fun s => do
      let (d, s) ← evE w c s
      let k ← asBool d
      .ok (k, s)) (fun s => exSs w x b s) w.fuel s
  | .for t it b, s => do
    let (xs, s) ← evI w it s
    forL (fun d s => do
      let s ← asg w t d s
      exSs w x b s) xs s
  | .ret a, s => do
    let (d, s) ← evE w a s
    .ok (.ret d, s)
  | .rse c a, s => do
    let (d, s) ← evE w a s
    .exc c d s
  | .rers, s => match x with
    | some (c, d) => .exc c d s
    | none => .bad
  | .try b h, s => match exSs w x b s with
    | .ok r => .ok r
    | .exc c d s' => exSs w (some (c, d)) h s'
    | .bad => .bad
  | .mat a ps bs, s => do
    let (d, s) ← evE w a s
    let xs ← opt (seqOf s.m d)
    match matP s xs ps 0 with
    | some (n, s') => exNth w x bs n s'
    | none => .ok (.nx, s)
  | .pas, s => .ok (.nx, s)
  | .never, _ => .bad
def exSs (w : W) (x : Option (Nat × D)) : List Sm → S → Out (Ctl × S)
  | [], s => .ok (.nx, s)
  | a :: r, s => match exS w x a s with
    | .ok (.nx, s') => exSs w x r s'
    | .ok (c, s') => .ok (c, s')
    | .exc c d s' => .exc c d s'
    | .bad => .bad
def exNth (w : W) (x : Option (Nat × D)) : List Sm → Nat → S → Out (Ctl × S)
  | [], _, _ => .bad
  | a :: _, 0, s => exS w x a s
  | _ :: r, n + 1, s => exNth w x r n s
end
structure Fn where
  /-- parameters, slots -/
  np : Nat
  ns : Nat
  star : Bool := false
  /-- what it changes of the store is kept: a method or maker of an object that may change -/
  keep : Bool := false
  body : List Sm
  deriving Inhabited
def leave (keep : Bool) (m : List MO) (d : D) (m' : List MO) : Out (D × List MO) :=
  if keep then .ok (d, m') else
  if exOk m.length m m' && cloD m.length d then .ok (d, m'.take m.length) else .bad
def leaveX (keep : Bool) (m : List MO) (c : Nat) (d : D) (m' : List MO) : Out (D × List MO) :=
  if keep then .exc c d ⟨[], m'⟩ else
  if exOk m.length m m' && cloD m.length d then .exc c d ⟨[], m'.take m.length⟩ else .bad
def argsOf (f : Fn) (xs : List D) : Option (List D) :=
  if f.star then (if f.np ≤ xs.length + 1 ∧ xs.length ≤ sizeL then some (xs.take (f.np - 1) ++ [.tup (xs.drop (f.np - 1))]) else none)
  else if xs.length = f.np then some xs else none
def runF (w : W) (f : Fn) (xs : List D) (m : List MO) : Out (D × List MO) :=
  match argsOf f xs with
  | none => .bad
  | some ys => match exSs w none f.body ⟨ys.map some ++ List.replicate (f.ns - ys.length) none, m⟩ with
    | .ok (.ret d, s) => leave f.keep m d s.m
    | .ok (.nx, s) => leave f.keep m .non s.m
    | .ok _ => .bad
    | .exc c d s => leaveX f.keep m c d s.m
    | .bad => .bad
/-- a program: its defs by number; methods and makers of its classes; constants of classes; bodies of lambdas -/
structure Pg where
  fn : Nat → Option Fn
  meth : Nat → Nat → Option Nat
  init : Nat → Option Nat
  kcon : Nat → Nat → Option D
  lam : Nat → Option Ex
  fuel : Nat
def wAt (p : Pg) (call : Nat → List D → List MO → Out (D × List MO)) (clo : Nat → S → Out (D × S)) : W :=
  ⟨call, p.meth, p.init, p.kcon, clo, p.fuel⟩
def callF (p : Pg) : Nat → (Nat → List D → List MO → Out (D × List MO)) × (Nat → S → Out (D × S))
  | 0 => (fun _ _ _ => .bad, fun _ _ => .bad)
  | n + 1 =>
    let w := wAt p (callF p n).1 (callF p n).2
    (fun f xs m => match p.fn f with
      | some i => runF w i xs m
      | none => .bad,
     fun k s => match p.lam k with
      | some e => evE w e s
      | none => .bad)
end SV
set_option linter.all false
namespace SV
open PySem
abbrev Tab (α : Type) := List (Str × α)
def tGet {α : Type} (t : Tab α) (x : Str) : Option α := match t with
  | [] => none
  | (y, a) :: r => if y = x then some a else tGet r x
/-- the defs of the module by their names -/
def tFns : Tab Nat := ([("is_int_in", 0), ("check_number", 1), ("check_row", 2), ("plain_cells", 17), ("mark_of", 18), ("passed_on", 19), ("nth_out", 33), ("held_after", 34), ("find_cycle", 35), ("count_out", 36), ("first_unlike", 37),
  ("check_held", 40), ("before_cell", 41), ("earlier", 42), ("earlier_filling", 43), ("rows_behind", 44), ("telling_row", 45), ("chain_for", 46), ("is_operation", 60)] : Tab Nat) ++ ([("_law_random", 100), ("_law_below", 101), ("_law_labels", 102), ("_law_row", 103), ("_law_chain", 104), ("_law_kept", 105), ("_law_step", 106), ("_law_run", 107), ("_law_equal", 108), ("_law_opposite", 109), ("_law_with", 110), ("_law_shuffled", 111),
  ("_law_some_tick", 112), ("_law_flow", 113), ("_law_index", 114), ("_law_counts", 115), ("_law_before", 116), ("_law_earlier", 117), ("_law_too_many", 118), ("_law_results", 119), ("_law_new", 120), ("_law_operation", 121), ("_law_worked", 122), ("_law_worked_on", 123), ("_law_do", 124), ("_law_stands", 125)] : Tab Nat)
def tCls : Tab Nat := [("Cell", 0), ("Last", 1), ("Less", 2), ("Greater", 3), ("Near", 4), ("Chain", 5), ("Flow", 6), ("Observer", 7), ("Worktop", 8)]
def tErr : Tab (Nat × Bool) := [("SiftError", 20, false), ("InvalidNumber", 21, false), ("InvalidChain", 22, true), ("UnknownCell", 23, false), ("InvalidRow", 24, true), ("InvalidText", 25, true), ("TooMany", 26, false), ("Contradiction", 27, false), ("InvalidName", 28, false), ("UnknownName", 29, false), ("InvalidOperation", 30, true)]
def tFld : Tab Nat := [("rule", 0), ("goal", 1), ("cells", 2), ("states", 3), ("outs", 4), ("start", 5), ("chains", 6), ("now", 7), ("facts", 8), ("past", 9), ("undone", 10), ("saved", 11), ("index", 12), ("word", 13), ("place", 14)]
def tPrp : Tab Nat := [("label", 10), ("text", 11), ("empty", 12), ("size", 13), ("possible", 14), ("history", 15), ("chain_now", 16), ("held", 17), ("let_out", 18), ("operations", 19)]
def tMth : Tab Nat := [("index_of", 30), ("see", 31), ("see_all", 32), ("best_number", 33), ("record", 34), ("put", 35), ("take", 36), ("swap", 37), ("undo", 38), ("redo", 39), ("save", 40), ("restore", 41), ("execute", 42), ("batch", 43)]
/-- fields that hold a list or a dict of the store -/
def refFlds : List Nat := [3, 4, 6, 7, 8, 9, 10, 11]
def tCst : Tab D := [("GREAT", .int (10 ^ 9)), ("MAX_ROW", .int 1000), ("DIGITS", .str "0123456789"), ("NEAR", .str "near"), ("MAX_FLOW", .int 12), ("MAX_TICK", .int (10 ^ 18)), ("MAX_TRACED", .int 30), ("MAX_TOLD", .int 4), ("MAX_MADE", .int 5), ("MAX_LETTERS", .int 8), ("LETTERS", .str "abcdefghijklmnopqrstuvwxyz"),
  ("PUT", .str "put"), ("TAKE", .str "take"), ("SWAP", .str "swap"), ("UNDO", .str "undo"), ("REDO", .str "redo"),
  ("LENGTHS", .dct [.tup [.str "put", .int 2], .tup [.str "take", .int 2], .tup [.str "swap", .int 2], .tup [.str "undo", .int 1], .tup [.str "redo", .int 1]])]
def tTy : Tab Ty := [("int", .int), ("bool", .bool), ("str", .str), ("tuple", .tuple), ("list", .list), ("dict", .dict), ("Cell", .own 0), ("Last", .own 1), ("Less", .own 2), ("Greater", .own 3), ("Near", .own 4), ("Chain", .own 5), ("Flow", .own 6), ("Observer", .own 7), ("Worktop", .own 8)]
/-- defs whose list or dict is new -/
def freshFns : List Nat := [100, 42, 43, 45]
def freshPrps : List Nat := [14, 15, 18, 19]
/-- where one stands: the names by slot, the scope, the names whose lists are frozen when they are handed on (mu), those that stay (rf); cl: the class of the name cls -/
structure Tc where
  N : List Str
  sc : Scope
  mu : List Str
  rf : List Str
  cl : Nat
  /-- every new list is laid into the store (a method that keeps copies) -/
  lay : Bool
def ixIn (x : Str) : List Str → Option Nat
  | [] => none
  | y :: r => if y = x then some 0 else (ixIn x r).map (· + 1)
def okN (x : Str) : Bool := !(x == ("__debug__" : Str)) && !(x == ("__classdict__" : Str)) && !(x == ("__name__" : Str))
def slotOf (c : Tc) (x : Str) : Option Nat := if okN x then match c.sc.names.lookup x with
  | some .local => ixIn x c.N
  | some .cell => ixIn x c.N
  | some .free => ixIn x c.N
  | _ => none
  else none
def isGlob (c : Tc) (x : Str) : Bool := okN x && c.sc.names.lookup x == some .globalImplicit
/-- the scope of a comprehension's block as it runs -/
def relS' (scope sc : Scope) : Scope :=
  { scope with names := scope.names.map fun (n, k) => if (k == .free && sc.kind == .function && sc.names.lookup n == some .cell) then (n, .cell) else (n, k) }
def ownOf (N : List Str) (sc : Scope) : List Nat := sc.names.filterMap fun (n, k) => if k == .local || k == .cell then ixIn n N else none
/-- an expression whose list or dict is new -/
def isFresh (c : Tc) : Expr → Bool
  | .List .. => true
  | .ListComp .. => true
  | .DictComp .. => true
  | .Dict .. => true
  | .BinOp _ .Add _ _ => true
  | .BinOp _ .Mult _ _ => true
  | .Subscript _ (.Slice ..) _ => true
  | .IfExp _ a b _ => isFresh c a && isFresh c b
  | .Call (.Name x _) _ _ _ => ([("list" : Str), "sorted", "dict"]).contains x && isGlob c x || (match tGet tFns x with | some f => freshFns.contains f && isGlob c x | none => false)
  | .Attribute _ m _ => (match tGet tPrp m with | some k => freshPrps.contains k | none => false)
  | _ => false
def bi1 : Tab Bi := [("len", .len), ("abs", .abs), ("min", .min1), ("max", .max1), ("sorted", .sorted), ("int", .int), ("str", .str), ("list", .list), ("tuple", .tuple), ("dict", .dict), ("sum", .sum), ("all", .all)]
def bi2 : Tab Bi := [("min", .min2), ("max", .max2)]
def bi3 : Tab Bi := [("max", .max3)]
def bm0 : Tab Bm := [("pop", .pop0), ("items", .items), ("values", .values)]
def bm1 : Tab Bm := [("append", .append), ("extend", .extend), ("pop", .pop1), ("count", .count), ("index", .index), ("split", .split), ("join", .join)]
def bm2 : Tab Bm := [("get", .get2)]
def exsOf (l : List (Bool × Ex)) : Exs := match l with
  | [] => .nil
  | (true, e) :: r => .star e (exsOf r)
  | (false, e) :: r => .cons e (exsOf r)
def tgsOf (l : List Tg) : Tgs := match l with
  | [] => .nil
  | t :: r => .cons t (tgsOf r)
def foldAnd : List Ex → Option Ex
  | [] => none
  | [a] => some a
  | a :: r => (foldAnd r).map fun b => .and a b
def foldOr : List Ex → Option Ex
  | [] => none
  | [a] => some a
  | a :: r => (foldOr r).map fun b => .or a b
/-- lambdas by the row and column where they stand, told by the law's own table -/
abbrev Lams := List (Nat × Nat × Nat)
def lamId (ls : Lams) (p : Pos) : Option Nat := match ls with
  | [] => none
  | (a, b, k) :: r => if a = p.line ∧ b = p.col then some k else lamId r p
/-- a place of the store for a new list or dict -/
def newX : Ex → Ex
  | .frz (.lc e own t it ifs) => .lc e own t it ifs
  | .frz (.lc2 e own own1 t it t1 it1) => .lc2 e own own1 t it t1 it1
  | .frz (.dc k v own t it) => .dc k v own t it
  | e => .new e
mutual
/-- the slots of a target -/
def tgSlots : Nat → Tg → List Nat
  | 0, _ => []
  | _ + 1, .name i => [i]
  | n + 1, .tup ts => tgsSlots n ts
  | _ + 1, _ => []
def tgsSlots : Nat → Tgs → List Nat
  | 0, _ => []
  | _ + 1, .nil => []
  | n + 1, .cons t r => tgSlots n t ++ tgsSlots n r
end
/-- n: how deep; r: handed on (a list of a name in mu is frozen) -/
def trE (ls : Lams) : Nat → Tc → Bool → Expr → Option Ex
  | 0, _, _, _ => none
  | n + 1, c, r, e =>
    let go := trE ls n c false
    let keep := trE ls n c true
    let args : List Expr → Option Exs := fun es => (es.mapM fun (e : Expr) => match e with
      | .Starred a _ => (go a).map fun x => (true, x)
      | a => (keep a).map fun x => (false, x)).map exsOf
    let plain : List Expr → Option Exs := fun es => (es.mapM fun e => (go e).map fun x => (false, x)).map exsOf
    let it : Tc → Expr → Option It := fun c e => match e with
      | .Call (.Name f _) [a] [] _ => if isGlob c f && f == ("enumerate" : Str) then (trE ls n c false a).map .enm
        else if isGlob c f && f == ("range" : Str) then (trE ls n c false a).map fun x => .rng (.cons x .nil)
        else (trE ls n c false e).map .val
      | .Call (.Name f _) [a, b] [] _ => if isGlob c f && f == ("zip" : Str) then do return .zip (← trE ls n c false a) (← trE ls n c false b)
        else if isGlob c f && f == ("range" : Str) then do return .rng (.cons (← trE ls n c false a) (.cons (← trE ls n c false b) .nil))
        else (trE ls n c false e).map .val
      | .Call (.Name f _) [a, b, d] [] _ => if isGlob c f && f == ("range" : Str) then do return .rng (.cons (← trE ls n c false a) (.cons (← trE ls n c false b) (.cons (← trE ls n c false d) .nil)))
        else (trE ls n c false e).map .val
      | .Call (.Attribute o m _) [] [] _ => if m == ("items" : Str) then (trE ls n c false o).map .itm else (trE ls n c false e).map .val
      | e => (trE ls n c false e).map .val
    let tg1 : Tc → Expr → Option Tg := fun c e => match e with
      | .Name x _ => (slotOf c x).map .name
      | .Tuple es _ _ => (es.mapM fun (e : Expr) => match e with
        | .Name x _ => (slotOf c x).map Tg.name
        | .Tuple es _ _ => (es.mapM fun (e : Expr) => match e with
          | .Name x _ => (slotOf c x).map Tg.name
          | _ => none).map fun ts => Tg.tup (tgsOf ts)
        | _ => none).map fun ts => Tg.tup (tgsOf ts)
      | _ => none
    match e with
    | .Constant (.int i) _ _ => some (.cst (.int i))
    | .Constant (.bool b) _ _ => some (.cst (.bl b))
    | .Constant .none _ _ => some (.cst .non)
    | .Constant (.str s) _ _ => some (.cst (.str s))
    | .Name x _ => match slotOf c x with
      | some i => some (if r && c.mu.contains x then .frz (.var i) else .var i)
      | none => if isGlob c x then (tGet tCst x).map .cst else none
    | .BinOp a op b _ => do return .bin op (← go a) (← go b)
    | .UnaryOp .USub a _ => do return .neg (← go a)
    | .UnaryOp .Not a _ => do return .not (← go a)
    | .Compare a [op] [b] _ => do return .cmp op (← go a) (← go b)
    | .Compare a [o1, o2] [b, d] _ => do return .chn o1 o2 (← go a) (← go b) (← go d)
    | .BoolOp .And vs _ => do foldAnd (← vs.mapM go)
    | .BoolOp .Or vs _ => do foldOr (← vs.mapM go)
    | .IfExp t a b _ => do return .ite (← go t) (← trE ls n c r a) (← trE ls n c r b)
    | .Tuple es _ _ => do
      let xs ← es.mapM fun (e : Expr) => match e with
        | .Starred a _ => (go a).map fun x => (true, x)
        | a => (keep a).map fun x => (false, if c.lay && isFresh c a then newX x else x)
      return .tup (exsOf xs)
    | .List es _ => do return .lst (← args es)
    | .Dict ks vs _ => do
      let ps ← (ks.zip vs).mapM fun (k, v) => do
        let k ← k
        pure [(false, ← keep k), (false, ← keep v)]
      return .dsp (exsOf ps.flatten)
    | .Subscript a (.Slice lo hi none _) _ => do
      let l ← match lo with | some x => (go x).map Exo.some | none => some Exo.none
      let h ← match hi with | some x => (go x).map Exo.some | none => some Exo.none
      return .slc (← go a) l h
    | .Subscript a (.Slice none none (some (.UnaryOp .USub (.Constant (.int 1) _ _) _)) _) _ => do return .rev (← go a)
    | .Subscript a i _ => do return .sub (← go a) (← go i)
    | .Attribute (.Name x _) m _ =>
      if isGlob c x && x == ("Chain" : Str) && m == ("MAX_CELLS" : Str) then some (.cst (.int 8))
      else do
        let i ← slotOf c x
        match tGet tPrp m with
        | some k => some (.prp (.var i) k)
        | none => match tGet tFld m with
          | some f => some (.fld (.var i) f)
          | none => if m == ("KIND" : Str) then some (.kcn (.var i) 0) else none
    | .Attribute a m _ => do
      let a ← go a
      match tGet tPrp m with
      | some k => some (.prp a k)
      | none => match tGet tFld m with
        | some f => some (.fld a f)
        | none => if m == ("KIND" : Str) then some (.kcn a 0) else none
    | .Call (.Name x _) es [] _ =>
      if isGlob c x then
        match tGet tFns x with
        | some f => do return .cal f (← args es)
        | none => match tGet tCls x with
          | some k => do return .ctr k (← args es)
          | none =>
            if x == ("_law_error_of" : Str) then match es with
              | [a] => do return .eof (← go a)
              | _ => none
            else if x == ("_law_all_raise" : Str) then match es with
              | [a, b] => do return .alr (← go a) (← go b)
              | _ => none
            else if x == ("isinstance" : Str) then match es with
              | [a, .Name t _] => do if isGlob c t then return .isi (← go a) (← tGet tTy t) else none
              | _ => none
            else if x == ("sorted" : Str) then match es with
              | [.Call (.Name y _) [a] [] _] => if isGlob c y && y == ("set" : Str) then do return .bif .sset (.cons (← go a) .nil) else do return .bif .sorted (← plain es)
              | [a] => do return .bif .sorted (← plain es)
              | _ => none
            else match es with
              | [a] => do return .bif (← tGet bi1 x) (← plain es)
              | [a, b] => do return .bif (← tGet bi2 x) (← plain es)
              | [a, b, d] => do return .bif (← tGet bi3 x) (← plain es)
              | _ => none
      else if x == ("cls" : Str) then do return .ctr c.cl (← args es)
      else do return .app (.var (← slotOf c x)) (← args es)
    | .Call (.Attribute (.Call (.Name sup _) [] [] _) m _) [] [] _ => if isGlob c sup && sup == ("super" : Str) && m == ("__init__" : Str) then some (.cal 3 (.cons (.var 0) .nil)) else none
    | .Call (.Attribute o m _) es [] _ =>
      match o, tGet tCls (match o with | .Name x _ => x | _ => "") with
      | .Name x _, some k => if isGlob c x then
          (if m == ("parse" : Str) then do return .smt 21 k (.cons (.cst (.cls k)) (← args es)) else if m == ("replay" : Str) then do return .smt 62 k (.cons (.cst (.cls k)) (← args es)) else none) else none
      | _, _ =>
        match tGet tMth m with
        | some k => do return .mth (← go o) k (← args es)
        | none => match es with
          | [] => do return .bmt (← tGet bm0 m) (← go o) .nil
          | [a] => do
            let b ← tGet bm1 m
            let o' ← go o
            let o' := if b == .append && isFresh c o then newX o' else o'
            return .bmt b o' (.cons (← if b == .append then keep a else go a) .nil)
          | [a, b] => do return .bmt (← tGet bm2 m) (← go o) (.cons (← go a) (.cons (← keep b) .nil))
          | _ => none
    | .Call f es [] _ => do return .app (← go f) (← args es)
    | .JoinedStr [.Constant (.str z) _ _, .FormattedValue (.Name x _) (-1) none _] _ => if z == ("near:" : Str) then do return .fst (.var (← slotOf c x)) else none
    | .Lambda _ _ _ p => do return .lam (← lamId ls p)
    | .ListComp e [⟨tg, i, fs, 0⟩] sc _ => do
      let c1 : Tc := { c with sc := relS' sc c.sc }
      return .frz <| .lc (← trE ls n c1 true e) (ownOf c.N sc) (← tg1 c1 tg) (← it c i) (exsOf ((← fs.mapM (trE ls n c1 false)).map fun x => (false, x)))
    | .ListComp e [⟨tg, i, [], 0⟩, ⟨tg1', i1, [], 0⟩] sc _ => do
      let c1 : Tc := { c with sc := relS' sc c.sc }
      let t1 ← tg1 c1 tg1'
      return .frz <| .lc2 (← trE ls n c1 true e) (ownOf c.N sc) (tgSlots 8 t1) (← tg1 c1 tg) (← it c i) t1 (← it c1 i1)
    | .DictComp k v [⟨tg, i, [], 0⟩] sc _ => do
      let c1 : Tc := { c with sc := relS' sc c.sc }
      return .frz <| .dc (← trE ls n c1 true k) (← trE ls n c1 true v) (ownOf c.N sc) (← tg1 c1 tg) (← it c i)
    | _ => none
def trIt (ls : Lams) (n : Nat) (c : Tc) (e : Expr) : Option It := match e with
  | .Call (.Name f _) [a] [] _ => if isGlob c f && f == ("enumerate" : Str) then (trE ls n c false a).map .enm
    else if isGlob c f && f == ("range" : Str) then (trE ls n c false a).map fun x => .rng (.cons x .nil)
    else (trE ls n c true e).map .val
  | .Call (.Name f _) [a, b] [] _ => if isGlob c f && f == ("zip" : Str) then do return .zip (← trE ls n c false a) (← trE ls n c false b)
    else if isGlob c f && f == ("range" : Str) then do return .rng (.cons (← trE ls n c false a) (.cons (← trE ls n c false b) .nil))
    else (trE ls n c true e).map .val
  | .Call (.Name f _) [a, b, d] [] _ => if isGlob c f && f == ("range" : Str) then do return .rng (.cons (← trE ls n c false a) (.cons (← trE ls n c false b) (.cons (← trE ls n c false d) .nil)))
    else (trE ls n c true e).map .val
  | .Call (.Attribute o m _) [] [] _ => if m == ("items" : Str) then (trE ls n c false o).map .itm else (trE ls n c true e).map .val
  | e => (trE ls n c true e).map .val
def trG (ls : Lams) : Nat → Tc → Expr → Option Tg
  | 0, _, _ => none
  | n + 1, c, e => match e with
    | .Name x _ => (slotOf c x).map .name
    | .Tuple es _ _ => (es.mapM (trG ls n c)).map fun ts => .tup (tgsOf ts)
    | .Subscript o i _ => do return .sub (← trE ls n c false o) (← trE ls n c false i)
    | .Attribute o m _ => do return .att (← trE ls n c false o) (← tGet tFld m)
    | _ => none
/-- what is stored into a target -/
def trV (ls : Lams) (n : Nat) (c : Tc) (t e : Expr) : Option Ex :=
  match t with
  | .Name x _ => if c.mu.contains x || c.rf.contains x then (if isFresh c e then (trE ls n c false e).map newX else trE ls n c false e) else trE ls n c true e
  | .Attribute _ m _ => match tGet tFld m with
    | some f => if refFlds.contains f then (if isFresh c e then (trE ls n c false e).map newX else trE ls n c false e) else trE ls n c true e
    | none => none
  | _ => trE ls n c true e
def trS (ls : Lams) : Nat → Tc → Stmt → Option Sm
  | 0, _, _ => none
  | n + 1, c, s =>
    let blk : List Stmt → Option (List Sm) := fun b => b.mapM (trS ls n c)
    match s with
    | .Assign [.Tuple ts _ _] (.Tuple es _ _) _ => if ts.length = es.length && es.all (fun e => match e with | .Starred .. => false | _ => true) then do
        let gs ← ts.mapM (trG ls n c)
        let vs ← (ts.zip es).mapM fun (t, e) => trV ls n c t e
        if ts.all (fun t => match t with | .Name x _ => c.sc.names.lookup x == some .local | _ => false) && !(es.all fun e => match e with | .Constant .. => true | _ => false) then
          return .par (tgsOf gs) (exsOf (vs.map fun v => (false, v)))
        else return .asg (.tup (tgsOf gs)) (.tup (exsOf (vs.map fun v => (false, v))))
      else none
    | .Assign [t] e _ => do return .asg (← trG ls n c t) (← trV ls n c t e)
    | .AugAssign (.Name x _) op e _ => do return .aug (← slotOf c x) op (← trE ls n c false e)
    | .Expr e _ => do return .exp (← trE ls n c false e)
    | .If t a b _ => do return .ifs (← trE ls n c false t) (← blk a) (← blk b)
    | .While t b [] _ => do return .whl (← trE ls n c false t) (← blk b)
    | .For t i b [] _ => do return .for (← trG ls n c t) (← trIt ls n c i) (← blk b)
    | .Return (some e) _ => do return .ret (← trE ls n c true e)
    | .Return none _ => some (.ret (.cst .non))
    | .Raise (some (.Call (.Name x _) [a] [] _)) _ _ => do
      let (k, v) ← tGet tErr x
      if v then return .rse k (← trE ls n c false a) else return .rse k (.cst .non)
    | .Raise none none _ => some .rers
    | .Try b [.ExceptHandler (some (.Name x _)) _ h _] [] [] _ => if x == ("SiftError" : Str) then do return .try (← blk b) (← blk h) else none
    | .Pass _ => some .pas
    | .Match a cs _ => do
      let ps ← cs.mapM fun m => match m.pattern, m.guard with
        | .MatchSequence [.MatchValue (.Constant (.str z) _ _) _] _, none => some (z, none)
        | .MatchSequence [.MatchValue (.Constant (.str z) _ _) _, .MatchAs none (some x) _] _, none => (slotOf c x).map fun i => (z, some i)
        | _, _ => none
      let bs ← cs.mapM fun m => match m.body with
        | [b] => trS ls n c b
        | _ => none
      return .mat (← trE ls n c false a) ps bs
    | _ => none
def trB (ls : Lams) (n : Nat) (c : Tc) (b : List Stmt) : Option (List Sm) := b.mapM (trS ls n c)
end SV
set_option linter.all false
set_option Elab.async false
set_option maxRecDepth 100000
namespace SV
open PySem PySem.Spec PyProof.Rows L2
abbrev Io := List (Option Addr)
def kD : Key → D
  | .inl i => .int i
  | .inr s => .str s
/-- the names of the fields -/
def fname : Nat → Str
  | 0 => "rule" | 1 => "goal" | 2 => "cells" | 3 => "states" | 4 => "outs" | 5 => "start" | 6 => "chains" | 7 => "now" | 8 => "facts" | 9 => "past" | 10 => "undone" | 11 => "saved" | 12 => "index" | 13 => "word" | 14 => "place"
  | _ => ""
mutual
/-- a nested key by its value -/
def nkOf : D → Option NestedKey
  | .non => some .none
  | .int i => some (.num i)
  | .str s => some (.text s)
  | .tup xs => (nksOf xs).map .tup
  | _ => none
def nksOf : List D → Option (List NestedKey)
  | [] => some []
  | x :: r => match nkOf x, nksOf r with
    | some a, some b => some (a :: b)
    | _, _ => none
end
/-- .. a tuple's -/
def nkT : D → Option NestedKey
  | .tup xs => nkOf (.tup xs)
  | _ => none
/-- where the program's text stands: classes, the world -/
structure Cfg where
  P : Program
  w : World
  K : PySem.W.Frag
  aC : Nat → Addr
  aF : Nat → Addr
  /-- exceptions are spoken of -/
  xp : Bool
  /-- the classes that are asked for by isinstance; the text's constants -/
  asks : List Nat := []
  cnI : List (Str × Int) := []
  cnS : List (Str × Str) := []
  /-- the text's defs by name; its classes, their makers -/
  fns : List (Str × Nat) := []
  clss : List (Str × Nat) := []
/-- a dict whose keys are tuples, by its own object; xs: the keys, where they stand, the values -/
def GDo (P : Program) (w : World) (a : Addr) (xs : List (NestedKey × Addr × V)) : HO := .ext fun h =>
  (a == sysModules) = false ∧ xs.length ≤ sizeLine ∧ (xs.map (·.1)).Nodup ∧ ∃ (o : Obj) (es : Array DictEntry) (ep : Nat) (us : List (NestedKey × Addr × Value)),
    h.get? a = some o ∧ o.ExactDict ∧ o.data = .dict es ep ∧ es.toList = us.map (entryOfKey (nestedKind P w)) ∧ Paired (fun p q => p.1 = q.1 ∧ p.2.1 = q.2.1 ∧ RelV p.2.2 q.2.2) xs us
/-- a list that stands in the written part -/
def KL (K : PySem.W.Frag) (a : Addr) (xs : List V) : Prop := ∃ (o : Obj) (its : Array Value) (n : Nat), K.lookup a = some o ∧ o.cls = .type "list" ∧ o.dict = none ∧ o.data = .seq its n ∧ its.size ≤ sizeLine ∧ Vals xs its.toList
mutual
/-- the value v is d -/
def Den (g : Cfg) (H : Hp) (ι : Io) : D → V → Prop
  | .non, v => v = .non
  | .bl b, v => v = .bl b
  | .int i, v => v = .int i
  | .str s, v => v = .str s
  | .tup xs, v => ∃ a vs, v = .ref a ∧ (H a = some (.tup vs) ∧ some a ∉ ι) ∧ DenL g H ι xs vs
  | .lst xs, v => ∃ a vs, v = .ref a ∧ (H a = some (.lst vs) ∧ some a ∉ ι) ∧ DenL g H ι xs vs
  | .dct es, v => ∃ a, v = .ref a ∧ some a ∉ ι ∧ ((∃ kvs, H a = some (.dK kvs) ∧ DenE g H ι es kvs) ∨ ∃ xs, H a = some (GDo g.P g.w a xs) ∧ es ≠ [] ∧ DenG g H ι es xs)
  | .ins c xs, v => ∃ a dx vs ns, v = .ref a ∧ (H a = some (.ins (g.aC c) dx ((ns.map fname).zip vs)) ∧ some a ∉ ι) ∧ flds c = some ns ∧ ns.length = vs.length ∧ DenL g H ι xs vs
  | .ref k, v => k < ι.length ∧ ∀ a, ι[k]? = some (some a) → v = .ref a
  | .clo _, _ => False
  | .cls c, v => v = .ref (g.aC c)
  | .scr xs, v => ∃ a, v = .ref a ∧ ((∃ o, H a = some (.frz o (.lst (xs.map V.int))) ∧ some a ∉ ι) ∨ KL g.K a (xs.map V.int))
def DenL (g : Cfg) (H : Hp) (ι : Io) : List D → List V → Prop
  | [], vs => vs = []
  | x :: r, vs => ∃ v t, vs = v :: t ∧ Den g H ι x v ∧ DenL g H ι r t
def DenE (g : Cfg) (H : Hp) (ι : Io) : List D → List (Key × V) → Prop
  | [], kvs => kvs = []
  | .tup [k, x] :: r, kvs => ∃ key v t, kvs = (key, v) :: t ∧ kD key = k ∧ Den g H ι x v ∧ DenE g H ι r t
  | _ :: _, _ => False
def DenG (g : Cfg) (H : Hp) (ι : Io) : List D → List (NestedKey × Addr × V) → Prop
  | [], xs => xs = []
  | .tup [k, x] :: r, xs => ∃ nk b v t, xs = (nk, b, v) :: t ∧ nkT k = some nk ∧ Den g H ι k (.ref b) ∧ Den g H ι x v ∧ DenG g H ι r t
  | _ :: _, _ => False
end
def DctAt (g : Cfg) (H : Hp) (ι : Io) (a : Addr) (es : List D) : Prop :=
  (∃ kvs, H a = some (.dK kvs) ∧ DenE g H ι es kvs) ∨ ∃ xs, H a = some (GDo g.P g.w a xs) ∧ es ≠ [] ∧ DenG g H ι es xs
def DenF (g : Cfg) (H : Hp) (ι : Io) : List (Nat × D) → List (Str × V) → Prop
  | [], fs => fs = []
  | (f, x) :: r, fs => ∃ v t, fs = (fname f, v) :: t ∧ Den g H ι x v ∧ DenF g H ι r t
def MDen (g : Cfg) (H : Hp) (ι : Io) (a : Addr) : MO → Prop
  | .lst xs => ∃ vs, H a = some (.lst vs) ∧ DenL g H ι xs vs
  | .dct es => DctAt g H ι a es
  | .obj c fs => ∃ dx fs', H a = some (.ins (g.aC c) dx fs') ∧ DenF g H ι fs fs' ∧ fs.length ≤ 16
  | .dead => False
structure Rel (g : Cfg) (H : Hp) (ι : Io) (m : List MO) : Prop where
  len : ι.length = m.length
  at_ : ∀ (k : Nat) (mo : MO), m[k]? = some mo → (mo = .dead ∧ ι[k]? = some none) ∨ ∃ a, ι[k]? = some (some a) ∧ MDen g H ι a mo
  inj : ∀ (j k : Nat) (a : Addr), ι[j]? = some (some a) → ι[k]? = some (some a) → j = k
/-- names by slot -/
def EnvDen (g : Cfg) (H : Hp) (ι : Io) (σ : L2.St) (e : List (Option D)) : Prop :=
  σ.length = e.length ∧ ∀ (i : Nat) d, e[i]? = some (some d) → ∃ v, σ[i]? = some (some v) ∧ Den g H ι d v
def SR (g : Cfg) (H : Hp) (ι : Io) (σ : L2.St) (s : S) : Prop := EnvDen g H ι σ s.e ∧ Rel g H ι s.m
/-- a later heap: what stood outside the store stands, and is not taken into it; places of the store die at most -/
structure Le (H : Hp) (ι : Io) (H' : Hp) (ι' : Io) : Prop where
  keep : ∀ a o, H a = some o → some a ∉ ι → H' a = some o ∧ some a ∉ ι'
  trk : ∀ a, H a ≠ none → H' a ≠ none
  len : ι.length ≤ ι'.length
  same : ∀ (k : Nat), k < ι.length → ι'[k]? = ι[k]? ∨ ι'[k]? = some none
section
variable {g : Cfg} {H H' H2 : Hp} {ι ι' ι2 : Io}
theorem Le.refl (H : Hp) (ι : Io) : Le H ι H ι := ⟨fun _ _ h n => ⟨h, n⟩, fun _ h => h, Nat.le_refl _, fun _ _ => .inl rfl⟩
theorem Le.trans (a : Le H ι H' ι') (b : Le H' ι' H2 ι2) : Le H ι H2 ι2 where
  keep := fun c o h n => by
    obtain ⟨h1, n1⟩ := a.keep c o h n
    exact b.keep c o h1 n1
  trk := fun c h => b.trk c (a.trk c h)
  len := Nat.le_trans a.len b.len
  same := fun k hk => by
    rcases b.same k (Nat.lt_of_lt_of_le hk a.len) with e | e
    · rcases a.same k hk with f | f
      · exact .inl (e.trans f)
      · exact .inr (e.trans f)
    · exact .inr e
theorem Rd.le {a : Addr} {u : HO} (l : Le H ι H' ι') (h : Rd H a u) (n : some a ∉ ι) : Rd H' a u ∧ some a ∉ ι' := by
  rcases h with h | ⟨o, h⟩
  · obtain ⟨h1, n1⟩ := l.keep _ _ h n
    exact ⟨.inl h1, n1⟩
  · obtain ⟨h1, n1⟩ := l.keep _ _ h n
    exact ⟨.inr ⟨o, h1⟩, n1⟩
mutual
theorem Den.le (l : Le H ι H' ι') : ∀ (d : D) (v : V), Den g H ι d v → Den g H' ι' d v
  | .non, v, h => by simpa only [Den] using h
  | .bl b, v, h => by simpa only [Den] using h
  | .int i, v, h => by simpa only [Den] using h
  | .str s, v, h => by simpa only [Den] using h
  | .cls c, v, h => by simpa only [Den] using h
  | .clo c, v, h => by simp only [Den] at h
  | .scr xs, v, h => by
    simp only [Den] at h ⊢
    obtain ⟨a, rfl, h⟩ := h
    rcases h with ⟨o, ha, na⟩ | h
    · exact ⟨a, rfl, .inl ⟨o, l.keep _ _ ha na⟩⟩
    · exact ⟨a, rfl, .inr h⟩
  | .tup xs, v, h => by
    simp only [Den] at h ⊢
    obtain ⟨a, vs, rfl, ⟨ha, na⟩, r⟩ := h
    exact ⟨a, vs, rfl, l.keep _ _ ha na, DenL.le l xs vs r⟩
  | .lst xs, v, h => by
    simp only [Den] at h ⊢
    obtain ⟨a, vs, rfl, ⟨ha, na⟩, r⟩ := h
    exact ⟨a, vs, rfl, l.keep _ _ ha na, DenL.le l xs vs r⟩
  | .dct es, v, h => by
    simp only [Den] at h ⊢
    obtain ⟨a, rfl, na, r⟩ := h
    rcases r with ⟨kvs, ha, r⟩ | ⟨xs, ha, ne, r⟩
    · exact ⟨a, rfl, (l.keep _ _ ha na).2, .inl ⟨kvs, (l.keep _ _ ha na).1, DenE.le l es kvs r⟩⟩
    · exact ⟨a, rfl, (l.keep _ _ ha na).2, .inr ⟨xs, (l.keep _ _ ha na).1, ne, DenG.le l es xs r⟩⟩
  | .ins c xs, v, h => by
    simp only [Den] at h ⊢
    obtain ⟨a, dx, vs, ns, rfl, ⟨ha, na⟩, e, e2, r⟩ := h
    exact ⟨a, dx, vs, ns, rfl, l.keep _ _ ha na, e, e2, DenL.le l xs vs r⟩
  | .ref k, v, h => by
    simp only [Den] at h ⊢
    refine ⟨Nat.lt_of_lt_of_le h.1 l.len, fun a e => ?_⟩
    rcases l.same k h.1 with f | f
    · exact h.2 a (f ▸ e)
    · rw [f] at e
      cases e
theorem DenL.le (l : Le H ι H' ι') : ∀ (d : List D) (v : List V), DenL g H ι d v → DenL g H' ι' d v
  | [], v, h => by simpa only [DenL] using h
  | x :: r, v, h => by
    simp only [DenL] at h ⊢
    obtain ⟨u, t, rfl, a, b⟩ := h
    exact ⟨u, t, rfl, Den.le l x u a, DenL.le l r t b⟩
theorem DenE.le (l : Le H ι H' ι') : ∀ (d : List D) (v : List (Key × V)), DenE g H ι d v → DenE g H' ι' d v
  | [], v, h => by simpa only [DenE] using h
  | .tup [k, x] :: r, v, h => by
    simp only [DenE] at h ⊢
    obtain ⟨key, u, t, rfl, e, a, b⟩ := h
    exact ⟨key, u, t, rfl, e, Den.le l x u a, DenE.le l r t b⟩
  | .non :: r, v, h => by simp only [DenE] at h
  | .bl _ :: r, v, h => by simp only [DenE] at h
  | .int _ :: r, v, h => by simp only [DenE] at h
  | .str _ :: r, v, h => by simp only [DenE] at h
  | .lst _ :: r, v, h => by simp only [DenE] at h
  | .dct _ :: r, v, h => by simp only [DenE] at h
  | .ins _ _ :: r, v, h => by simp only [DenE] at h
  | .ref _ :: r, v, h => by simp only [DenE] at h
  | .clo _ :: r, v, h => by simp only [DenE] at h
  | .cls _ :: r, v, h => by simp only [DenE] at h
  | .scr _ :: r, v, h => by simp only [DenE] at h
  | .tup [] :: r, v, h => by simp only [DenE] at h
  | .tup [_] :: r, v, h => by simp only [DenE] at h
  | .tup (_ :: _ :: _ :: _) :: r, v, h => by simp only [DenE] at h
theorem DenG.le (l : Le H ι H' ι') : ∀ (d : List D) (v : List (NestedKey × Addr × V)), DenG g H ι d v → DenG g H' ι' d v
  | [], v, h => by simpa only [DenG] using h
  | .tup [k, x] :: r, v, h => by
    simp only [DenG] at h ⊢
    obtain ⟨nk, b, u, t, rfl, e, a, c, d⟩ := h
    exact ⟨nk, b, u, t, rfl, e, Den.le l k _ a, Den.le l x u c, DenG.le l r t d⟩
  | .non :: r, v, h => by simp only [DenG] at h
  | .bl _ :: r, v, h => by simp only [DenG] at h
  | .int _ :: r, v, h => by simp only [DenG] at h
  | .str _ :: r, v, h => by simp only [DenG] at h
  | .lst _ :: r, v, h => by simp only [DenG] at h
  | .dct _ :: r, v, h => by simp only [DenG] at h
  | .ins _ _ :: r, v, h => by simp only [DenG] at h
  | .ref _ :: r, v, h => by simp only [DenG] at h
  | .clo _ :: r, v, h => by simp only [DenG] at h
  | .cls _ :: r, v, h => by simp only [DenG] at h
  | .scr _ :: r, v, h => by simp only [DenG] at h
  | .tup [] :: r, v, h => by simp only [DenG] at h
  | .tup [_] :: r, v, h => by simp only [DenG] at h
  | .tup (_ :: _ :: _ :: _) :: r, v, h => by simp only [DenG] at h
end
theorem DenF.le (l : Le H ι H' ι') : ∀ (d : List (Nat × D)) (v : List (Str × V)), DenF g H ι d v → DenF g H' ι' d v
  | [], v, h => by simpa only [DenF] using h
  | (f, x) :: r, v, h => by
    simp only [DenF] at h ⊢
    obtain ⟨u, t, rfl, a, b⟩ := h
    exact ⟨u, t, rfl, Den.le l x u a, DenF.le l r t b⟩
theorem EnvDen.le {σ : L2.St} {e : List (Option D)} (l : Le H ι H' ι') (h : EnvDen g H ι σ e) : EnvDen g H' ι' σ e :=
  ⟨h.1, fun i d q => by
    obtain ⟨v, a, b⟩ := h.2 i d q
    exact ⟨v, a, Den.le l d v b⟩⟩
theorem DenL.length : ∀ {xs : List D} {vs : List V}, DenL g H ι xs vs → xs.length = vs.length
  | [], vs, h => by simp only [DenL] at h; subst h; rfl
  | x :: r, vs, h => by
    simp only [DenL] at h
    obtain ⟨v, t, rfl, _, b⟩ := h
    simp only [List.length_cons, DenL.length b]
theorem DenL.nil_iff {vs : List V} : DenL g H ι [] vs ↔ vs = [] := by simp only [DenL]
theorem DenL.cons {x : D} {xs : List D} {v : V} {vs : List V} (a : Den g H ι x v) (b : DenL g H ι xs vs) : DenL g H ι (x :: xs) (v :: vs) := by
  simp only [DenL]; exact ⟨v, vs, rfl, a, b⟩
theorem DenL.append : ∀ {xs ys : List D} {vs ws : List V}, DenL g H ι xs vs → DenL g H ι ys ws → DenL g H ι (xs ++ ys) (vs ++ ws)
  | [], ys, vs, ws, h, k => by simp only [DenL] at h; subst h; exact k
  | x :: r, ys, vs, ws, h, k => by
    simp only [DenL] at h
    obtain ⟨v, t, rfl, a, b⟩ := h
    exact DenL.cons a (DenL.append b k)
theorem DenL.get : ∀ {xs : List D} {vs : List V} {i : Nat} {d : D}, DenL g H ι xs vs → xs[i]? = some d → ∃ v, vs[i]? = some v ∧ Den g H ι d v
  | [], _, _, _, _, e => by simp at e
  | x :: r, vs, 0, d, h, e => by
    simp only [DenL] at h
    obtain ⟨v, t, rfl, a, b⟩ := h
    simp at e
    subst e
    exact ⟨v, by simp, a⟩
  | x :: r, vs, i + 1, d, h, e => by
    simp only [DenL] at h
    obtain ⟨v, t, rfl, a, b⟩ := h
    obtain ⟨u, e1, e2⟩ := DenL.get (i := i) b (by simpa using e)
    exact ⟨u, by simpa using e1, e2⟩
theorem DenL.take : ∀ {xs : List D} {vs : List V} (n : Nat), DenL g H ι xs vs → DenL g H ι (xs.take n) (vs.take n)
  | xs, vs, 0, h => by simp [DenL]
  | [], vs, n + 1, h => by simp only [DenL] at h; subst h; simp [DenL]
  | x :: r, vs, n + 1, h => by
    simp only [DenL] at h
    obtain ⟨v, t, rfl, a, b⟩ := h
    exact DenL.cons a (DenL.take n b)
theorem DenL.drop : ∀ {xs : List D} {vs : List V} (n : Nat), DenL g H ι xs vs → DenL g H ι (xs.drop n) (vs.drop n)
  | xs, vs, 0, h => h
  | [], vs, n + 1, h => by simp only [DenL] at h; subst h; simp [DenL]
  | x :: r, vs, n + 1, h => by
    simp only [DenL] at h
    obtain ⟨v, t, rfl, a, b⟩ := h
    exact DenL.drop n b
theorem DenL.set : ∀ {xs : List D} {vs : List V} (n : Nat) {d : D} {v : V}, Den g H ι d v → DenL g H ι xs vs → DenL g H ι (xs.set n d) (vs.set n v)
  | [], vs, n, d, v, e, h => by simp only [DenL] at h; subst h; simp [DenL]
  | x :: r, vs, 0, d, v, e, h => by
    simp only [DenL] at h
    obtain ⟨u, t, rfl, a, b⟩ := h
    exact DenL.cons e b
  | x :: r, vs, n + 1, d, v, e, h => by
    simp only [DenL] at h
    obtain ⟨u, t, rfl, a, b⟩ := h
    exact DenL.cons a (DenL.set n e b)
theorem DenL.erase : ∀ {xs : List D} {vs : List V} (n : Nat), DenL g H ι xs vs → DenL g H ι (xs.eraseIdx n) (vs.eraseIdx n)
  | [], vs, n, h => by simp only [DenL] at h; subst h; simp [DenL]
  | x :: r, vs, 0, h => by
    simp only [DenL] at h
    obtain ⟨u, t, rfl, a, b⟩ := h
    exact b
  | x :: r, vs, n + 1, h => by
    simp only [DenL] at h
    obtain ⟨u, t, rfl, a, b⟩ := h
    exact DenL.cons a (DenL.erase n b)
theorem DenL.reverse : ∀ {xs : List D} {vs : List V}, DenL g H ι xs vs → DenL g H ι xs.reverse vs.reverse
  | [], vs, h => by simp only [DenL] at h; subst h; simp [DenL]
  | x :: r, vs, h => by
    simp only [DenL] at h
    obtain ⟨u, t, rfl, a, b⟩ := h
    rw [List.reverse_cons, List.reverse_cons]
    exact DenL.append (DenL.reverse b) (DenL.cons a (by simp [DenL]))
theorem DenL.rep {xs : List D} {vs : List V} (h : DenL g H ι xs vs) : ∀ k : Nat, DenL g H ι (List.replicate k xs).flatten (List.replicate k vs).flatten
  | 0 => by simp [DenL]
  | k + 1 => by
    rw [List.replicate_succ, List.replicate_succ, List.flatten_cons, List.flatten_cons]
    exact DenL.append h (DenL.rep h k)
end
end SV
set_option linter.all false
set_option Elab.async false
set_option maxRecDepth 100000
namespace SV
open PySem PySem.Spec PyProof.Rows L2
/-- what is wanted of an outcome -/
def OutP {α : Type} (o : Out α) (P : α → Prop) (E : Nat → D → S → Prop) : Prop := match o with
  | .ok a => P a
  | .exc c d s => E c d s
  | .bad => False
section
variable {α β : Type} {P P' : α → Prop} {E E' : Nat → D → S → Prop}
theorem OutP.mono {o : Out α} (h : OutP o P E) (hp : ∀ a, P a → P' a) (he : ∀ c d s, E c d s → E' c d s) : OutP o P' E' := by
  cases o with
  | ok a => exact hp a h
  | exc c d s => exact he c d s h
  | bad => exact h
theorem OutP.bind {o : Out α} {f : α → Out β} {Q : β → Prop} : OutP (o >>= f) Q E ↔ OutP o (fun a => OutP (f a) Q E) E := by
  cases o <;> exact Iff.rfl
theorem OutP.gd {b : Bool} {Q : Unit → Prop} : OutP (gd b) Q E ↔ b = true ∧ Q () := by
  cases b <;> simp [SV.gd, OutP]
theorem OutP.opt {o : Option α} {Q : α → Prop} : OutP (opt o) Q E ↔ ∃ a, o = some a ∧ Q a := by
  cases o <;> simp [SV.opt, OutP]
theorem OutP.ok {a : α} : OutP (.ok a) P E ↔ P a := Iff.rfl
theorem OutP.pure {a : α} : OutP (pure a : Out α) P E ↔ P a := Iff.rfl
theorem OutP.bad : ¬ OutP (.bad : Out α) P E := fun h => h
end
/-- how an exception of SV lies behind: its class, its own dict -/
def EDen (g : Cfg) (H : Hp) (ι : Io) (c : Nat) (d : D) (cls : Value) (dd : Option Addr) : Prop :=
  cls = .ref (g.aC c) ∧ ((dd = none ∧ d = .non) ∨ ∃ a f v, dd = some a ∧ H a = some (.xd [(f, v)]) ∧ Den g H ι d v ∧
    ((c = 22 ∧ f = fname 12) ∨ (c = 24 ∧ f = fname 12) ∨ (c = 25 ∧ f = fname 13) ∨ (c = 30 ∧ f = fname 14)))
def XC (g : Cfg) (W : WX) (H : Hp) (ι : Io) (σ : L2.St) : Nat → D → S → Prop := fun c d s => g.xp = true ∧
  ∀ cls dd σ' H' ι', Le H ι H' ι' → SR g H' ι' σ' s → EDen g H' ι' c d cls dd → W cls dd σ' H'
/-- a list or dict that is new where its expression says so: made last, over a heap of which R is known -/
def Nw (fr : Bool) (g : Cfg) (R : Hp → Io → Prop) (H' : Hp) (ι' : Io) (z : D) (w : V) : Prop := fr = true →
  (∀ xs, z = .lst xs → ∃ H1 p vs, w = .ref p ∧ H1 p = none ∧ H' = upd H1 p (.lst vs) ∧ R H1 ι' ∧ DenL g H1 ι' xs vs) ∧
  (∀ es, z = .dct es → ∃ H1 p kvs, w = .ref p ∧ H1 p = none ∧ H' = upd H1 p (.dK kvs) ∧ R H1 ι' ∧ DenE g H1 ι' es kvs)
/-- an expression: it is run by SV, and what is wanted is wanted of its value -/
def tD (g : Cfg) (W : WX) (fr : Bool) (f : S → Out (D × S)) : TE := fun σ H Q => ∃ ι s, SR g H ι σ s ∧
  OutP (f s) (fun p => ∀ v H' ι', Le H ι H' ι' → SR g H' ι' σ p.2 → Den g H' ι' p.1 v → Nw fr g (fun H1 ι1 => Le H ι H1 ι1 ∧ SR g H1 ι1 σ p.2) H' ι' p.1 v → Q v H') (XC g W H ι σ)
def tDs (g : Cfg) (W : WX) (f : S → Out (List D × S)) : TA := fun σ H Q => ∃ ι s, SR g H ι σ s ∧
  OutP (f s) (fun p => ∀ vs H' ι', Le H ι H' ι' → SR g H' ι' σ p.2 → DenL g H' ι' p.1 vs → Q vs H') (XC g W H ι σ)
def tDb (g : Cfg) (W : WX) (f : S → Out (Bool × S)) : TT := fun σ H Q => ∃ ι s, SR g H ι σ s ∧
  OutP (f s) (fun p => ∀ H' ι', Le H ι H' ι' → SR g H' ι' σ p.2 → Q p.1 H') (XC g W H ι σ)
/-- an expression as a test -/
def bE (f : S → Out (D × S)) : S → Out (Bool × S) := fun s => do
  let (d, s) ← f s
  let b ← asBool d
  .ok (b, s)
section
variable {g : Cfg} {W : WX} {H H' H2 : Hp} {ι ι' ι2 : Io} {σ : L2.St} {s : S}
theorem SR.le {s : S} (l : Le H ι H' ι') (h : SR g H ι σ s) (r : Rel g H' ι' s.m) : SR g H' ι' σ s := ⟨h.1.le l, r⟩
theorem XC.mono (l : Le H ι H' ι') {c : Nat} {d : D} {s : S} (h : XC g W H ι σ c d s) : XC g W H' ι' σ c d s := ⟨h.1, fun cls dd σ' H2 ι2 l2 r e => h.2 cls dd σ' H2 ι2 (l.trans l2) r e⟩
theorem Nw.imp {fr : Bool} {R R' : Hp → Io → Prop} {d : D} {v : V} (h : Nw fr g R H' ι' d v) (k : ∀ H1 ι1, R H1 ι1 → R' H1 ι1) : Nw fr g R' H' ι' d v := fun e => by
  obtain ⟨h1, h2⟩ := h e
  refine ⟨fun xs q => ?_, fun xs q => ?_⟩
  · obtain ⟨H1, p, vs, a, b, c, d, e⟩ := h1 xs q
    exact ⟨H1, p, vs, a, b, c, k _ _ d, e⟩
  · obtain ⟨H1, p, vs, a, b, c, d, e⟩ := h2 xs q
    exact ⟨H1, p, vs, a, b, c, k _ _ d, e⟩
theorem Nw.no {R : Hp → Io → Prop} {d : D} {v : V} : Nw false g R H' ι' d v := fun e => nomatch e
theorem Nw.wk {fr fr' : Bool} {R : Hp → Io → Prop} {d : D} {v : V} (h : Nw fr' g R H' ι' d v) (k : fr = true → fr' = true) : Nw fr g R H' ι' d v := fun e => h (k e)
theorem Nw.flat {fr : Bool} {R : Hp → Io → Prop} {d : D} {v : V} (h : ∀ xs, d ≠ .lst xs ∧ d ≠ .dct xs) : Nw fr g R H' ι' d v := fun _ => ⟨fun xs e => absurd e (h xs).1, fun xs e => absurd e (h xs).2⟩
theorem Nw.off {fr : Bool} {R : Hp → Io → Prop} {d : D} {v : V} (h : Nw fr g R H' ι' d v) : Nw false g R H' ι' d v := Nw.no
/-- the value of an expression, then the rest -/
theorem tD.then {fr : Bool} {f : S → Out (D × S)} {Q : VK} {E : Nat → D → S → Prop} {P : D × S → Prop} (hr : SR g H ι σ s) (h : OutP (f s) P E)
    (hE : ∀ c d s, E c d s → XC g W H ι σ c d s)
    (k : ∀ d s' v H' ι', P (d, s') → Le H ι H' ι' → SR g H' ι' σ s' → Den g H' ι' d v → Nw fr g (fun H1 ι1 => Le H ι H1 ι1 ∧ SR g H1 ι1 σ s') H' ι' d v → Q v H') : tD g W fr f σ H Q :=
  ⟨ι, s, hr, h.mono (fun p hp v H' ι' l r e n => k p.1 p.2 v H' ι' hp l r e n) hE⟩
theorem tDs.then {f : S → Out (List D × S)} {Q : List V → Hp → Prop} {E : Nat → D → S → Prop} {P : List D × S → Prop} (hr : SR g H ι σ s) (h : OutP (f s) P E)
    (hE : ∀ c d s, E c d s → XC g W H ι σ c d s)
    (k : ∀ ds s' vs H' ι', P (ds, s') → Le H ι H' ι' → SR g H' ι' σ s' → DenL g H' ι' ds vs → Q vs H') : tDs g W f σ H Q :=
  ⟨ι, s, hr, h.mono (fun p hp v H' ι' l r e => k p.1 p.2 v H' ι' hp l r e) hE⟩
theorem tDb.then {f : S → Out (Bool × S)} {Q : Bool → Hp → Prop} {E : Nat → D → S → Prop} {P : Bool × S → Prop} (hr : SR g H ι σ s) (h : OutP (f s) P E)
    (hE : ∀ c d s, E c d s → XC g W H ι σ c d s)
    (k : ∀ b s' H' ι', P (b, s') → Le H ι H' ι' → SR g H' ι' σ s' → Q b H') : tDb g W f σ H Q :=
  ⟨ι, s, hr, h.mono (fun p hp H' ι' l r => k p.1 p.2 H' ι' hp l r) hE⟩
end
theorem PE.imp {X : Cx} {e : Expr} {t u : TE} (h : PE X e t) (k : ∀ σ H Q, u σ H Q → t σ H Q) : PE X e u := ⟨fun pins s σ H Q I q => h.run pins s σ H Q I (k σ H Q q)⟩
theorem PT.imp {X : Cx} {e : Expr} {t u : TT} (h : PT X e t) (k : ∀ σ H Q, u σ H Q → t σ H Q) : PT X e u := ⟨fun pins s σ H Q I q => h.run pins s σ H Q I (k σ H Q q)⟩
theorem PA.imp {X : Cx} {e : List Expr} {t u : TA} (h : PA X e t) (k : ∀ σ H Q, u σ H Q → t σ H Q) : PA X e u := ⟨fun pos pins s σ H Q I q => h.run pos pins s σ H Q I (k σ H Q q)⟩
theorem PS.imp {X : Cx} {e : Stmt} {t u : TS} (h : PS X e t) (k : ∀ D σ H, u D σ H → t D σ H) : PS X e u := ⟨fun pins s σ H D I q => h.run pins s σ H D I (k D σ H q)⟩
theorem PSs.imp {X : Cx} {e : List Stmt} {t u : TS} (h : PSs X e t) (k : ∀ D σ H, u D σ H → t D σ H) : PSs X e u := ⟨fun pins s σ H D I q => h.run pins s σ H D I (k D σ H q)⟩
section
variable {X : Cx} {g : Cfg} {W : WX} {a b : Expr} {fa fb : S → Out (D × S)} {pos : Pos}
/-- a two-place operation by values: f gives the value and the store -/
def Op2 (g : Cfg) (r : R2) (fr : Bool) (f : List MO → D → D → Out D) : Prop :=
  ∀ (H : Hp) (ι : Io) (m : List MO) (x y : D) (v u : V) (z : D) (Q : VK), Rel g H ι m → Den g H ι x v → Den g H ι y u → f m x y = .ok z →
    (∀ w H' ι', Le H ι H' ι' → Rel g H' ι' m → Den g H' ι' z w → Nw fr g (fun H1 ι1 => Le H ι H1 ι1 ∧ Rel g H1 ι1 m) H' ι' z w → Q w H') → r v u H Q
/-- the operation never raises -/
def Calm2 (f : List MO → D → D → Out D) : Prop := ∀ m x y c d s, f m x y ≠ .exc c d s
theorem tOp_D {r : R2} {fr fra frb : Bool} {f : List MO → D → D → Out D} (h : Op2 g r fr f) (hc : Calm2 f) {σ : L2.St} {H : Hp} {Q : VK}
    (q : tD g W fr (fun s => do
      let (x, s) ← fa s
      let (y, s) ← fb s
      let z ← f s.m x y
      .ok (z, s)) σ H Q) : tOp r (tD g W fra fa) (tD g W frb fb) σ H Q := by
  obtain ⟨ι, s, sr, o⟩ := q
  rw [OutP.bind] at o
  refine tD.then sr o (fun _ _ _ h => h) fun x s1 v H1 ι1 o1 l1 sr1 d1 _ => ?_
  dsimp only at o1
  rw [OutP.bind] at o1
  refine tD.then sr1 o1 (fun _ _ _ h => h.mono l1) fun y s2 u H2 ι2 o2 l2 sr2 d2 _ => ?_
  dsimp only at o2
  rw [OutP.bind] at o2
  cases e : f s2.m x y with
  | bad => rw [e] at o2; exact o2.elim
  | exc c d t => exact absurd e (hc _ _ _ _ _ _)
  | ok z =>
    rw [e] at o2
    exact h H2 ι2 s2.m x y v u z Q sr2.2 (Den.le l2 _ _ d1) d2 e fun w H' ι' l r dn n => o2 w H' ι' ((l1.trans l2).trans l) (sr2.le l r) dn (n.imp fun H1 ι1 q => ⟨(l1.trans l2).trans q.1, sr2.le q.1 q.2⟩)
end
end SV
set_option linter.all false
set_option Elab.async false
set_option maxRecDepth 100000
set_option maxHeartbeats 4000000
namespace SV
open PySem PySem.Spec PyProof.Rows L2
theorem sizeL_eq : sizeL = sizeLine := by rw [sizeLine_eq]; rfl
section
variable {X : Cx}
theorem OpR.or3 {f : Value → Value → Sem Value} {r r' r'' : R2} (h : OpR X f r) (h' : OpR X f r') (h'' : OpR X f r'') : OpR X f (fun x y H Q => r x y H Q ∨ r' x y H Q ∨ r'' x y H Q) := OpR.or h (OpR.or h' h'')
/-- () + t is t -/
theorem op_catT0 : OpR X (binaryOp .Add) (fun x y H Q => ∃ a b ys, x = .ref a ∧ y = .ref b ∧ SqT X.K H a [] ∧ SqT X.K H b ys ∧ Q (.ref b) H) := by
  intro pins s σ H x y v u Q I rx ry h
  obtain ⟨a, b, ys, rfl, rfl, ha, hb, q⟩ := h
  cases rx
  cases ry
  obtain ⟨its, r1, p1, _⟩ := I.tuple ha
  obtain ⟨its2, r2, p2, _⟩ := I.tuple hb
  cases r1
  obtain ⟨⟨cls, dd, data, sl⟩, ho, hc, n, hd⟩ := id p1
  obtain ⟨⟨cls2, dd2, data2, sl2⟩, ho2, hc2, n2, hd2⟩ := id p2
  simp only at hc hd hc2 hd2
  subst hc hd hc2 hd2
  exact concat_meets ⟨_, ho, rfl⟩ ⟨_, ho2, rfl⟩ noFill_tuple_add seq_tuple_add PySem.F.slot_tuple_add PySem.F.entry_tuple_add (PySem.F.args_tuple_add_2 _ _)
      (tuple_addW0 a b #[] its2.toArray n n2 dd dd2 sl sl2 rfl) ⟨ho, ho2, ⟨.ref b, H, I, rfl, q⟩⟩
theorem tuple_mulW1 (l : Addr) (items : Array Value) (n : Nat) (dd : Option Addr) (sl : Array (Option Value)) (x : Int) (u : Tok) (c0 : (decide (x < -(2 ^ 63)) || decide (x ≥ 2 ^ 63)) = false) (c1 : (items.isEmpty || x == 1) = true) :
    Meets (Builtin.«tuple.__mul__» ⟨[.ref l, .int x u], []⟩) (fun _ R s => s.heap.get? l = some { cls := .type "tuple", dict := dd, data := .seq items n, slots := sl } ∧
      R (.ok (.ret (Value.ref l))) s) :=
  .of_wp fun prog w A R s h => by
    obtain ⟨hp, g, d, tk, os⟩ := s
    obtain ⟨hl, h⟩ := h
    have f1 := AutoSeq1.idx_int
    wp_walk using wpAny_loadPart' hl
    repeat (first
      | (refine wpAny_ite_false (decide_eq_false (by rw [c0]; exact Bool.false_ne_true)) ?_; wp_walk using wpAny_loadPart' hl)
      | (refine wpAny_ite_true (decide_eq_true c1) ?_; wp_walk using wpAny_loadPart' hl))
    exact ⟨_, rfl, h⟩
theorem tuple_mulW0 (l : Addr) (items : Array Value) (n : Nat) (dd : Option Addr) (sl : Array (Option Value)) (x : Int) (u : Tok) (c0 : (decide (x < -(2 ^ 63)) || decide (x ≥ 2 ^ 63)) = false) (c1 : (items.isEmpty || x == 1) = false) (c2 : (decide (x ≤ 0) || items.isEmpty) = true) :
    Meets (Builtin.«tuple.__mul__» ⟨[.ref l, .int x u], []⟩) (fun _ R s => s.heap.get? l = some { cls := .type "tuple", dict := dd, data := .seq items n, slots := sl } ∧
      R (.ok (.ret (Value.ref s.heap.objs.size))) { s with heap := s.heap.push { cls := Value.type "tuple", data := Data.seq #[] }, toks := s.toks }) :=
  .of_wp fun prog w A R s h => by
    obtain ⟨hp, g, d, tk, os⟩ := s
    obtain ⟨hl, h⟩ := h
    have f1 := AutoSeq1.idx_int
    wp_walk using wpAny_loadPart' hl
    repeat (first
      | (refine wpAny_ite_false (decide_eq_false (by rw [c0]; exact Bool.false_ne_true)) ?_; wp_walk using wpAny_loadPart' hl)
      | (refine wpAny_ite_false (decide_eq_false (by rw [c1]; exact Bool.false_ne_true)) ?_; wp_walk using wpAny_loadPart' hl)
      | (refine wpAny_ite_true (decide_eq_true c2) ?_; wp_walk using wpAny_loadPart' hl))
    exact ⟨_, rfl, h⟩
/-- a tuple once, or not at all -/
def rRepT1 (K : PySem.W.Frag) : R2 := fun x y H Q => ∃ l k xs, x = .ref l ∧ y = .int k ∧ SqT K H l xs ∧ xs ≠ [] ∧ -(2 ^ 62) < k ∧ k ≤ 1 ∧ (k = 1 → Q (.ref l) H) ∧ (k ≤ 0 → ∀ p, H p = none → Q (.ref p) (upd H p (.tup [])))
theorem op_repT1 : OpR X (binaryOp .Mult) (rRepT1 X.K) := by
  intro pins s σ H x y v u Q I rx ry h
  obtain ⟨l, k, xs, rfl, rfl, hT, hne, h1, h2, q1, q0⟩ := h
  cases rx
  obtain ⟨t, rfl⟩ := ry
  obtain ⟨its, r, ⟨⟨cls, dd, data, sl⟩, ho, hc, n, hd⟩, hs⟩ := I.tuple hT
  simp only at hc hd
  subst hc hd
  have hle : its.length = xs.length := r.length.symm
  have hi : its.toArray.isEmpty = false := by
    cases its with
    | nil => exact absurd (List.eq_nil_of_length_eq_zero hle.symm) hne
    | cons a b => rfl
  have c0 : (decide (k < -(2 ^ 63)) || decide (k ≥ 2 ^ 63)) = false := by
    rw [decide_eq_false (by omega), decide_eq_false (by omega)] <;> rfl
  by_cases e1 : k = 1
  · subst e1
    have c1 : (its.toArray.isEmpty || (1 : Int) == 1) = true := by rw [hi]; rfl
    exact wpAny_binaryOp_repeat_ref (T := "tuple") (U := "int") (by decide) ⟨_, ho, rfl⟩ (fun s' => typeIs_int s' 1 t) noFill_tuple_mul F.fills_int_mul F.slot_int_rmul repeat_tuple F.slot_int_index.lookup
      (call_meets F.slot_int_rmul (typeIs_int s 1 t) F.entry_int_rmul (F.args_int_rmul_2 _ _) (int_rmul_tuple 1 t l its.toArray n dd sl)
        ⟨ho, rfl, ⟨_, ho, rfl⟩, call_meets F.slot_tuple_mul ⟨_, ho, rfl⟩ F.entry_tuple_mul (F.args_tuple_mul_2 _ _) (tuple_mulW1 l its.toArray n dd sl 1 t c0 c1) ⟨ho, ⟨.ref l, H, I, rfl, q1 rfl⟩⟩⟩)
  · have c1 : (its.toArray.isEmpty || k == 1) = false := by
      rw [hi, Bool.false_or]
      exact beq_eq_false_iff_ne.mpr e1
    have c2 : (decide (k ≤ 0) || its.toArray.isEmpty) = true := by
      rw [decide_eq_true (by omega), Bool.true_or]
    refine wpAny_binaryOp_repeat_ref (T := "tuple") (U := "int") (by decide) ⟨_, ho, rfl⟩ (fun s' => typeIs_int s' k t) noFill_tuple_mul F.fills_int_mul F.slot_int_rmul repeat_tuple F.slot_int_index.lookup
      (call_meets F.slot_int_rmul (typeIs_int s k t) F.entry_int_rmul (F.args_int_rmul_2 _ _) (int_rmul_tuple k t l its.toArray n dd sl)
        ⟨ho, rfl, ⟨_, ho, rfl⟩, call_meets F.slot_tuple_mul ⟨_, ho, rfl⟩ F.entry_tuple_mul (F.args_tuple_mul_2 _ _) (tuple_mulW0 l its.toArray n dd sl k t c0 c1 c2) ⟨ho, ?_⟩⟩)
    refine ⟨.ref s.heap.objs.size, _, I.laid (t' := s.toks) (o := .tup []) (fun b ob q => Heap.get?_push_of_some _ q) (Nat.le_refl _) ?_, rfl, q0 (by omega) _ (I.hok.fresh (Nat.le_refl _))⟩
    exact ⟨Nat.zero_le _, [], .nil, IsTup.new _ _⟩
end
end SV
set_option linter.all false
set_option Elab.async false
set_option maxRecDepth 100000
set_option maxHeartbeats 4000000
namespace SV
open PySem PySem.Spec PyProof.Rows L2
section
variable {g : Cfg} {H H' : Hp} {ι ι' : Io} {m : List MO} {p : Addr} {o : HO}
theorem Rel.ne (r : Rel g H ι m) {a : Addr} (h : some a ∈ ι) : H a ≠ none := by
  obtain ⟨k, hk⟩ := List.getElem?_of_mem h
  have hlt : k < m.length := by rw [← r.len]; exact (List.getElem?_eq_some_iff.mp hk).1
  rcases r.at_ k _ (List.getElem?_eq_getElem hlt) with ⟨_, e⟩ | ⟨b, e, md⟩
  · rw [hk] at e; cases e
  · rw [hk] at e
    cases e
    generalize m[k] = mo at md
    cases mo with
    | lst xs => obtain ⟨vs, q, _⟩ := md; rw [q]; exact fun z => nomatch z
    | dct es =>
      rcases md with ⟨kvs, q, _⟩ | ⟨xs, q, _⟩
      · rw [q]; exact fun z => nomatch z
      · rw [q]; exact fun z => nomatch z
    | obj c fs => obtain ⟨dx, fs', q, _⟩ := md; rw [q]; exact fun z => nomatch z
    | dead => exact md.elim
theorem Rel.nin (r : Rel g H ι m) {a : Addr} (h : H a = none) : some a ∉ ι := fun z => r.ne z h
theorem Le.new (hp : H p = none) : Le H ι (upd H p o) ι := ⟨fun a u h n => ⟨by rw [upd_ne (ne_of_none h hp)]; exact h, n⟩, fun a h => by
    by_cases e : a = p
    · subst e; exact absurd hp h
    · rw [upd_ne e]; exact h, Nat.le_refl _, fun _ _ => .inl rfl⟩
theorem DctAt.le {a : Addr} {es : List D} (l : Le H ι H' ι') (hk : ∀ u, H a = some u → H' a = some u) (h : DctAt g H ι a es) : DctAt g H' ι' a es := by
  rcases h with ⟨kvs, q, r⟩ | ⟨xs, q, ne, r⟩
  · exact .inl ⟨kvs, hk _ q, r.le l⟩
  · exact .inr ⟨xs, hk _ q, ne, r.le l⟩
theorem MDen.le {a : Addr} {mo : MO} (l : Le H ι H' ι') (hk : ∀ u, H a = some u → H' a = some u) (h : MDen g H ι a mo) : MDen g H' ι' a mo := by
  cases mo with
  | lst xs => obtain ⟨vs, q, r⟩ := h; exact ⟨vs, hk _ q, r.le l⟩
  | dct es => exact DctAt.le l hk h
  | obj c fs => obtain ⟨dx, fs', q, r, z⟩ := h; exact ⟨dx, fs', hk _ q, r.le l, z⟩
  | dead => exact h
theorem Rel.ext (r : Rel g H ι m) (l : Le H ι H' ι) (hk : ∀ a u, some a ∈ ι → H a = some u → H' a = some u) : Rel g H' ι m :=
  ⟨r.len, fun k mo e => by
    rcases r.at_ k mo e with q | ⟨a, q, md⟩
    · exact .inl q
    · exact .inr ⟨a, q, md.le l (fun u => hk a u (List.mem_of_getElem? q))⟩, r.inj⟩
theorem Rel.new (r : Rel g H ι m) (hp : H p = none) : Rel g (upd H p o) ι m := r.ext (Le.new hp) fun a u _ h => by rw [upd_ne (ne_of_none h hp)]; exact h
theorem SR.new {σ : L2.St} {s : S} (r : SR g H ι σ s) (hp : H p = none) : SR g (upd H p o) ι σ s := ⟨r.1.le (Le.new hp), r.2.new hp⟩
theorem Den.newT {xs : List D} {vs : List V} (r : Rel g H ι m) (hp : H p = none) (d : DenL g H ι xs vs) : Den g (upd H p (.tup vs)) ι (.tup xs) (.ref p) := by
  simp only [Den]
  exact ⟨p, vs, rfl, ⟨upd_same, r.nin hp⟩, d.le (Le.new hp)⟩
theorem Den.newL {xs : List D} {vs : List V} (r : Rel g H ι m) (hp : H p = none) (d : DenL g H ι xs vs) : Den g (upd H p (.lst vs)) ι (.lst xs) (.ref p) := by
  simp only [Den]
  exact ⟨p, vs, rfl, ⟨upd_same, r.nin hp⟩, d.le (Le.new hp)⟩
theorem Nw.newL {fr : Bool} {xs : List D} {vs : List V} (hp : H p = none) (r : Rel g H ι m) (d : DenL g H ι xs vs) : Nw fr g (fun H1 ι1 => Le H ι H1 ι1 ∧ Rel g H1 ι1 m) (upd H p (.lst vs)) ι (.lst xs) (.ref p) :=
  fun _ => ⟨fun ys e => by cases e; exact ⟨H, p, vs, rfl, hp, rfl, ⟨Le.refl _ _, r⟩, d⟩, fun ys e => nomatch e⟩
/-- what a list (of the store or frozen) is -/
theorem Den.seq {d : D} {v : V} (r : Rel g H ι m) (h : Den g H ι d v) {xs : List D} (e : seqOf m d = some xs) :
    ∃ a vs, v = .ref a ∧ (H a = some (.lst vs) ∨ H a = some (.tup vs)) ∧ DenL g H ι xs vs := by
  cases d with
  | tup ys => simp only [Den] at h; obtain ⟨a, vs, rfl, ⟨ha, _⟩, q⟩ := h; simp only [seqOf, Option.some.injEq] at e; subst e; exact ⟨a, vs, rfl, .inr ha, q⟩
  | lst ys => simp only [Den] at h; obtain ⟨a, vs, rfl, ⟨ha, _⟩, q⟩ := h; simp only [seqOf, Option.some.injEq] at e; subst e; exact ⟨a, vs, rfl, .inl ha, q⟩
  | ref k =>
    simp only [seqOf] at e
    cases hm : m[k]? with
    | none => rw [hm] at e; cases e
    | some mo =>
      rw [hm] at e
      cases mo with
      | lst ys =>
        simp only [Option.some.injEq] at e
        subst e
        rcases r.at_ k _ hm with ⟨z, _⟩ | ⟨a, q, vs, ha, dn⟩
        · cases z
        · simp only [Den] at h
          exact ⟨a, vs, h.2 a q, .inl ha, dn⟩
      | dct _ => cases e
      | obj _ _ => cases e
      | dead => cases e
  | non => cases e
  | bl _ => cases e
  | int _ => cases e
  | str _ => cases e
  | dct _ => cases e
  | ins _ _ => cases e
  | clo _ => cases e
  | cls _ => cases e
  | scr _ => cases e
/-- .. a list alone -/
theorem Den.list {d : D} {v : V} (r : Rel g H ι m) (h : Den g H ι d v) {xs : List D} (e : rslv m d = .lst xs) :
    ∃ a vs, v = .ref a ∧ H a = some (.lst vs) ∧ DenL g H ι xs vs := by
  cases d with
  | lst ys => simp only [Den] at h; obtain ⟨a, vs, rfl, ⟨ha, _⟩, q⟩ := h; simp only [rslv, D.lst.injEq] at e; subst e; exact ⟨a, vs, rfl, ha, q⟩
  | ref k =>
    simp only [rslv] at e
    cases hm : m[k]? with
    | none => rw [hm] at e; cases e
    | some mo =>
      rw [hm] at e
      cases mo with
      | lst ys =>
        simp only [D.lst.injEq] at e
        subst e
        rcases r.at_ k _ hm with ⟨z, _⟩ | ⟨a, q, vs, ha, dn⟩
        · cases z
        · simp only [Den] at h
          exact ⟨a, vs, h.2 a q, ha, dn⟩
      | dct _ => cases e
      | obj _ _ => cases e
      | dead => cases e
  | tup _ => cases e
  | non => cases e
  | bl _ => cases e
  | int _ => cases e
  | str _ => cases e
  | dct _ => cases e
  | ins _ _ => cases e
  | clo _ => cases e
  | cls _ => cases e
  | scr _ => cases e
theorem Den.tuple {v : V} {xs : List D} (h : Den g H ι (.tup xs) v) : ∃ a vs, v = .ref a ∧ H a = some (.tup vs) ∧ DenL g H ι xs vs := by
  simp only [Den] at h
  obtain ⟨a, vs, rfl, ⟨ha, _⟩, q⟩ := h
  exact ⟨a, vs, rfl, ha, q⟩
end
theorem gd_ok {b : Bool} {α : Type} {f : Unit → Out α} {z : α} (h : (gd b >>= f) = .ok z) : b = true ∧ f () = .ok z := by
  cases b
  · cases h
  · exact ⟨rfl, h⟩
theorem calm_bind {α : Type} {o : Option α} {β : Type} {f : α → Out β} (h : ∀ a c d s, f a ≠ .exc c d s) : ∀ c d s, (opt o >>= f) ≠ .exc c d s := by
  intro c d s
  cases o with
  | none => exact fun z => nomatch z
  | some a => exact h a c d s
theorem calm_gd {b : Bool} {β : Type} {f : Unit → Out β} (h : ∀ c d s, f () ≠ .exc c d s) : ∀ c d s, (gd b >>= f) ≠ .exc c d s := by
  intro c d s
  cases b with
  | false => exact fun z => nomatch z
  | true => exact h c d s
theorem opt_ok {α β : Type} {o : Option α} {f : α → Out β} {z : β} (h : (opt o >>= f) = .ok z) : ∃ a, o = some a ∧ f a = .ok z := by
  cases o with
  | none => cases h
  | some a => exact ⟨a, rfl, h⟩
/-- the rule of every operator that SV knows -/
def rBin (K : PySem.W.Frag) : Operator → R2
  | .Add => fun x y H Q => (rI0 (fun i j => .int (i + j)) x y H Q) ∨ ((∃ i j, x = .str i ∧ y = .str j ∧ i.length + j.length ≤ sizeLine ∧ Q (.str (i ++ j)) H) ∨ (rCat x y H Q ∨ (rCatT K x y H Q ∨ (∃ a b ys, x = .ref a ∧ y = .ref b ∧ SqT K H a [] ∧ SqT K H b ys ∧ Q (.ref b) H))))
  | .Sub => rI0 fun i j => .int (i - j)
  | .Mult => fun x y H Q => (rI CMul (fun i j => .int (i * j)) x y H Q) ∨ (rRep x y H Q ∨ (rRepT K x y H Q ∨ rRepT1 K x y H Q))
  | .FloorDiv => rI CDivW fun i j => .int (i / j)
  | .Mod => rI (fun _ j => 0 < j) fun i j => .int (i % j)
  | .Pow => rI CPow fun i j => .int (i ^ j.toNat)
  | _ => fun _ _ _ _ => False
theorem opr_never {X : Cx} {f : Value → Value → Sem Value} : OpR X f (fun _ _ _ _ => False) := fun _ _ _ _ _ _ _ _ _ _ _ _ h => h.elim
theorem op_bin {X : Cx} : ∀ op : Operator, OpR X (binaryOp op) (rBin X.K op)
  | .Add => OpR.or op_add (OpR.or op_add_str (OpR.or op_cat (OpR.or op_catT op_catT0)))
  | .Sub => op_sub
  | .Mult => OpR.or op_mul (OpR.or op_rep (OpR.or op_repT op_repT1))
  | .FloorDiv => op_fdivW
  | .Mod => op_mod
  | .Pow => op_pow
  | .MatMult => opr_never
  | .Div => opr_never
  | .LShift => opr_never
  | .RShift => opr_never
  | .BitOr => opr_never
  | .BitXor => opr_never
  | .BitAnd => opr_never
theorem binD_lists {m : List MO} {op : Operator} {x y : D} {z : D} (h : binD m op x y = .ok z) : True := trivial
end SV
set_option linter.all false
set_option Elab.async false
set_option maxRecDepth 100000
set_option maxHeartbeats 4000000
namespace SV
open PySem PySem.Spec PyProof.Rows L2
section
variable {g : Cfg} {H H' : Hp} {ι ι' : Io} {m : List MO}
theorem log_small {j : Int} (h0 : 0 < j) (h : j < 2 ^ 62) : j.natAbs.log2 < 9000 := by
  have h1 : j.natAbs < 2 ^ 62 := by omega
  have h2 : j.natAbs ≠ 0 := by omega
  have : j.natAbs.log2 < 62 := (Nat.log2_lt h2).mpr h1
  omega
theorem bin_ok (op : Operator) : Op2 g (rBin g.K op) true (fun m x y => binD m op x y) := by
  intro H ι m x y v u z Q r dx dy e k
  simp only [binD] at e
  split at e
  · -- ints
    cases e
    simp only [Den] at dx dy
    subst dx dy
    exact .inl ⟨_, _, rfl, rfl, k _ H ι (Le.refl _ _) r (by simp only [Den]) (Nw.flat (by intro a; constructor <;> (intro z; cases z)))⟩
  · obtain ⟨b, e⟩ := gd_ok e
    cases e
    simp only [Den] at dx dy
    subst dx dy
    rw [sizeL_eq] at b
    exact .inr (.inl ⟨_, _, rfl, rfl, of_decide_eq_true b, k _ H ι (Le.refl _ _) r (by simp only [Den]) (Nw.flat (by intro a; constructor <;> (intro z; cases z)))⟩)
  · obtain ⟨b, e⟩ := gd_ok e
    cases e
    rw [sizeL_eq] at b
    have hb := of_decide_eq_true b
    obtain ⟨a1, vs, rfl, ha, da⟩ := dx.tuple
    obtain ⟨a2, ws, rfl, hb2, db⟩ := dy.tuple
    rename_i xs ys
    by_cases hx : vs = []
    · subst hx
      have : xs = [] := by
        have := da.length
        exact List.eq_nil_of_length_eq_zero this
      subst this
      exact .inr (.inr (.inr (.inr ⟨a1, a2, ws, rfl, rfl, SqT.of ha, SqT.of hb2, k _ H ι (Le.refl _ _) r dy (Nw.flat (by intro a; constructor <;> (intro z; cases z)))⟩)))
    · refine .inr (.inr (.inr (.inl ⟨a1, a2, vs, ws, rfl, rfl, SqT.of ha, SqT.of hb2, hx, by rw [← da.length, ← db.length]; exact hb, fun hy => ?_, fun _ p hp => ?_⟩)))
      · subst hy
        have : ys = [] := List.eq_nil_of_length_eq_zero db.length
        subst this
        rw [List.append_nil] at k
        exact k _ H ι (Le.refl _ _) r dx (Nw.flat (by intro a; constructor <;> (intro z; cases z)))
      · exact k _ _ ι (Le.new hp) (r.new hp) (Den.newT r hp (da.append db)) (Nw.flat (by intro a; constructor <;> (intro z; cases z)))
  · -- lists
    split at e
    · rename_i xs ys e1 e2
      obtain ⟨b, e⟩ := gd_ok e
      cases e
      rw [sizeL_eq] at b
      have hb := of_decide_eq_true b
      obtain ⟨a1, vs, rfl, ha, da⟩ := dx.list r e1
      obtain ⟨a2, ws, rfl, hb2, db⟩ := dy.list r e2
      refine .inr (.inr (.inl ⟨a1, a2, vs, ws, rfl, rfl, ha, hb2, by rw [← da.length, ← db.length]; exact hb, fun p hp => ?_⟩))
      exact k _ _ ι (Le.new hp) (r.new hp) (Den.newL r hp (da.append db)) (Nw.newL hp r (da.append db))
    · cases e
  · cases e
    simp only [Den] at dx dy
    subst dx dy
    exact ⟨_, _, rfl, rfl, k _ H ι (Le.refl _ _) r (by simp only [Den]) (Nw.flat (by intro a; constructor <;> (intro z; cases z)))⟩
  · obtain ⟨b, e⟩ := gd_ok e
    cases e
    simp only [Den] at dx dy
    subst dx dy
    have hb := of_decide_eq_true b
    exact .inl ⟨_, _, rfl, rfl, hb, k _ H ι (Le.refl _ _) r (by simp only [Den]) (Nw.flat (by intro a; constructor <;> (intro z; cases z)))⟩
  · obtain ⟨b, e⟩ := gd_ok e
    cases e
    rename_i xs kk
    obtain ⟨h1, h2, h3, h4⟩ := of_decide_eq_true b
    obtain ⟨a1, vs, rfl, ha, da⟩ := dx.tuple
    simp only [Den] at dy
    subst dy
    have hne : vs ≠ [] := fun z => h1 (by subst z; exact List.eq_nil_of_length_eq_zero da.length)
    by_cases h5 : 2 ≤ kk
    · refine .inr (.inr (.inl ⟨a1, kk, vs, rfl, rfl, SqT.of ha, hne, h5, h4, by rw [← da.length]; exact h2, fun p hp => ?_⟩))
      exact k _ _ ι (Le.new hp) (r.new hp) (Den.newT r hp (da.rep _)) (Nw.flat (by intro a; constructor <;> (intro z; cases z)))
    · refine .inr (.inr (.inr ⟨a1, kk, vs, rfl, rfl, SqT.of ha, hne, h3, by omega, fun e1 => ?_, fun e0 p hp => ?_⟩))
      · subst e1
        have e : (List.replicate (1 : Int).toNat xs).flatten = xs := by simp
        rw [e] at k
        exact k _ H ι (Le.refl _ _) r dx (Nw.flat (by intro a; constructor <;> (intro z; cases z)))
      · have e : (List.replicate kk.toNat xs).flatten = [] := by
          have : kk.toNat = 0 := by omega
          rw [this]
          rfl
        rw [e] at k
        exact k _ _ ι (Le.new hp) (r.new hp) (Den.newT r hp (by simp only [DenL])) (Nw.flat (by intro a; constructor <;> (intro z; cases z)))
  · split at e
    · rename_i xs e1
      obtain ⟨b, e⟩ := gd_ok e
      cases e
      rw [sizeL_eq] at b
      obtain ⟨h1, h2, h3⟩ := of_decide_eq_true b
      obtain ⟨a1, vs, rfl, ha, da⟩ := dx.list r e1
      simp only [Den] at dy
      subst dy
      refine .inr (.inl ⟨a1, _, vs, rfl, rfl, ha, by omega, by omega, by rw [← da.length]; exact h1, fun p hp => ?_⟩)
      exact k _ _ ι (Le.new hp) (r.new hp) (Den.newL r hp (da.rep _)) (Nw.newL hp r (da.rep _))
    · cases e
  · obtain ⟨b, e⟩ := gd_ok e
    cases e
    obtain ⟨h1, h2⟩ := of_decide_eq_true b
    simp only [Den] at dx dy
    subst dx dy
    exact ⟨_, _, rfl, rfl, ⟨h1, log_small h1 h2⟩, k _ H ι (Le.refl _ _) r (by simp only [Den]) (Nw.flat (by intro a; constructor <;> (intro z; cases z)))⟩
  · obtain ⟨b, e⟩ := gd_ok e
    cases e
    simp only [Den] at dx dy
    subst dx dy
    have hb := of_decide_eq_true b
    exact ⟨_, _, rfl, rfl, hb, k _ H ι (Le.refl _ _) r (by simp only [Den]) (Nw.flat (by intro a; constructor <;> (intro z; cases z)))⟩
  · obtain ⟨b, e⟩ := gd_ok e
    cases e
    simp only [Den] at dx dy
    subst dx dy
    have hb := of_decide_eq_true b
    exact ⟨_, _, rfl, rfl, hb, k _ H ι (Le.refl _ _) r (by simp only [Den]) (Nw.flat (by intro a; constructor <;> (intro z; cases z)))⟩
  · cases e
theorem bin_calm (op : Operator) : Calm2 (fun m x y => binD m op x y) := by
  intro m x y c d s
  simp only [binD]
  split
  · intro z; cases z
  · exact calm_gd (fun _ _ _ z => by cases z) c d s
  · exact calm_gd (fun _ _ _ z => by cases z) c d s
  · split
    · exact calm_gd (fun _ _ _ z => by cases z) c d s
    · intro z; cases z
  · intro z; cases z
  · exact calm_gd (fun _ _ _ z => by cases z) c d s
  · exact calm_gd (fun _ _ _ z => by cases z) c d s
  · split
    · exact calm_gd (fun _ _ _ z => by cases z) c d s
    · intro z; cases z
  · exact calm_gd (fun _ _ _ z => by cases z) c d s
  · exact calm_gd (fun _ _ _ z => by cases z) c d s
  · exact calm_gd (fun _ _ _ z => by cases z) c d s
  · intro z; cases z
end
end SV
set_option linter.all false
set_option Elab.async false
set_option maxRecDepth 100000
set_option maxHeartbeats 4000000
namespace SV
open PySem PySem.Spec PyProof.Rows L2
mutual
def pd : D → PyData
  | .bl b => .bool b
  | .int i => .int i
  | .str s => .str s
  | .tup xs => .tuple (pds xs)
  | .lst xs => .list (pds xs)
  | _ => .none
def pds : List D → List PyData
  | [] => []
  | x :: r => pd x :: pds r
end
theorem pds_length : ∀ xs : List D, (pds xs).length = xs.length
  | [] => rfl
  | x :: r => by simp [pds, pds_length r]
theorem pds_get : ∀ (xs : List D) (i : Nat), (pds xs)[i]? = (xs[i]?).map pd
  | [], i => by simp [pds]
  | x :: r, 0 => by simp [pds]
  | x :: r, i + 1 => by simp [pds, pds_get r i]
section
variable {g : Cfg} {H H' : Hp} {ι ι' : Io} {m : List MO}
theorem SqT.of' {K : PySem.W.Frag} {a : Addr} {xs : List V} (h : H a = some (.tup xs)) : SqT K H a xs := SqT.of h
theorem okD_dp : ∀ (n : Nat) (d : D) (v : V), okD n d = true → Den g H ι d v → Dp g.K H v (pd d) ∧ (pd d).canLay0 = true ∧ (pd d).depth ≤ n := by
  intro n
  induction n with
  | zero =>
    intro d v h e
    cases d <;> simp only [okD, Bool.false_eq_true] at h <;> simp only [Den] at e
    · subst e; exact ⟨.non, rfl, by simp [pd, PyData.depth]⟩
    · subst e; exact ⟨.bl _, rfl, by simp [pd, PyData.depth]⟩
    · subst e; exact ⟨.int _, rfl, by simp [pd, PyData.depth]⟩
    · subst e; exact ⟨.str _, by simp only [pd, PyData.canLay0]; exact h, by simp [pd, PyData.depth]⟩
  | succ n ih =>
    have hall : ∀ (xs : List D) (vs : List V), xs.all (okD n) = true → DenL g H ι xs vs → DpAll g.K H vs (pds xs) ∧ PyData.canLayAll0 (pds xs) = true ∧ PyData.depthAll (pds xs) ≤ n := by
      intro xs
      induction xs with
      | nil => intro vs _ e; simp only [DenL] at e; subst e; exact ⟨.nil, rfl, by simp [pds, PyData.depthAll]⟩
      | cons x r ir =>
        intro vs h e
        simp only [List.all_cons, Bool.and_eq_true] at h
        simp only [DenL] at e
        obtain ⟨v, t, rfl, a, b⟩ := e
        obtain ⟨a1, a2, a3⟩ := ih x v h.1 a
        obtain ⟨b1, b2, b3⟩ := ir t h.2 b
        refine ⟨.cons a1 b1, ?_, ?_⟩
        · simp only [pds, PyData.canLayAll0, a2, b2, Bool.and_self]
        · simp only [pds, PyData.depthAll]; omega
    intro d v h e
    cases d <;> simp only [okD, Bool.false_eq_true] at h
    · simp only [Den] at e; subst e; exact ⟨.non, rfl, by simp [pd, PyData.depth]⟩
    · simp only [Den] at e; subst e; exact ⟨.bl _, rfl, by simp [pd, PyData.depth]⟩
    · simp only [Den] at e; subst e; exact ⟨.int _, rfl, by simp [pd, PyData.depth]⟩
    · simp only [Den] at e; subst e; exact ⟨.str _, by simp only [pd, PyData.canLay0]; exact h, by simp [pd, PyData.depth]⟩
    · obtain ⟨a, vs, rfl, ha, dn⟩ := e.tuple
      obtain ⟨b1, b2, b3⟩ := hall _ vs h dn
      refine ⟨.tup (SqT.of ha) b1, by simpa only [pd, PyData.canLay0] using b2, by simp only [pd, PyData.depth]; omega⟩
    · simp only [Den] at e
      obtain ⟨a, vs, rfl, ⟨ha, _⟩, dn⟩ := e
      obtain ⟨b1, b2, b3⟩ := hall _ vs h dn
      refine ⟨.lst (SqL.of ha) b1, by simpa only [pd, PyData.canLay0] using b2, by simp only [pd, PyData.depth]; omega⟩
theorem okD_dps (n : Nat) : ∀ (xs : List D) (vs : List V), xs.all (okD n) = true → DenL g H ι xs vs → DpAll g.K H vs (pds xs) ∧ PyData.canLayAll0 (pds xs) = true ∧ PyData.depthAll (pds xs) ≤ n
  | [], vs, _, e => by simp only [DenL] at e; subst e; exact ⟨.nil, rfl, by simp [pds, PyData.depthAll]⟩
  | x :: r, vs, h, e => by
    simp only [List.all_cons, Bool.and_eq_true] at h
    simp only [DenL] at e
    obtain ⟨v, t, rfl, a, b⟩ := e
    obtain ⟨a1, a2, a3⟩ := okD_dp n x v h.1 a
    obtain ⟨b1, b2, b3⟩ := okD_dps n r t h.2 b
    refine ⟨.cons a1 b1, ?_, ?_⟩
    · simp only [pds, PyData.canLayAll0, a2, b2, Bool.and_self]
    · simp only [pds, PyData.depthAll]; omega
/-- .. at the top, perhaps of the store -/
theorem okD_top {n : Nat} (r : Rel g H ι m) {d : D} {v : V} (h : okD n (rslv m d) = true) (e : Den g H ι d v) : Dp g.K H v (pd (rslv m d)) ∧ (pd (rslv m d)).canLay0 = true ∧ (pd (rslv m d)).depth ≤ n := by
  cases d with
  | ref k =>
    cases hr : rslv m (.ref k) with
    | lst xs =>
      rw [hr] at h
      cases n with
      | zero => simp [okD] at h
      | succ n =>
        simp only [okD] at h
        obtain ⟨a, vs, rfl, ha, dn⟩ := e.list r hr
        obtain ⟨b1, b2, b3⟩ := okD_dps n _ vs h dn
        refine ⟨.lst (SqL.of ha) b1, by simpa only [pd, PyData.canLay0] using b2, by simp only [pd, PyData.depth]; omega⟩
    | ref j => rw [hr] at h; cases n <;> simp [okD] at h
    | dct es => rw [hr] at h; cases n <;> simp [okD] at h
    | non => simp only [rslv] at hr; split at hr <;> cases hr
    | bl _ => simp only [rslv] at hr; split at hr <;> cases hr
    | int _ => simp only [rslv] at hr; split at hr <;> cases hr
    | str _ => simp only [rslv] at hr; split at hr <;> cases hr
    | tup _ => simp only [rslv] at hr; split at hr <;> cases hr
    | ins _ _ => simp only [rslv] at hr; split at hr <;> cases hr
    | clo _ => simp only [rslv] at hr; split at hr <;> cases hr
    | cls _ => simp only [rslv] at hr; split at hr <;> cases hr
    | scr _ => simp only [rslv] at hr; split at hr <;> cases hr
  | non => exact okD_dp n _ v h e
  | bl _ => exact okD_dp n _ v h e
  | int _ => exact okD_dp n _ v h e
  | str _ => exact okD_dp n _ v h e
  | tup _ => exact okD_dp n _ v h e
  | lst _ => exact okD_dp n _ v h e
  | dct _ => exact okD_dp n _ v h e
  | ins _ _ => exact okD_dp n _ v h e
  | clo _ => exact okD_dp n _ v h e
  | cls _ => exact okD_dp n _ v h e
  | scr _ => exact okD_dp n _ v h e
end
mutual
theorem eqB_pd : ∀ (n k : Nat) (x y : D), okD n x = true → okD k y = true → PyData.eqv (pd x) (pd y) = eqB x y
  | 0, k, x, y, hx, hy => by
    cases x <;> simp only [okD, Bool.false_eq_true] at hx <;> cases y <;> (first | rfl | (cases k <;> simp only [okD, Bool.false_eq_true] at hy <;> rfl))
  | n + 1, 0, x, y, hx, hy => by
    cases y <;> simp only [okD, Bool.false_eq_true] at hy <;> cases x <;> simp only [okD, Bool.false_eq_true] at hx <;> rfl
  | n + 1, k + 1, x, y, hx, hy => by
    cases x <;> simp only [okD, Bool.false_eq_true] at hx <;> cases y <;> simp only [okD, Bool.false_eq_true] at hy <;> (try rfl)
    · simp only [pd, PyData.eqv, eqB]; exact eqBs_pd n k _ _ hx hy
    · simp only [pd, PyData.eqv, eqB]; exact eqBs_pd n k _ _ hx hy
theorem eqBs_pd : ∀ (n k : Nat) (xs ys : List D), xs.all (okD n) = true → ys.all (okD k) = true → PyData.eqvAll (pds xs) (pds ys) = eqBs xs ys
  | n, k, [], [], _, _ => by simp [pds, PyData.eqvAll, eqBs]
  | n, k, [], _ :: _, _, _ => by simp [pds, PyData.eqvAll, eqBs]
  | n, k, _ :: _, [], _, _ => by simp [pds, PyData.eqvAll, eqBs]
  | n, k, x :: r, y :: t, hx, hy => by
    simp only [List.all_cons, Bool.and_eq_true] at hx hy
    simp only [pds, PyData.eqvAll, eqBs]
    rw [eqB_pd n k x y hx.1 hy.1, eqBs_pd n k r t hx.2 hy.2]
end
end SV
namespace SV
open PySem PySem.Spec PyProof.Rows L2
/-- a two-place operation as SV reckons it -/
def rS (g : Cfg) (fr : Bool) (f : List MO → D → D → Out D) : R2 := fun v u H Q => ∃ ι m x y z, Rel g H ι m ∧ Den g H ι x v ∧ Den g H ι y u ∧ f m x y = .ok z ∧
  ∀ w H' ι', Le H ι H' ι' → Rel g H' ι' m → Den g H' ι' z w → Nw fr g (fun H1 ι1 => Le H ι H1 ι1 ∧ Rel g H1 ι1 m) H' ι' z w → Q w H'
theorem OpR.imp {X : Cx} {f : Value → Value → Sem Value} {r r' : R2} (h : OpR X f r) (k : ∀ x y H Q, r' x y H Q → r x y H Q) : OpR X f r' :=
  fun pins s σ H x y v u Q I rx ry q => h pins s σ H x y v u Q I rx ry (k x y H Q q)
theorem op2_rS {g : Cfg} {fr : Bool} {f : List MO → D → D → Out D} : Op2 g (rS g fr f) fr f := fun H ι m x y v u z Q r dx dy e k => ⟨ι, m, x, y, z, r, dx, dy, e, k⟩
theorem rS_of {X : Cx} {g : Cfg} {fr : Bool} {f : List MO → D → D → Out D} {r : R2} {h : Value → Value → Sem Value} (o : OpR X h r) (k : Op2 g r fr f) : OpR X h (rS g fr f) :=
  OpR.imp o fun x y H Q q => by
    obtain ⟨ι, m, a, b, z, hr, da, db, e, q⟩ := q
    exact k H ι m a b x y z Q hr da db e q
theorem rS_or {X : Cx} {g : Cfg} {fr : Bool} {f f1 f2 : List MO → D → D → Out D} {h : Value → Value → Sem Value} (o1 : OpR X h (rS g fr f1)) (o2 : OpR X h (rS g fr f2))
    (k : ∀ m x y z, f m x y = .ok z → f1 m x y = .ok z ∨ f2 m x y = .ok z) : OpR X h (rS g fr f) :=
  OpR.imp (OpR.or o1 o2) fun x y H Q q => by
    obtain ⟨ι, m, a, b, z, hr, da, db, e, q⟩ := q
    rcases k m a b z e with e | e
    · exact .inl ⟨ι, m, a, b, z, hr, da, db, e, q⟩
    · exact .inr ⟨ι, m, a, b, z, hr, da, db, e, q⟩
section
variable {X : Cx} {g : Cfg}
theorem bin_S (hK : g.K = X.K) (op : Operator) : OpR X (binaryOp op) (rS g true fun m x y => binD m op x y) := rS_of (op_bin op) (by have := @bin_ok g op; rw [hK] at this; exact this)
theorem sh_of {d : PyData} (a : d.canLay0 = true) (b : d.depth ≤ 60) : SeqAt.shaped d = true := by
  unfold SeqAt.shaped
  rw [a, Bool.true_and]
  exact decide_eq_true (by omega)
theorem qb {g : Cfg} {H : Hp} {ι : Io} {m : List MO} {b : Bool} {Q : VK} {z : D} (r : Rel g H ι m) (h : ∀ w H' ι', Le H ι H' ι' → Rel g H' ι' m → Den g H' ι' z w → Nw false g (fun H1 ι1 => Le H ι H1 ι1 ∧ Rel g H1 ι1 m) H' ι' z w → Q w H') (e : z = .bl b) : Q (.bl b) H :=
  h _ _ _ (Le.refl _ _) r (by subst e; simp only [Den]) Nw.no
theorem qi {g : Cfg} {H : Hp} {ι : Io} {m : List MO} {b : Int} {Q : VK} {z : D} {fr : Bool} (r : Rel g H ι m) (h : ∀ w H' ι', Le H ι H' ι' → Rel g H' ι' m → Den g H' ι' z w → Nw fr g (fun H1 ι1 => Le H ι H1 ι1 ∧ Rel g H1 ι1 m) H' ι' z w → Q w H') (e : z = .int b) : Q (.int b) H :=
  h _ _ _ (Le.refl _ _) r (by subst e; simp only [Den]) (Nw.flat (by intro a; subst e; constructor <;> (intro z; cases z)))
theorem qs {g : Cfg} {H : Hp} {ι : Io} {m : List MO} {b : Str} {Q : VK} {z : D} {fr : Bool} (r : Rel g H ι m) (h : ∀ w H' ι', Le H ι H' ι' → Rel g H' ι' m → Den g H' ι' z w → Nw fr g (fun H1 ι1 => Le H ι H1 ι1 ∧ Rel g H1 ι1 m) H' ι' z w → Q w H') (e : z = .str b) : Q (.str b) H :=
  h _ _ _ (Le.refl _ _) r (by subst e; simp only [Den]) (Nw.flat (by intro a; subst e; constructor <;> (intro z; cases z)))
theorem opt_bl {o : Option Bool} {z : D} {f : Bool → Bool} (h : (do .ok (.bl (f (← opt o))) : Out D) = .ok z) : ∃ b, o = some b ∧ z = .bl (f b) := by
  cases o with
  | none => cases h
  | some b => cases h; exact ⟨b, rfl, rfl⟩
theorem rslv_str {m : List MO} {x : D} {a : Str} (h : rslv m x = .str a) : x = .str a := by
  cases x <;> simp only [rslv] at h <;> (try (first | exact h | cases h))
  split at h <;> cases h
theorem eqD_data {x y : D} {b : Bool} (h : eqD x y = some b) : (∃ s t, x = .str s ∧ y = .str t ∧ b = (s == t)) ∨ (okD 60 x = true ∧ okD 60 y = true ∧ b = eqB x y) := by
  unfold eqD at h
  split at h
  · simp only [Option.some.injEq] at h; exact .inl ⟨_, _, rfl, rfl, h.symm⟩
  · split at h
    · rename_i e
      simp only [Bool.and_eq_true] at e
      simp only [Option.some.injEq] at h
      exact .inr ⟨e.1, e.2, h.symm⟩
    · cases h
/-- == of data -/
def eqSd (m : List MO) (x y : D) : Out D := do .ok (.bl (← opt (eqD (rslv m x) (rslv m y))))
def neSd (m : List MO) (x y : D) : Out D := do .ok (.bl (!(← opt (eqD (rslv m x) (rslv m y)))))
theorem eq_Sd (hK : g.K = X.K) (hu : X.A.units + 64 < cLine) : OpR X (compareOp .Eq) (rS g false eqSd) :=
  rS_of (OpR.or op_eq (op_eqD hu)) fun H ι m x y v u z Q r dx dy e k => by
    obtain ⟨b, e, ez⟩ := opt_bl (f := fun b => b) e
    rcases eqD_data e with ⟨s, t, e1, e2, e3⟩ | ⟨o1, o2, e3⟩
    · rw [rslv_str e1] at dx
      rw [rslv_str e2] at dy
      simp only [Den] at dx dy
      subst dx dy
      refine .inl ⟨rfl, ?_⟩
      rw [dec_str, ← e3]
      exact qb r k ez
    · obtain ⟨p1, p2, p3⟩ := okD_top r o1 dx
      obtain ⟨q1, q2, q3⟩ := okD_top r o2 dy
      refine .inr ⟨_, _, hK ▸ p1, hK ▸ q1, sh_of p2 p3, sh_of q2 q3, ?_⟩
      rw [eqB_pd _ _ _ _ o1 o2, ← e3]
      exact qb r k ez
theorem ne_Sd (hK : g.K = X.K) (hu : X.A.units + 64 < cLine) : OpR X (compareOp .NotEq) (rS g false neSd) :=
  rS_of (OpR.or op_ne (op_neD hu)) fun H ι m x y v u z Q r dx dy e k => by
    obtain ⟨b, e, ez⟩ := opt_bl (f := fun b => !b) e
    rcases eqD_data e with ⟨s, t, e1, e2, e3⟩ | ⟨o1, o2, e3⟩
    · rw [rslv_str e1] at dx
      rw [rslv_str e2] at dy
      simp only [Den] at dx dy
      subst dx dy
      refine .inl ⟨rfl, ?_⟩
      rw [dec_str, ← e3]
      exact qb r k ez
    · obtain ⟨p1, p2, p3⟩ := okD_top r o1 dx
      obtain ⟨q1, q2, q3⟩ := okD_top r o2 dy
      refine .inr ⟨_, _, hK ▸ p1, hK ▸ q1, sh_of p2 p3, sh_of q2 q3, ?_⟩
      rw [eqB_pd _ _ _ _ o1 o2, ← e3]
      exact qb r k ez
theorem ltS_cases {x y : D} {b : Bool} (h : ltS x y = some b) : (∃ i j, x = .int i ∧ y = .int j ∧ b = decide (i < j)) ∨ (∃ i j, x = .str i ∧ y = .str j ∧ b = decide (i.cps.toList < j.cps.toList)) := by
  unfold ltS at h
  split at h
  · simp only [Option.some.injEq] at h; exact .inl ⟨_, _, rfl, rfl, h.symm⟩
  · simp only [Option.some.injEq] at h; exact .inr ⟨_, _, rfl, rfl, h.symm⟩
  · cases h
theorem lt_S : OpR X (compareOp .Lt) (rS g false fun m x y => cmpD m .Lt x y) :=
  rS_of (OpR.or op_lt op_lt_str) fun H ι m x y v u z Q r dx dy e k => by
    obtain ⟨b, e, ez⟩ := opt_bl (f := fun b => b) (by simpa only [cmpD] using e)
    rcases ltS_cases e with ⟨i, j, rfl, rfl, e3⟩ | ⟨i, j, rfl, rfl, e3⟩ <;> simp only [Den] at dx dy <;> subst dx dy
    · exact .inl ⟨_, _, rfl, rfl, by show Q (.bl (decide _)) H; rw [← e3]; exact qb r k ez⟩
    · exact .inr ⟨_, _, rfl, rfl, e3 ▸ qb r k ez⟩
theorem gt_S : OpR X (compareOp .Gt) (rS g false fun m x y => cmpD m .Gt x y) :=
  rS_of (OpR.or op_gt op_gt_str) fun H ι m x y v u z Q r dx dy e k => by
    obtain ⟨b, e, ez⟩ := opt_bl (f := fun b => b) (by simpa only [cmpD] using e)
    rcases ltS_cases e with ⟨i, j, rfl, rfl, e3⟩ | ⟨i, j, rfl, rfl, e3⟩ <;> simp only [Den] at dx dy <;> subst dx dy
    · exact .inl ⟨_, _, rfl, rfl, by show Q (.bl (decide _)) H; rw [← e3]; exact qb r k ez⟩
    · exact .inr ⟨_, _, rfl, rfl, e3 ▸ qb r k ez⟩
theorem le_S : OpR X (compareOp .LtE) (rS g false fun m x y => cmpD m .LtE x y) :=
  rS_of (OpR.or op_le op_le_str) fun H ι m x y v u z Q r dx dy e k => by
    obtain ⟨b, e, ez⟩ := opt_bl (f := fun b => !b) (by simpa only [cmpD] using e)
    rcases ltS_cases e with ⟨i, j, rfl, rfl, e3⟩ | ⟨i, j, rfl, rfl, e3⟩ <;> simp only [Den] at dx dy <;> subst dx dy
    · refine .inl ⟨_, _, rfl, rfl, ?_⟩
      have : (decide (j ≤ i)) = !b := by
        rw [e3]
        by_cases h : i < j
        · rw [decide_eq_true h, decide_eq_false (by omega)]; rfl
        · rw [decide_eq_false h, decide_eq_true (by omega)]; rfl
      show Q (.bl (decide (j ≤ i))) H
      rw [this]
      exact qb r k ez
    · exact .inr ⟨_, _, rfl, rfl, e3 ▸ qb r k ez⟩
theorem ge_S : OpR X (compareOp .GtE) (rS g false fun m x y => cmpD m .GtE x y) :=
  rS_of (OpR.or op_ge op_ge_str) fun H ι m x y v u z Q r dx dy e k => by
    obtain ⟨b, e, ez⟩ := opt_bl (f := fun b => !b) (by simpa only [cmpD] using e)
    rcases ltS_cases e with ⟨i, j, rfl, rfl, e3⟩ | ⟨i, j, rfl, rfl, e3⟩ <;> simp only [Den] at dx dy <;> subst dx dy
    · refine .inl ⟨_, _, rfl, rfl, ?_⟩
      have : (decide (j ≤ i)) = !b := by
        rw [e3]
        by_cases h : i < j
        · rw [decide_eq_true h, decide_eq_false (by omega)]; rfl
        · rw [decide_eq_false h, decide_eq_true (by omega)]; rfl
      show Q (.bl (decide (j ≤ i))) H
      rw [this]
      exact qb r k ez
    · exact .inr ⟨_, _, rfl, rfl, e3 ▸ qb r k ez⟩
theorem nonD_ok {H : Hp} {ι : Io} {m : List MO} {x : D} {v : V} {b : Bool} (r : Rel g H ι m) (dx : Den g H ι x v) (e : nonD m x = some b) : decide (v = .non) = b := by
  cases x with
  | ref k =>
    simp only [nonD] at e
    have key : ∀ mo, m[k]? = some mo → mo ≠ .dead → ∃ a, v = .ref a := fun mo h hd => by
      rcases r.at_ k mo h with ⟨z, _⟩ | ⟨a, q, _⟩
      · exact absurd z hd
      · simp only [Den] at dx
        exact ⟨a, dx.2 a q⟩
    split at e
    · rename_i xs h; obtain ⟨a, rfl⟩ := key _ h (by intro z; cases z); simp only [Option.some.injEq] at e; subst e; exact decide_eq_false (fun z => nomatch z)
    · rename_i xs h; obtain ⟨a, rfl⟩ := key _ h (by intro z; cases z); simp only [Option.some.injEq] at e; subst e; exact decide_eq_false (fun z => nomatch z)
    · rename_i c fs h; obtain ⟨a, rfl⟩ := key _ h (by intro z; cases z); simp only [Option.some.injEq] at e; subst e; exact decide_eq_false (fun z => nomatch z)
    · cases e
  | non => simp only [Den] at dx; subst dx; simp only [nonD, Option.some.injEq] at e; subst e; rfl
  | clo _ => simp only [nonD] at e; cases e
  | bl _ => simp only [Den] at dx; subst dx; simp only [nonD, Option.some.injEq] at e; subst e; exact decide_eq_false (fun z => nomatch z)
  | int _ => simp only [Den] at dx; subst dx; simp only [nonD, Option.some.injEq] at e; subst e; exact decide_eq_false (fun z => nomatch z)
  | str _ => simp only [Den] at dx; subst dx; simp only [nonD, Option.some.injEq] at e; subst e; exact decide_eq_false (fun z => nomatch z)
  | cls _ => simp only [Den] at dx; subst dx; simp only [nonD, Option.some.injEq] at e; subst e; exact decide_eq_false (fun z => nomatch z)
  | tup _ => simp only [Den] at dx; obtain ⟨a, _, rfl, _⟩ := dx; simp only [nonD, Option.some.injEq] at e; subst e; exact decide_eq_false (fun z => nomatch z)
  | lst _ => simp only [Den] at dx; obtain ⟨a, _, rfl, _⟩ := dx; simp only [nonD, Option.some.injEq] at e; subst e; exact decide_eq_false (fun z => nomatch z)
  | dct _ => simp only [Den] at dx; obtain ⟨a, rfl, _⟩ := dx; simp only [nonD, Option.some.injEq] at e; subst e; exact decide_eq_false (fun z => nomatch z)
  | ins _ _ => simp only [Den] at dx; obtain ⟨a, _, _, _, rfl, _⟩ := dx; simp only [nonD, Option.some.injEq] at e; subst e; exact decide_eq_false (fun z => nomatch z)
  | scr _ => simp only [Den] at dx; obtain ⟨a, rfl, _⟩ := dx; simp only [nonD, Option.some.injEq] at e; subst e; exact decide_eq_false (fun z => nomatch z)
theorem is_S : OpR X (compareOp .Is) (rS g false fun m x y => cmpD m .Is x y) :=
  rS_of (OpR.or op_isN op_isBl) fun H ι m x y v u z Q r dx dy e k => by
    simp only [cmpD] at e
    split at e
    · obtain ⟨b, e, ez⟩ := opt_bl (f := fun b => b) e
      simp only [Den] at dy
      subst dy
      exact .inl ⟨rfl, by rw [nonD_ok r dx e]; exact qb r k ez⟩
    · split at e
      · cases e
        simp only [Den] at dx dy
        subst dx dy
        exact .inr ⟨_, _, rfl, rfl, qb r k rfl⟩
      · cases e
    · cases e
theorem isnot_S : OpR X (compareOp .IsNot) (rS g false fun m x y => cmpD m .IsNot x y) :=
  rS_of (OpR.or op_notN op_notBl) fun H ι m x y v u z Q r dx dy e k => by
    simp only [cmpD] at e
    split at e
    · obtain ⟨b, e, ez⟩ := opt_bl (f := fun b => !b) e
      simp only [Den] at dy
      subst dy
      exact .inl ⟨rfl, by rw [nonD_ok r dx e]; exact qb r k ez⟩
    · split at e
      · cases e
        simp only [Den] at dx dy
        subst dx dy
        exact .inr ⟨_, _, rfl, rfl, qb r k rfl⟩
      · cases e
    · cases e
end
end SV
namespace SV
open PySem PySem.Spec PyProof.Rows L2
mutual
theorem eqB_comm : ∀ (x y : D), eqB x y = eqB y x
  | .non, y => by cases y <;> rfl
  | .bl a, y => by cases y <;> simp [eqB, Bool.beq_comm]
  | .int a, y => by cases y <;> simp [eqB, BEq.comm]
  | .str a, y => by cases y <;> simp [eqB, BEq.comm]
  | .tup a, y => by cases y <;> simp [eqB]; exact eqBs_comm _ _
  | .lst a, y => by cases y <;> simp [eqB]; exact eqBs_comm _ _
  | .dct a, y => by cases y <;> simp [eqB]
  | .ins c a, y => by cases y <;> simp [eqB]
  | .ref a, y => by cases y <;> simp [eqB]
  | .clo a, y => by cases y <;> simp [eqB]
  | .cls a, y => by cases y <;> simp [eqB]
  | .scr a, y => by cases y <;> simp [eqB]
theorem eqBs_comm : ∀ (x y : List D), eqBs x y = eqBs y x
  | [], y => by cases y <;> simp [eqBs]
  | a :: x, y => by
    cases y with
    | nil => simp [eqBs]
    | cons b t => simp only [eqBs]; rw [eqB_comm a b, eqBs_comm x t]
end
theorem eqB_any (x : D) (hx : okD 60 x = true) : ∀ ys : List D, ys.all (okD 60) = true → ((pds ys).any fun y => PyData.eqv y (pd x)) = ys.any fun y => eqB y x
  | [], _ => rfl
  | y :: r, h => by
    simp only [List.all_cons, Bool.and_eq_true] at h
    simp only [pds, List.any_cons]
    rw [eqB_pd _ _ _ _ h.1 hx, eqB_any x hx r h.2]
section
variable {X : Cx} {g : Cfg}
/-- x in a list or tuple of data: by data -/
def rInS (K : PySem.W.Frag) (neg : Bool) : R2 := fun x y H Q => ∃ d ds, Dp K H x d ∧ (Dp K H y (.list ds) ∨ Dp K H y (.tuple ds)) ∧ d.canLay0 = true ∧ d.depth ≤ 60 ∧ PyData.canLayAll0 ds = true ∧
  Q (.bl (if neg then !(ds.any fun z => PyData.eqv z d) else ds.any fun z => PyData.eqv z d)) H
theorem op_inSq (hu : X.A.units + 65 < cLine) : OpR X (compareOp .In) (rInS X.K false) := by
  intro pins s σ H x y v u Q I rx ry h
  obtain ⟨d, ds, hd, he, c1, c2, c3, q⟩ := h
  obtain ⟨as, r1⟩ := Dp.reads I d x v hd rx
  have hr : X.A.units + 1 + min (PyData.depthAll ds) d.depth < cLine := by
    have : min (PyData.depthAll ds) d.depth ≤ 60 := Nat.le_trans (Nat.min_le_right _ _) c2
    omega
  rcases he with he | he
  · obtain ⟨bs, r2⟩ := Dp.reads I (.list ds) y u he ry
    exact SeqAt.in_list_reads r2 r1 c3 c1 hr ⟨.bl _, H, I, rfl, q⟩
  · obtain ⟨bs, r2⟩ := Dp.reads I (.tuple ds) y u he ry
    exact SeqAt.in_tuple_reads r2 r1 c3 c1 hr ⟨.bl _, H, I, rfl, q⟩
theorem op_notInSq (hu : X.A.units + 65 < cLine) : OpR X (compareOp .NotIn) (rInS X.K true) := by
  intro pins s σ H x y v u Q I rx ry h
  obtain ⟨d, ds, hd, he, c1, c2, c3, q⟩ := h
  obtain ⟨as, r1⟩ := Dp.reads I d x v hd rx
  have hr : X.A.units + 1 + min (PyData.depthAll ds) d.depth < cLine := by
    have : min (PyData.depthAll ds) d.depth ≤ 60 := Nat.le_trans (Nat.min_le_right _ _) c2
    omega
  rcases he with he | he
  · obtain ⟨bs, r2⟩ := Dp.reads I (.list ds) y u he ry
    exact SeqAt.notIn_list_reads r2 r1 c3 c1 hr ⟨.bl _, H, I, rfl, q⟩
  · obtain ⟨bs, r2⟩ := Dp.reads I (.tuple ds) y u he ry
    exact SeqAt.notIn_tuple_reads r2 r1 c3 c1 hr ⟨.bl _, H, I, rfl, q⟩
def inSq (m : List MO) (x y : D) : Out D := do .ok (.bl (← opt (inD (rslv m x) (← opt (seqOf m y)))))
def notInSq (m : List MO) (x y : D) : Out D := do .ok (.bl (!(← opt (inD (rslv m x) (← opt (seqOf m y))))))
def inSg (_ : List MO) (x y : D) : Out D := match x, y with
  | .str a, .str b => do gd (decide (a.length = 1)); .ok (.bl (match a.cps.toList with | [c] => b.cps.toList.contains c | _ => false))
  | _, _ => .bad
theorem inD_some {x : D} {ys : List D} {b : Bool} (h : inD x ys = some b) : okD 60 x = true ∧ ys.all (okD 60) = true ∧ b = ys.any fun y => eqB y x := by
  unfold inD at h
  split at h
  · rename_i e
    simp only [Bool.and_eq_true] at e
    simp only [Option.some.injEq] at h
    exact ⟨e.1, e.2, h.symm⟩
  · cases h
theorem in_data {H : Hp} {ι : Io} {m : List MO} {x y : D} {v u : V} {ys : List D} {b : Bool} (r : Rel g H ι m) (dx : Den g H ι x v) (dy : Den g H ι y u) (e1 : seqOf m y = some ys) (e : inD (rslv m x) ys = some b) :
    ∃ d ds, Dp g.K H v d ∧ (Dp g.K H u (.list ds) ∨ Dp g.K H u (.tuple ds)) ∧ d.canLay0 = true ∧ d.depth ≤ 60 ∧ PyData.canLayAll0 ds = true ∧ (ds.any fun z => PyData.eqv z d) = b := by
  obtain ⟨o1, o2, e3⟩ := inD_some e
  obtain ⟨p1, p2, p3⟩ := okD_top r o1 dx
  obtain ⟨a, vs, rfl, ha, dn⟩ := dy.seq r e1
  obtain ⟨b1, b2, b3⟩ := okD_dps 60 _ vs o2 dn
  refine ⟨_, _, p1, ?_, p2, p3, b2, by rw [eqB_any _ o1 _ o2, e3]⟩
  rcases ha with ha | ha
  · exact .inl (.lst (SqL.of ha) b1)
  · exact .inr (.tup (SqT.of ha) b1)
theorem in_Sq (hK : g.K = X.K) (hu : X.A.units + 65 < cLine) : OpR X (compareOp .In) (rS g false inSq) :=
  rS_of (op_inSq hu) fun H ι m x y v u z Q r dx dy e k => by
    simp only [inSq] at e
    obtain ⟨ys, e1, e⟩ := opt_ok e
    obtain ⟨b, e, ez⟩ := opt_bl (f := fun b => b) e
    obtain ⟨d, ds, h1, h2, h3, h4, h5, h6⟩ := in_data r dx dy e1 e
    rw [hK] at h1 h2
    exact ⟨d, ds, h1, h2, h3, h4, h5, by rw [h6]; exact qb r k ez⟩
theorem notIn_Sq (hK : g.K = X.K) (hu : X.A.units + 65 < cLine) : OpR X (compareOp .NotIn) (rS g false notInSq) :=
  rS_of (op_notInSq hu) fun H ι m x y v u z Q r dx dy e k => by
    simp only [notInSq] at e
    obtain ⟨ys, e1, e⟩ := opt_ok e
    obtain ⟨b, e, ez⟩ := opt_bl (f := fun b => !b) e
    obtain ⟨d, ds, h1, h2, h3, h4, h5, h6⟩ := in_data r dx dy e1 e
    rw [hK] at h1 h2
    exact ⟨d, ds, h1, h2, h3, h4, h5, by rw [h6]; exact qb r k ez⟩
theorem in_Sg : OpR X (compareOp .In) (rS g false inSg) :=
  rS_of op_in_sign fun H ι m x y v u z Q r dx dy e k => by
    unfold inSg at e
    split at e
    · rename_i a b
      obtain ⟨h, e⟩ := gd_ok e
      have hl := of_decide_eq_true h
      simp only [Den] at dx dy
      subst dx dy
      have : ∃ c, a = ⟨#[c]⟩ := by
        obtain ⟨⟨l⟩⟩ := a
        have hl : l.length = 1 := hl
        match l, hl with
        | [c], _ => exact ⟨c, rfl⟩
      obtain ⟨c, rfl⟩ := this
      refine ⟨c, b, rfl, rfl, qb r k ?_⟩
      simp only [Out.ok.injEq] at e
      rw [← e]
      congr 1
      rw [List.contains_eq_mem]
    · cases e
def eqSx (m : List MO) (x y : D) : Out D := match rslv m x, rslv m y with
  | .tup a, .tup b => if a = [] ∨ b = [] then .ok (.bl (decide (a = [] ∧ b = []))) else .bad
  | .lst a, .lst b => if a.length ≠ b.length then .ok (.bl false) else .bad
  | _, _ => .bad
def rSx (K : PySem.W.Frag) : R2 := fun x y H Q => ∃ a b xs ys, x = .ref a ∧ y = .ref b ∧ ((SqT K H a xs ∧ SqT K H b ys ∧ (xs = [] ∨ ys = []) ∧ Q (.bl (decide (xs = [] ∧ ys = []))) H) ∨ (SqL K H a xs ∧ SqL K H b ys ∧ xs.length ≠ ys.length ∧ Q (.bl false) H))
theorem op_eqSx (hu : X.A.units < cLine) : OpR X (compareOp .Eq) (rSx X.K) := by
  intro pins s σ H x y v u Q I rx ry h
  obtain ⟨a, b, xs, ys, rfl, rfl, h⟩ := h
  cases rx
  cases ry
  rcases h with ⟨ha, hb, he, q⟩ | ⟨ha, hb, he, q⟩
  · obtain ⟨its, r1, p1, _⟩ := I.tuple ha
    obtain ⟨its2, r2, p2, _⟩ := I.tuple hb
    have l1 := r1.length
    have l2 := r2.length
    refine SeqAt.eq_tupleAt (e := fun _ => true) p1 p2 hu (fun j h1 h2 => ?_) ?_
    · rcases he with rfl | rfl
      · simp only [List.length_nil] at l1
        rw [List.size_toArray] at h1
        omega
      · simp only [List.length_nil] at l2
        rw [List.size_toArray] at h2
        omega
    · refine ⟨.bl _, H, I, rfl, ?_⟩
      have : ((List.range (min its.toArray.size its2.toArray.size)).all (fun _ => true) && its.toArray.size == its2.toArray.size) = decide (xs = [] ∧ ys = []) := by
        rw [List.size_toArray, List.size_toArray, ← l1, ← l2]
        rcases he with rfl | rfl
        · cases ys with
          | nil => rfl
          | cons _ _ => simp
        · cases xs with
          | nil => rfl
          | cons _ _ => simp
      rw [this]
      exact q
  · obtain ⟨its, r1, p1, _⟩ := I.list ha
    obtain ⟨its2, r2, p2, _⟩ := I.list hb
    have l1 := r1.length
    have l2 := r2.length
    obtain ⟨o1, n1, g1, c1, _, d1⟩ := p1
    obtain ⟨o2, n2, g2, c2, _, d2⟩ := p2
    exact SeqAt.eq_list_lengthsAt ⟨o1, g1, c1, n1, d1⟩ ⟨o2, g2, c2, n2, d2⟩ (by simp only [List.size_toArray, bne_iff_ne, ne_eq]; omega) hu ⟨.bl _, H, I, rfl, q⟩
theorem eq_Sx (hK : g.K = X.K) (hu : X.A.units < cLine) : OpR X (compareOp .Eq) (rS g false eqSx) :=
  rS_of (op_eqSx hu) fun H ι m x y v u z Q r dx dy e k => by
    unfold eqSx at e
    split at e
    · rename_i a b e1 e2
      split at e
      · rename_i he
        cases e
        have h1 : x = .tup a := by
          cases x <;> simp only [rslv] at e1 <;> (try (first | exact e1 | cases e1))
          split at e1 <;> cases e1
        have h2 : y = .tup b := by
          cases y <;> simp only [rslv] at e2 <;> (try (first | exact e2 | cases e2))
          split at e2 <;> cases e2
        subst h1 h2
        obtain ⟨p, vs, rfl, ha, da⟩ := dx.tuple
        obtain ⟨q, ws, rfl, hb, db⟩ := dy.tuple
        have l1 := da.length
        have l2 := db.length
        have n1 : vs = [] ↔ a = [] := by rw [← List.length_eq_zero_iff, ← l1, List.length_eq_zero_iff]
        have n2 : ws = [] ↔ b = [] := by rw [← List.length_eq_zero_iff, ← l2, List.length_eq_zero_iff]
        refine ⟨p, q, vs, ws, rfl, rfl, .inl ⟨SqT.of ha, SqT.of hb, by rw [n1, n2]; exact he, ?_⟩⟩
        have : decide (vs = [] ∧ ws = []) = decide (a = [] ∧ b = []) := by rw [decide_eq_decide, n1, n2]
        rw [this]
        exact qb r k rfl
      · cases e
    · rename_i a b e1 e2
      split at e
      · rename_i he
        cases e
        obtain ⟨p, vs, rfl, ha, da⟩ := dx.list r e1
        obtain ⟨q, ws, rfl, hb, db⟩ := dy.list r e2
        have l1 := da.length
        have l2 := db.length
        exact ⟨p, q, vs, ws, rfl, rfl, .inr ⟨SqL.of ha, SqL.of hb, by omega, qb r k rfl⟩⟩
      · cases e
    · cases e
end
end SV
set_option linter.all false
set_option Elab.async false
set_option maxRecDepth 100000
set_option maxHeartbeats 4000000
namespace SV
open PySem PySem.Spec PyProof.Rows L2
theorem ixIn_get {x : Str} : ∀ {N : List Str} {i : Nat}, ixIn x N = some i → N[i]? = some x
  | [], i, h => by simp [ixIn] at h
  | y :: r, i, h => by
    simp only [ixIn] at h
    split at h
    · rename_i e
      cases h
      simp [e]
    · cases q : ixIn x r with
      | none => rw [q] at h; cases h
      | some j =>
        rw [q] at h
        cases h
        simpa using ixIn_get q
structure Gd (X : Cx) (g : Cfg) (c : Tc) : Prop where
  P : g.P = X.prog
  ww : g.w = X.w
  K : g.K = X.K
  N : X.N = c.N
  nd : X.N.Nodup
  sc : X.env.scope = c.sc
  calm : X.calm = true
  un : X.A.units + 66 < cLine
section
variable {X : Cx} {g : Cfg} {c : Tc} {W : WX} {w : SV.W} {x : Str} {i : Nat}
theorem okN_d (h : okN x = true) : (x == ("__debug__" : Str)) = false ∧ (x == ("__classdict__" : Str)) = false ∧ x ≠ "__name__" := by
  simp only [okN, Bool.and_eq_true, Bool.not_eq_true'] at h
  exact ⟨h.1.1, h.1.2, fun e => by rw [e] at h; simp at h⟩
theorem slot_ok (G : Gd X g c) (h : slotOf c x = some i) : X.N[i]? = some x ∧ Vis X.env.scope x ∧ okN x = true := by
  unfold slotOf at h
  split at h
  · rename_i ho
    rw [G.N, G.sc]
    split at h
    · rename_i e; exact ⟨ixIn_get h, .inl e, ho⟩
    · rename_i e; exact ⟨ixIn_get h, .inr (.inl e), ho⟩
    · rename_i e; exact ⟨ixIn_get h, .inr (.inr e), ho⟩
    · cases h
  · cases h
theorem glob_ok (G : Gd X g c) (h : isGlob c x = true) : Gl X x ∧ okN x = true := by
  simp only [isGlob, Bool.and_eq_true, beq_iff_eq] at h
  refine ⟨?_, h.1⟩
  show X.env.scope.names.lookup x = _
  rw [G.sc]
  exact h.2
theorem tD.of {fr : Bool} {f : S → Out (D × S)} {σ : L2.St} {H : Hp} {Q : VK} (q : tD g W fr f σ H Q) : ∃ ι s, SR g H ι σ s ∧ OutP (f s) (fun p => ∀ v H' ι', Le H ι H' ι' → SR g H' ι' σ p.2 → Den g H' ι' p.1 v → Nw fr g (fun H1 ι1 => Le H ι H1 ι1 ∧ SR g H1 ι1 σ p.2) H' ι' p.1 v → Q v H') (XC g W H ι σ) := q
theorem tD.fr {fr fra : Bool} {f : S → Out (D × S)} {σ : L2.St} {H : Hp} {Q : VK} (k : fr = true → fra = true) (q : tD g W fr f σ H Q) : tD g W fra f σ H Q := by
  obtain ⟨ι, s, r, o⟩ := q
  exact ⟨ι, s, r, o.mono (fun p hp v H' ι' l sr dn n => hp v H' ι' l sr dn fun e => n (k e)) fun _ _ _ h => h⟩
theorem PE.fr {e : Expr} {fr fra : Bool} {f : S → Out (D × S)} (k : fr = true → fra = true) (h : PE X e (tD g W fra f)) : PE X e (tD g W fr f) := PE.imp h fun _ _ _ q => tD.fr k q
/-- a value without more ado -/
theorem tD.val {fr : Bool} {f : S → Out (D × S)} {σ : L2.St} {H : Hp} {Q : VK} (q : tD g W fr f σ H Q) (h : ∀ ι s, SR g H ι σ s → ∀ P E, OutP (f s) P E → ∃ d, P (d, s) ∧ ∃ v, Den g H ι d v ∧ (∀ xs, d ≠ .lst xs ∧ d ≠ .dct xs ∨ fr = false)) : ∃ ι s d v, SR g H ι σ s ∧ Den g H ι d v ∧ Q v H := by
  obtain ⟨ι, s, r, o⟩ := q
  obtain ⟨d, p, v, dn, nf⟩ := h ι s r _ _ o
  refine ⟨ι, s, d, v, r, dn, p v H ι (Le.refl _ _) r dn fun e => ⟨fun xs q => ?_, fun xs q => ?_⟩⟩
  · rcases nf xs with z | z
    · exact absurd q z.1
    · rw [z] at e; cases e
  · rcases nf xs with z | z
    · exact absurd q z.2
    · rw [z] at e; cases e
theorem ev_var {pos : Pos} (G : Gd X g c) (h : slotOf c x = some i) : PE X (.Name x pos) (tD g W false (evE w (.var i))) := by
  obtain ⟨h1, h2, h3⟩ := slot_ok G h
  obtain ⟨h4, h5, _⟩ := okN_d h3
  refine PE.imp (pe_var h1 h2 h4 h5) fun σ H Q q => ?_
  obtain ⟨ι, s, r, o⟩ := q
  simp only [evE] at o
  split at o
  · rename_i d e
    obtain ⟨v, hv, dn⟩ := r.1.2 i d e
    exact ⟨v, hv, o v H ι (Le.refl _ _) r dn Nw.no⟩
  · exact o.elim
theorem cst_imp {fr : Bool} {d : D} {v : V} (hd : ∀ H ι, Den g H ι d v) (hn : ∀ xs, d ≠ .lst xs ∧ d ≠ .dct xs) {σ : L2.St} {H : Hp} {Q : VK} (q : tD g W fr (evE w (.cst d)) σ H Q) : tC v σ H Q := by
  obtain ⟨ι, s, r, o⟩ := q
  simp only [evE] at o
  exact o v H ι (Le.refl _ _) r (hd _ _) (Nw.flat hn)
theorem ev_int {n : Int} {j : Option Str} {k : Nat} {pos : Pos} {fr : Bool} : True := trivial
theorem nol {d : D} (h1 : ∀ xs, d ≠ .lst xs) (h2 : ∀ xs, d ≠ .dct xs) : ∀ xs, d ≠ .lst xs ∧ d ≠ .dct xs := fun xs => ⟨h1 xs, h2 xs⟩
theorem ev_cint {n : Int} {j pos} {fr : Bool} : PE X (.Constant (.int n) j pos) (tD g W fr (evE w (.cst (.int n)))) := PE.imp pe_int fun _ _ _ q => cst_imp (fun _ _ => by simp only [Den]) (nol (fun _ z => by cases z) fun _ z => by cases z) q
theorem ev_cbl {n : Bool} {j pos} {fr : Bool} : PE X (.Constant (.bool n) j pos) (tD g W fr (evE w (.cst (.bl n)))) := PE.imp pe_bl fun _ _ _ q => cst_imp (fun _ _ => by simp only [Den]) (nol (fun _ z => by cases z) fun _ z => by cases z) q
theorem ev_cnon {j pos} {fr : Bool} : PE X (.Constant .none j pos) (tD g W fr (evE w (.cst .non))) := PE.imp pe_non fun _ _ _ q => cst_imp (fun _ _ => by simp only [Den]) (nol (fun _ z => by cases z) fun _ z => by cases z) q
theorem ev_cstr {n : Str} {j pos} {fr : Bool} : PE X (.Constant (.str n) j pos) (tD g W fr (evE w (.cst (.str n)))) := PE.imp pe_str fun _ _ _ q => cst_imp (fun _ _ => by simp only [Den]) (nol (fun _ z => by cases z) fun _ z => by cases z) q
theorem asBool_ok {d : D} {b : Bool} (h : asBool d = .ok b) : d = .bl b := by
  cases d <;> simp [asBool] at h
  subst h; rfl
theorem OutP.asBool {d : D} {P : Bool → Prop} {E : Nat → D → S → Prop} (h : OutP (asBool d) P E) : ∃ b, d = .bl b ∧ P b := by
  cases d <;> first | exact h.elim | exact ⟨_, rfl, h⟩
theorem OutP.bnd {α β : Type} {o : Out α} {f : α → Out β} {P : β → Prop} {E : Nat → D → S → Prop} (h : OutP (o >>= f) P E) : OutP o (fun a => OutP (f a) P E) E := OutP.bind.mp h
theorem tB_imp {fr : Bool} {f : S → Out (D × S)} {σ : L2.St} {H : Hp} {Q : Bool → Hp → Prop} (q : tDb g W (bE f) σ H Q) : tB (tD g W fr f) σ H Q := by
  obtain ⟨ι, s, r, o⟩ := q
  refine tD.then r (OutP.bnd o) (fun _ _ _ h => h) fun d s' v H' ι' p l sr dn _ => ?_
  obtain ⟨b, rfl, p⟩ := OutP.asBool (OutP.bnd p)
  simp only [Den] at dn
  exact ⟨b, dn, p H' ι' l sr⟩
theorem pt_of {e : Expr} {fr : Bool} {f : S → Out (D × S)} (h : PE X e (tD g W fr f)) (he : ∀ whole, isTrue e X.env whole = (do let v ← whole; standAt e.pos; holding [v] (truthy v)) := by intro _; rfl) : PT X e (tDb g W (bE f)) := PT.imp (pt_val h he) fun _ _ _ q => tB_imp q
variable {a b d : Expr} {a' b' d' : Ex} {pos : Pos} {fra frb frd fr : Bool}
theorem ev_bin {op : Operator} (G : Gd X g c) (hop : op ≠ .RShift) (ha : PE X a (tD g W fra (evE w a'))) (hb : PE X b (tD g W frb (evE w b'))) : PE X (.BinOp a op b pos) (tD g W true (evE w (.bin op a' b'))) := by
  refine PE.imp (pe_op (bin_S G.K op) ha hb) fun σ H Q q => tOp_D op2_rS (fun m x y => bin_calm op m x y) ?_
  simp only [evE, binF, if_neg hop] at q
  exact q
theorem cmp_calm (op : CmpOp) : Calm2 (fun m x y => cmpD m op x y) := by
  intro m x y c d s
  have hb : ∀ (o : Option Bool) (f : Bool → Bool), (do .ok (.bl (f (← opt o))) : Out D) ≠ .exc c d s := fun o f => calm_bind (fun _ _ _ _ z => by cases z) c d s
  cases op <;> simp only [cmpD]
  · split
    · intro z; cases z
    · exact hb _ (fun b => b)
  · exact hb _ (fun b => !b)
  · exact hb _ (fun b => b)
  · exact hb _ (fun b => !b)
  · exact hb _ (fun b => b)
  · exact hb _ (fun b => !b)
  · split
    · exact hb _ (fun b => b)
    · split
      · intro z; cases z
      · intro z; cases z
    · intro z; cases z
  · split
    · exact hb _ (fun b => !b)
    · split
      · intro z; cases z
      · intro z; cases z
    · intro z; cases z
  · split
    · exact calm_gd (fun _ _ _ z => by cases z) c d s
    · split
      · exact calm_gd (fun _ _ _ z => by cases z) c d s
      · exact calm_bind (fun _ => calm_bind fun _ _ _ _ z => by cases z) c d s
  · split
    · exact calm_gd (fun _ _ _ z => by cases z) c d s
    · exact calm_bind (fun _ => calm_bind fun _ _ _ _ z => by cases z) c d s
end
end SV
namespace SV
open PySem PySem.Spec PyProof.Rows L2
section
variable {X : Cx} {g : Cfg} {c : Tc} {W : WX} {w : SV.W} {x : Str} {i : Nat} {pins : List (Addr × Obj)} {s : Shared} {σ : L2.St} {H : Hp} {ι : Io} {st : S}
/-- an expression is run, then the rest -/
theorem runD {e : Expr} {fr : Bool} {f : S → Out (D × S)} {P : D × S → Prop} {E : Nat → D → S → Prop} {R : Value → Shared → Prop} (h : PE X e (tD g W fr f)) (I : Inv X pins σ H s) (sr : SR g H ι σ st) (o : OutP (f st) P E) (hE : ∀ c d s, E c d s → XC g W H ι σ c d s)
    (k : ∀ v u s' H' ι' d st', Inv X pins σ H' s' → RelV v u → Le H ι H' ι' → SR g H' ι' σ st' → Den g H' ι' d v → P (d, st') → R u s') : wpAny (model X.prog X.w) X.A (eval e X.env) R X.xe s := by
  refine thn (h.run pins s σ H (fun v H' => ∃ ι' d st', Le H ι H' ι' ∧ SR g H' ι' σ st' ∧ Den g H' ι' d v ∧ P (d, st')) I ⟨ι, st, sr, o.mono (fun p hp v H' ι' l r dn _ => ⟨ι', p.1, p.2, l, r, dn, hp⟩) hE⟩) ?_
  rintro u s' ⟨v, H', I', rv, ι', d, st', l, r, dn, p⟩
  exact k v u s' H' ι' d st' I' rv l r dn p
theorem runDs {es : List Expr} {pos : Pos} {f : S → Out (List D × S)} {P : List D × S → Prop} {E : Nat → D → S → Prop} {R : List Value → Shared → Prop} (h : PA X es (tDs g W f)) (I : Inv X pins σ H s) (sr : SR g H ι σ st) (o : OutP (f st) P E) (hE : ∀ c d s, E c d s → XC g W H ι σ c d s)
    (k : ∀ vs us s' H' ι' ds st', Inv X pins σ H' s' → Vals vs us → Le H ι H' ι' → SR g H' ι' σ st' → DenL g H' ι' ds vs → P (ds, st') → R us s') : wpAny (model X.prog X.w) X.A (spliced (backTo pos (starEach es X.env))) R X.xe s := by
  refine thn (h.run pos pins s σ H (fun vs H' => ∃ ι' ds st', Le H ι H' ι' ∧ SR g H' ι' σ st' ∧ DenL g H' ι' ds vs ∧ P (ds, st')) I ⟨ι, st, sr, o.mono (fun p hp v H' ι' l r dn => ⟨ι', p.1, p.2, l, r, dn, hp⟩) hE⟩) ?_
  rintro u s' ⟨v, H', I', rv, ι', d, st', l, r, dn, p⟩
  exact k v u s' H' ι' d st' I' rv l r dn p
/-- a two-place operation that may ask the store and may raise -/
def OpX (X : Cx) (g : Cfg) (W : WX) (fr : Bool) (h : Value → Value → Sem Value) (f : D → D → S → Out (D × S)) : Prop :=
  ∀ (pins : List (Addr × Obj)) (s : Shared) (σ : L2.St) (H : Hp) (ι : Io) (x y : D) (v u : V) (vv uu : Value) (st : S) (Q : VK), Inv X pins σ H s → SR g H ι σ st → Den g H ι x v → Den g H ι y u → RelV v vv → RelV u uu →
    OutP (f x y st) (fun p => ∀ v H' ι', Le H ι H' ι' → SR g H' ι' σ p.2 → Den g H' ι' p.1 v → Nw fr g (fun H1 ι1 => Le H ι H1 ι1 ∧ SR g H1 ι1 σ p.2) H' ι' p.1 v → Q v H') (XC g W H ι σ) →
    wpAny (model X.prog X.w) X.A (h vv uu) (EP X pins σ Q) X.xe s
/-- of one value -/
def UnX (X : Cx) (g : Cfg) (W : WX) (h : Value → Sem Value) (f : D → S → Out (D × S)) : Prop :=
  ∀ (pins : List (Addr × Obj)) (s : Shared) (σ : L2.St) (H : Hp) (ι : Io) (x : D) (v : V) (vv : Value) (st : S) (Q : VK), Inv X pins σ H s → SR g H ι σ st → Den g H ι x v → RelV v vv →
    OutP (f x st) (fun p => ∀ v H' ι', Le H ι H' ι' → SR g H' ι' σ p.2 → Den g H' ι' p.1 v → Q v H') (XC g W H ι σ) →
    wpAny (model X.prog X.w) X.A (h vv) (EP X pins σ Q) X.xe s
/-- of a list of values -/
def CaX (X : Cx) (g : Cfg) (W : WX) (fr : Bool) (h : List Value → Sem Value) (f : List D → S → Out (D × S)) : Prop :=
  ∀ (pins : List (Addr × Obj)) (s : Shared) (σ : L2.St) (H : Hp) (ι : Io) (xs : List D) (vs : List V) (us : List Value) (st : S) (Q : VK), Inv X pins σ H s → SR g H ι σ st → DenL g H ι xs vs → Vals vs us →
    OutP (f xs st) (fun p => ∀ v H' ι', Le H ι H' ι' → SR g H' ι' σ p.2 → Den g H' ι' p.1 v → Nw fr g (fun H1 ι1 => Le H ι H1 ι1 ∧ SR g H1 ι1 σ p.2) H' ι' p.1 v → Q v H') (XC g W H ι σ) →
    wpAny (model X.prog X.w) X.A (h us) (EP X pins σ Q) X.xe s
/-- by values alone -/
def calmF (f : List MO → D → D → Out D) : D → D → S → Out (D × S) := fun x y s => do
  let z ← f s.m x y
  .ok (z, s)
theorem opX_of {fr : Bool} {h : Value → Value → Sem Value} {f : List MO → D → D → Out D} (o : OpR X h (rS g fr f)) (hc : Calm2 f) : OpX X g W fr h (calmF f) := by
  intro pins s σ H ι x y v u vv uu st Q I sr dx dy rx ry q
  have q := OutP.bnd q
  cases e : f st.m x y with
  | bad => rw [e] at q; exact q.elim
  | exc c d t => exact absurd e (hc _ _ _ _ _ _)
  | ok z =>
    rw [e] at q
    exact o pins s σ H v u vv uu Q I rx ry ⟨ι, st.m, x, y, z, sr.2, dx, dy, e, fun w H' ι' l r dn n => q w H' ι' l (sr.le l r) dn (n.imp fun H1 ι1 z => ⟨z.1, sr.le z.1 z.2⟩)⟩
/-- what is wanted behind a sub-expression, carried on -/
theorem OutP.carry {α : Type} {H' : Hp} {ι' : Io} {o : Out α} {P : α → Prop} {P' : α → Prop} (l : Le H ι H' ι') (h : OutP o P (XC g W H ι σ)) (k : ∀ a, P a → P' a) : OutP o P' (XC g W H' ι' σ) := h.mono k fun _ _ _ z => z.mono l
variable {a b d : Expr} {a' b' d' : Ex} {pos : Pos} {fra frb frd fr : Bool} {fa fb fd : S → Out (D × S)}
theorem two {f : D → D → S → Out (D × S)} {h : Value → Value → Sem Value} {Q : VK} (hx : OpX X g W fr h f) (ha : PE X a (tD g W fra fa)) (hb : PE X b (tD g W frb fb)) (I : Inv X pins σ H s)
    (q : tD g W fr (fun s => do
      let (x, s) ← fa s
      let (y, s) ← fb s
      f x y s) σ H Q) : wpAny (model X.prog X.w) X.A (eval a X.env) (fun v s₁ => wpAny (model X.prog X.w) X.A (eval b X.env) (fun u s₂ => wpAny (model X.prog X.w) X.A (h v u) (EP X pins σ Q) X.xe s₂) X.xe s₁) X.xe s := by
  obtain ⟨ι, st, sr, o⟩ := q
  refine runD ha I sr (OutP.bnd o) (fun _ _ _ z => z) fun v vv s1 H1 ι1 x st1 I1 r1 l1 sr1 d1 o1 => ?_
  refine runD hb I1 sr1 (OutP.bnd o1) (fun _ _ _ z => z.mono l1) fun u uu s2 H2 ι2 y st2 I2 r2 l2 sr2 d2 o2 => ?_
  refine hx pins s2 σ H2 ι2 x y v u vv uu st2 Q I2 sr2 (d1.le l2) d2 r1 r2 (OutP.carry (l1.trans l2) o2 fun p hp v H' ι' l r dn n => hp v H' ι' ((l1.trans l2).trans l) r dn (n.imp fun H1 ι1 z => ⟨(l1.trans l2).trans z.1, z.2⟩))
theorem ev_binX {op : Operator} {f : D → D → S → Out (D × S)} (hx : OpX X g W fr (binaryOp op) f) (ha : PE X a (tD g W fra fa)) (hb : PE X b (tD g W frb fb)) : PE X (.BinOp a op b pos) (tD g W fr (fun s => do
      let (x, s) ← fa s
      let (y, s) ← fb s
      f x y s)) := ⟨fun pins s σ H Q I q => wpAny_BinOp (two hx ha hb I q)⟩
theorem ev_cmpX {op : CmpOp} {f : D → D → S → Out (D × S)} (hx : OpX X g W fr (compareOp op) f) (ha : PE X a (tD g W fra fa)) (hb : PE X b (tD g W frb fb)) (hm : behindInMarks op b = false) : PE X (.Compare a [op] [b] pos) (tD g W fr (fun s => do
      let (x, s) ← fa s
      let (y, s) ← fb s
      f x y s)) := ⟨fun pins s σ H Q I q => wpAny_Compare1 (two hx ha hb I q) hm⟩
theorem pt_cmpX {op : CmpOp} {f : D → D → S → Out (D × S)} (hx : OpX X g W fr (compareOp op) f) (ha : PE X a (tD g W fra fa)) (hb : PE X b (tD g W frb fb)) (hm : behindInMarks op b = false) : PT X (.Compare a [op] [b] pos) (tDb g W (bE fun s => do
      let (x, s) ← fa s
      let (y, s) ← fb s
      f x y s)) := by
  refine ⟨fun pins s σ H Q I q => ?_⟩
  have q2 : tD g W fr (fun s => do
      let (x, s) ← fa s
      let (y, s) ← fb s
      f x y s) σ H (fun x H' => ∃ k, x = .bl k ∧ Q k H') := tB_imp q
  refine wpAny_isTrue_Compare1 (thn (two hx ha hb I q2) fun _ _ z => thn z fun _ _ z => thn z fun _ _ z => ?_) hm
  obtain ⟨v, H', I', r, k, rfl, q⟩ := z
  cases r
  exact wpAny_truthy_bool ⟨H', I', q⟩
theorem ev_unX {op : UnaryOp} {f : D → S → Out (D × S)} (hx : UnX X g W (unaryOp op) f) (ha : PE X a (tD g W fra fa)) : PE X (.UnaryOp op a pos) (tD g W false (fun s => do
      let (x, s) ← fa s
      f x s)) := by
  refine ⟨fun pins s σ H Q I q => ?_⟩
  obtain ⟨ι, st, sr, o⟩ := q
  refine UnaryOp_ (runD ha I sr (OutP.bnd o) (fun _ _ _ z => z) fun v vv s1 H1 ι1 x st1 I1 r1 l1 sr1 d1 o1 => ?_)
  exact hx pins s1 σ H1 ι1 x v vv st1 Q I1 sr1 d1 r1 (OutP.carry l1 o1 fun p hp v H' ι' l r dn => hp v H' ι' (l1.trans l) r dn Nw.no)
/-- a op1 b op2 c -/
def chnF (f1 f2 : D → D → S → Out (D × S)) (fa fb fd : S → Out (D × S)) : S → Out (D × S) := fun s => do
  let (x, s) ← fa s
  let (y, s) ← fb s
  let (z, s) ← f1 x y s
  let k ← asBool z
  if k then do
    let (z, s) ← fd s
    f2 y z s
  else .ok (.bl false, s)
theorem ev_chnX {o1 o2 : CmpOp} {f1 f2 : D → D → S → Out (D × S)} (h1 : OpX X g W false (compareOp o1) f1) (h2 : OpX X g W false (compareOp o2) f2) (ha : PE X a (tD g W fra fa)) (hb : PE X b (tD g W frb fb)) (hd : PE X d (tD g W frd fd)) (hm : lastMarks [o1, o2] [b, d] = false) :
    PE X (.Compare a [o1, o2] [b, d] pos) (tD g W false (chnF f1 f2 fa fb fd)) := by
  refine ⟨fun pins s σ H Q I q => ?_⟩
  obtain ⟨ι, st, sr, o⟩ := q
  unfold chnF at o
  refine Compare_chain (runD ha I sr (OutP.bnd o) (fun _ _ _ z => z) fun v vv s1 H1 ι1 x st1 I1 r1 l1 sr1 d1 o1 => chain_link (runD hb I1 sr1 (OutP.bnd o1) (fun _ _ _ z => z.mono l1) fun u uu s2 H2 ι2 y st2 I2 r2 l2 sr2 d2 o2 => ?_)) hm
  have l12 := l1.trans l2
  have o2 := OutP.bnd o2
  refine thn (h1 pins s2 σ H2 ι2 x y v u vv uu st2 (fun z H' => ∃ ι' dz st', Le H2 ι2 H' ι' ∧ SR g H' ι' σ st' ∧ Den g H' ι' dz z ∧ OutP (asBool dz >>= fun k => if k = true then (do let (z, s) ← fd st'; f2 y z s) else .ok (.bl false, st')) _ _) I2 sr2 (d1.le l2) d2 r1 r2 (OutP.carry l12 o2 fun p hp v H' ι' l r dn _ => ⟨ι', p.1, p.2, l, r, dn, hp⟩)) ?_
  rintro dd s3 ⟨z, H3, I3, r3, ι3, dz, st3, l3, sr3, d3, o3⟩
  obtain ⟨k, rfl, o3⟩ := OutP.asBool (OutP.bnd o3)
  simp only [Den] at d3
  subst d3
  cases r3
  refine wpAny_truthy_bool ?_
  have l13 := l12.trans l3
  cases k with
  | false =>
    simp only [Bool.false_eq_true, if_false] at o3
    exact ite_ff ⟨.bl false, H3, I3, rfl, o3 (.bl false) H3 ι3 l13 sr3 (by simp only [Den]) Nw.no⟩
  | true =>
    simp only [if_true] at o3
    refine ite_tt (chain_last (runD hd I3 sr3 (OutP.bnd o3) (fun _ _ _ z => z.mono l13) fun z' w' s4 H4 ι4 zd st4 I4 r4 l4 sr4 d4 o4 => ?_))
    have l14 := l13.trans l4
    exact h2 pins s4 σ H4 ι4 y zd u z' uu w' st4 Q I4 sr4 (d2.le (l3.trans l4)) d4 r2 r4 (OutP.carry l14 o4 fun p hp v H' ι' l r dn n => hp v H' ι' (l14.trans l) r dn Nw.no)
end
end SV
namespace SV
open PySem PySem.Spec PyProof.Rows L2
section
variable {X : Cx} {g : Cfg} {c : Tc} {W : WX} {w : SV.W} {x : Str} {i : Nat} {pins : List (Addr × Obj)} {s : Shared} {σ : L2.St} {H : Hp} {ι : Io} {st : S}
variable {a b d : Expr} {a' b' d' : Ex} {pos : Pos} {fra frb frd fr : Bool} {fa fb fd : S → Out (D × S)}
theorem pt_chnX {o1 o2 : CmpOp} {f1 f2 : D → D → S → Out (D × S)} (h1 : OpX X g W false (compareOp o1) f1) (h2 : OpX X g W false (compareOp o2) f2) (ha : PE X a (tD g W fra fa)) (hb : PE X b (tD g W frb fb)) (hd : PE X d (tD g W frd fd)) (hm : lastMarks [o1, o2] [b, d] = false) :
    PT X (.Compare a [o1, o2] [b, d] pos) (tDb g W (bE (chnF f1 f2 fa fb fd))) := by
  refine ⟨fun pins s σ H Q I q => ?_⟩
  have q2 : tD g W false (chnF f1 f2 fa fb fd) σ H (fun x H' => ∃ k, x = .bl k ∧ Q k H') := tB_imp q
  obtain ⟨ι, st, sr, o⟩ := q2
  unfold chnF at o
  refine isTrue_chain (runD ha I sr (OutP.bnd o) (fun _ _ _ z => z) fun v vv s1 H1 ι1 x st1 I1 r1 l1 sr1 d1 o1 => test_link (runD hb I1 sr1 (OutP.bnd o1) (fun _ _ _ z => z.mono l1) fun u uu s2 H2 ι2 y st2 I2 r2 l2 sr2 d2 o2 => ?_)) hm
  have l12 := l1.trans l2
  have o2 := OutP.bnd o2
  refine thn (h1 pins s2 σ H2 ι2 x y v u vv uu st2 (fun z H' => ∃ ι' dz st', Le H2 ι2 H' ι' ∧ SR g H' ι' σ st' ∧ Den g H' ι' dz z ∧ OutP (asBool dz >>= fun k => if k = true then (do let (z, s) ← fd st'; f2 y z s) else .ok (.bl false, st')) _ _) I2 sr2 (d1.le l2) d2 r1 r2 (OutP.carry l12 o2 fun p hp v H' ι' l r dn _ => ⟨ι', p.1, p.2, l, r, dn, hp⟩)) ?_
  rintro dd s3 ⟨z, H3, I3, r3, ι3, dz, st3, l3, sr3, d3, o3⟩
  obtain ⟨k, rfl, o3⟩ := OutP.asBool (OutP.bnd o3)
  simp only [Den] at d3
  subst d3
  cases r3
  refine wpAny_truthy_bool ?_
  have l13 := l12.trans l3
  cases k with
  | false =>
    simp only [Bool.false_eq_true, if_false] at o3
    obtain ⟨k2, e2, q2⟩ := o3 (.bl false) H3 ι3 l13 sr3 (by simp only [Den]) Nw.no
    cases e2
    exact ite_ff ⟨H3, I3, q2⟩
  | true =>
    simp only [if_true] at o3
    refine ite_tt (test_last (runD hd I3 sr3 (OutP.bnd o3) (fun _ _ _ z => z.mono l13) fun z' w' s4 H4 ι4 zd st4 I4 r4 l4 sr4 d4 o4 => ?_))
    have l14 := l13.trans l4
    refine thn (h2 pins s4 σ H4 ι4 y zd u z' uu w' st4 (fun x H' => ∃ k, x = .bl k ∧ Q k H') I4 sr4 (d2.le (l3.trans l4)) d4 r2 r4 (OutP.carry l14 o4 fun p hp v H' ι' l r dn n => hp v H' ι' (l14.trans l) r dn Nw.no)) ?_
    rintro d5 s5 ⟨z5, H5, I5, r5, k2, rfl, q5⟩
    cases r5
    exact wpAny_truthy_bool ⟨H5, I5, q5⟩
def andF (fa fb : S → Out (D × S)) : S → Out (D × S) := fun s => do
  let (x, s) ← fa s
  if ← asBool x then fb s else .ok (.bl false, s)
def orF (fa fb : S → Out (D × S)) : S → Out (D × S) := fun s => do
  let (x, s) ← fa s
  if ← asBool x then .ok (.bl true, s) else fb s
def notF (fa : S → Out (D × S)) : S → Out (D × S) := fun s => do
  let (x, s) ← fa s
  let b ← asBool x
  .ok (.bl (!b), s)
def iteF (fc fa fb : S → Out (D × S)) : S → Out (D × S) := fun s => do
  let (x, s) ← fc s
  if ← asBool x then fa s else fb s
theorem OutP.bE {f : S → Out (D × S)} {P : Bool × S → Prop} {E : Nat → D → S → Prop} : OutP (SV.bE f st) P E ↔ OutP (f st) (fun p => OutP (SV.asBool p.1) (fun b => P (b, p.2)) E) E := by
  unfold SV.bE
  rw [OutP.bind]
  constructor
  · intro h; exact h.mono (fun p q => (OutP.bnd q).mono (fun _ z => z) fun _ _ _ z => z) fun _ _ _ z => z
  · intro h; exact h.mono (fun p q => OutP.bind.mpr (q.mono (fun _ z => z) fun _ _ _ z => z)) fun _ _ _ z => z
theorem OutP.iteF {fc fa fb : S → Out (D × S)} {P : D × S → Prop} {E : Nat → D → S → Prop} (h : OutP (SV.iteF fc fa fb st) P E) : OutP (SV.bE fc st) (fun p => OutP (if p.1 = true then fa p.2 else fb p.2) P E) E := by
  rw [OutP.bE]
  exact (OutP.bnd h).mono (fun p q => (OutP.bnd q).mono (fun _ z => z) fun _ _ _ z => z) fun _ _ _ z => z
/-- a test is run, then the rest -/
theorem runB {e : Expr} {f : S → Out (Bool × S)} {P : Bool × S → Prop} {E : Nat → D → S → Prop} {R : Bool → Shared → Prop} {wh : Sem Value} (h : PW X e (tDb g W f)) (I : Inv X pins σ H s) (sr : SR g H ι σ st) (o : OutP (f st) P E) (hE : ∀ c d s, E c d s → XC g W H ι σ c d s)
    (k : ∀ b s' H' ι' st', Inv X pins σ H' s' → Le H ι H' ι' → SR g H' ι' σ st' → P (b, st') → R b s') : wpAny (model X.prog X.w) X.A (isTrue e X.env wh) R X.xe s := by
  refine thn (h.run wh pins s σ H (fun b H' => ∃ ι' st', Le H ι H' ι' ∧ SR g H' ι' σ st' ∧ P (b, st')) I ⟨ι, st, sr, o.mono (fun p hp H' ι' l r => ⟨ι', p.2, l, r, hp⟩) hE⟩) ?_
  rintro u s' ⟨H', I', ι', st', l, r, p⟩
  exact k u s' H' ι' st' I' l r p
theorem runT {e : Expr} {f : S → Out (Bool × S)} {P : Bool × S → Prop} {E : Nat → D → S → Prop} {R : Bool → Shared → Prop} (h : PT X e (tDb g W f)) (I : Inv X pins σ H s) (sr : SR g H ι σ st) (o : OutP (f st) P E) (hE : ∀ c d s, E c d s → XC g W H ι σ c d s)
    (k : ∀ b s' H' ι' st', Inv X pins σ H' s' → Le H ι H' ι' → SR g H' ι' σ st' → P (b, st') → R b s') : wpAny (model X.prog X.w) X.A (isTrue e X.env (eval e X.env)) R X.xe s := by
  refine thn (h.run pins s σ H (fun b H' => ∃ ι' st', Le H ι H' ι' ∧ SR g H' ι' σ st' ∧ P (b, st')) I ⟨ι, st, sr, o.mono (fun p hp H' ι' l r => ⟨ι', p.2, l, r, hp⟩) hE⟩) ?_
  rintro u s' ⟨H', I', ι', st', l, r, p⟩
  exact k u s' H' ι' st' I' l r p
theorem Q_b {H' : Hp} {ι' : Io} {b : Bool} {Q : VK} {st' : S} (l : Le H ι H' ι') (sr : SR g H' ι' σ st') (h : ∀ v H' ι', Le H ι H' ι' → SR g H' ι' σ st' → Den g H' ι' (.bl b) v → Nw fr g (fun H1 ι1 => Le H ι H1 ι1 ∧ SR g H1 ι1 σ st') H' ι' (.bl b) v → Q v H') : Q (.bl b) H' :=
  h (.bl b) H' ι' l sr (by simp only [Den]) (Nw.flat (by intro a; constructor <;> (intro z; cases z)))
/-- an expression's own end, at a later heap -/
theorem OutP.on {H' : Hp} {ι' : Io} {o : Out (D × S)} {Q : VK} (l : Le H ι H' ι') (h : OutP o (fun p => ∀ v H' ι', Le H ι H' ι' → SR g H' ι' σ p.2 → Den g H' ι' p.1 v → Nw fr g (fun H1 ι1 => Le H ι H1 ι1 ∧ SR g H1 ι1 σ p.2) H' ι' p.1 v → Q v H') (XC g W H ι σ)) :
    OutP o (fun p => ∀ v H2 ι2, Le H' ι' H2 ι2 → SR g H2 ι2 σ p.2 → Den g H2 ι2 p.1 v → Nw fr g (fun H1 ι1 => Le H' ι' H1 ι1 ∧ SR g H1 ι1 σ p.2) H2 ι2 p.1 v → Q v H2) (XC g W H' ι' σ) :=
  OutP.carry l h fun p hp v H2 ι2 l2 r dn n => hp v H2 ι2 (l.trans l2) r dn (n.imp fun H1 ι1 z => ⟨l.trans z.1, z.2⟩)
theorem OutP.onB {H' : Hp} {ι' : Io} {o : Out (Bool × S)} {Q : Bool → Hp → Prop} (l : Le H ι H' ι') (h : OutP o (fun p => ∀ H' ι', Le H ι H' ι' → SR g H' ι' σ p.2 → Q p.1 H') (XC g W H ι σ)) :
    OutP o (fun p => ∀ H2 ι2, Le H' ι' H2 ι2 → SR g H2 ι2 σ p.2 → Q p.1 H2) (XC g W H' ι' σ) :=
  OutP.carry l h fun p hp H2 ι2 l2 r => hp H2 ι2 (l.trans l2) r
variable {rest : List Expr}
theorem ev_and (ha : PE X a (tD g W fra fa)) (hb : PE X (.BoolOp .And (b :: rest) pos) (tD g W frb fb)) : PE X (.BoolOp .And (a :: b :: rest) pos) (tD g W false (andF fa fb)) := by
  refine PE.imp (pe_and ha (PE.fr (fr := false) (fun z => nomatch z) hb)) fun σ H Q q => ?_
  obtain ⟨ι, st, sr, o⟩ := q
  refine tD.then sr (OutP.bnd o) (fun _ _ _ h => h) fun d s' v H' ι' p l sr dn _ => ?_
  obtain ⟨k, rfl, p⟩ := OutP.asBool (OutP.bnd p)
  simp only [Den] at dn
  refine ⟨k, dn, ?_⟩
  cases k with
  | false => simp only [Bool.false_eq_true, if_false] at p ⊢; exact Q_b l sr p
  | true => simp only [if_true] at p ⊢; exact ⟨ι', s', sr, OutP.on l p⟩
theorem ev_or (ha : PE X a (tD g W fra fa)) (hb : PE X (.BoolOp .Or (b :: rest) pos) (tD g W frb fb)) : PE X (.BoolOp .Or (a :: b :: rest) pos) (tD g W false (orF fa fb)) := by
  refine PE.imp (pe_or ha (PE.fr (fr := false) (fun z => nomatch z) hb)) fun σ H Q q => ?_
  obtain ⟨ι, st, sr, o⟩ := q
  refine tD.then sr (OutP.bnd o) (fun _ _ _ h => h) fun d s' v H' ι' p l sr dn _ => ?_
  obtain ⟨k, rfl, p⟩ := OutP.asBool (OutP.bnd p)
  simp only [Den] at dn
  refine ⟨k, dn, ?_⟩
  cases k with
  | true => simp only [if_true] at p ⊢; exact Q_b l sr p
  | false => simp only [Bool.false_eq_true, if_false] at p ⊢; exact ⟨ι', s', sr, OutP.on l p⟩
theorem ev_not (ha : PE X a (tD g W fra fa)) : PE X (.UnaryOp .Not a pos) (tD g W false (notF fa)) := by
  refine PE.imp (pe_not ha) fun σ H Q q => ?_
  obtain ⟨ι, st, sr, o⟩ := q
  refine tD.then sr (OutP.bnd o) (fun _ _ _ h => h) fun d s' v H' ι' p l sr dn _ => ?_
  obtain ⟨k, rfl, p⟩ := OutP.asBool (OutP.bnd p)
  simp only [Den] at dn
  exact ⟨k, dn, Q_b l sr p⟩
theorem bE_and : OutP (bE (andF fa fb) st) P E → OutP (bE fa st) (fun p => if p.1 = true then OutP (bE fb p.2) P E else P (false, p.2)) E := by
  intro h
  rw [OutP.bE] at h ⊢
  refine (OutP.bnd h).mono (fun p q => ?_) fun _ _ _ z => z
  refine (OutP.bnd q).mono (fun k q => ?_) fun _ _ _ z => z
  cases k with
  | true => simp only [if_true] at q ⊢; rw [OutP.bE]; exact q
  | false => simp only [Bool.false_eq_true, if_false] at q ⊢; exact q
theorem bE_or : OutP (bE (orF fa fb) st) P E → OutP (bE fa st) (fun p => if p.1 = true then P (true, p.2) else OutP (bE fb p.2) P E) E := by
  intro h
  rw [OutP.bE] at h ⊢
  refine (OutP.bnd h).mono (fun p q => ?_) fun _ _ _ z => z
  refine (OutP.bnd q).mono (fun k q => ?_) fun _ _ _ z => z
  cases k with
  | false => simp only [Bool.false_eq_true, if_false] at q ⊢; rw [OutP.bE]; exact q
  | true => simp only [if_true] at q ⊢; exact q
theorem bE_not : OutP (bE (notF fa) st) P E → OutP (bE fa st) (fun p => P (!p.1, p.2)) E := by
  intro h
  rw [OutP.bE] at h ⊢
  refine (OutP.bnd h).mono (fun p q => ?_) fun _ _ _ z => z
  exact (OutP.bnd q).mono (fun k q => q) fun _ _ _ z => z
theorem bE_ite {fc : S → Out (D × S)} : OutP (bE (iteF fc fa fb) st) P E → OutP (bE fc st) (fun p => if p.1 = true then OutP (bE fa p.2) P E else OutP (bE fb p.2) P E) E := by
  intro h
  rw [OutP.bE] at h ⊢
  refine (OutP.bnd h).mono (fun p q => ?_) fun _ _ _ z => z
  refine (OutP.bnd q).mono (fun k q => ?_) fun _ _ _ z => z
  cases k with
  | false => simp only [Bool.false_eq_true, if_false] at q ⊢; rw [OutP.bE]; exact q
  | true => simp only [if_true] at q ⊢; rw [OutP.bE]; exact q
theorem tDb.then' {f : S → Out (Bool × S)} {Q : Bool → Hp → Prop} {P : Bool × S → Prop} (sr : SR g H ι σ st) (h : OutP (f st) P (XC g W H ι σ))
    (k : ∀ b s' H' ι', P (b, s') → Le H ι H' ι' → SR g H' ι' σ s' → Q b H') : tDb g W f σ H Q := tDb.then sr h (fun _ _ _ z => z) k
theorem pw_andD (ha : PT X a (tDb g W (bE fa))) (hb : PW X (.BoolOp .And (b :: rest) pos) (tDb g W (bE fb))) : PW X (.BoolOp .And (a :: b :: rest) pos) (tDb g W (bE (andF fa fb))) := by
  refine ⟨fun wh pins s σ H Q I q => (pw_and ha hb).run wh pins s σ H Q I ?_⟩
  obtain ⟨ι, st, sr, o⟩ := q
  refine tDb.then' sr (bE_and o) fun k s' H' ι' p l sr => ?_
  cases k with
  | false => simp only [Bool.false_eq_true, if_false] at p ⊢; exact p H' ι' l sr
  | true => simp only [if_true] at p ⊢; exact ⟨ι', s', sr, OutP.onB l p⟩
theorem pw_orD (ha : PT X a (tDb g W (bE fa))) (hb : PW X (.BoolOp .Or (b :: rest) pos) (tDb g W (bE fb))) : PW X (.BoolOp .Or (a :: b :: rest) pos) (tDb g W (bE (orF fa fb))) := by
  refine ⟨fun wh pins s σ H Q I q => (pw_or ha hb).run wh pins s σ H Q I ?_⟩
  obtain ⟨ι, st, sr, o⟩ := q
  refine tDb.then' sr (bE_or o) fun k s' H' ι' p l sr => ?_
  cases k with
  | true => simp only [if_true] at p ⊢; exact p H' ι' l sr
  | false => simp only [Bool.false_eq_true, if_false] at p ⊢; exact ⟨ι', s', sr, OutP.onB l p⟩
theorem pt_notD (ha : PT X a (tDb g W (bE fa))) : PT X (.UnaryOp .Not a pos) (tDb g W (bE (notF fa))) := by
  refine PT.imp (pt_not ha) fun σ H Q q => ?_
  obtain ⟨ι, st, sr, o⟩ := q
  exact tDb.then' sr (bE_not o) fun k s' H' ι' p l sr => p H' ι' l sr
variable {fc : S → Out (D × S)} {ec : Expr}
theorem ev_ite (hc : PT X ec (tDb g W (bE fc))) (ha : PE X a (tD g W fr fa)) (hb : PE X b (tD g W fr fb)) : PE X (.IfExp ec a b pos) (tD g W fr (iteF fc fa fb)) := by
  refine PE.imp (pe_ifExp hc ha hb) fun σ H Q q => ?_
  obtain ⟨ι, st, sr, o⟩ := q
  refine tDb.then' sr (OutP.iteF o) fun k s' H' ι' p l sr => ?_
  cases k with
  | true => simp only [if_true] at p ⊢; exact ⟨ι', s', sr, OutP.on l p⟩
  | false => simp only [Bool.false_eq_true, if_false] at p ⊢; exact ⟨ι', s', sr, OutP.on l p⟩
theorem pt_iteD (hc : PT X ec (tDb g W (bE fc))) (ha : PT X a (tDb g W (bE fa))) (hb : PT X b (tDb g W (bE fb))) : PT X (.IfExp ec a b pos) (tDb g W (bE (iteF fc fa fb))) := by
  refine ⟨fun pins s σ H Q I q => ?_⟩
  obtain ⟨ι, st, sr, o⟩ := q
  rw [arm_isTrue_IfExp]
  refine wpAny_bind (runT hc I sr (bE_ite o) (fun _ _ _ z => z) fun k s1 H1 ι1 st1 I1 l1 sr1 p => ?_)
  cases k with
  | true => simp only [if_true] at p ⊢; exact ha.run pins s1 σ H1 Q I1 ⟨ι1, st1, sr1, OutP.onB l1 p⟩
  | false => simp only [Bool.false_eq_true, if_false] at p ⊢; exact hb.run pins s1 σ H1 Q I1 ⟨ι1, st1, sr1, OutP.onB l1 p⟩
end
end SV
set_option linter.all false
set_option Elab.async false
set_option maxRecDepth 100000
set_option maxHeartbeats 4000000
namespace SV
open PySem PySem.Spec PyProof.Rows L2
section
variable {X : Cx} {g : Cfg} {c : Tc} {W : WX} {w : SV.W} {x : Str} {i : Nat} {pins : List (Addr × Obj)} {s : Shared} {σ : L2.St} {H : Hp} {ι : Io} {st : S}
variable {a b d : Expr} {a' b' d' : Ex} {es : List Expr} {es' : Exs} {pos : Pos} {fra frb frd fr : Bool} {fa fb fd : S → Out (D × S)}
def noStar : Expr → Bool
  | .Starred .. => false
  | _ => true
theorem starEach_one {env : Env} (h : noStar a = true) : starEach (a :: es) env = (false, eval a env) :: starEach es env := by
  cases a <;> first | rfl | simp [noStar] at h
theorem any_plain {env : Env} : ∀ es : List Expr, es.all noStar = true → (backTo pos (starEach es env)).any (·.1) = false
  | [], _ => rfl
  | e :: r, h => by
    simp only [List.all_cons, Bool.and_eq_true] at h
    rw [starEach_one h.1]
    show (false || (backTo pos (starEach r env)).any (·.1)) = false
    rw [any_plain r h.2]
    rfl
theorem pa_nilD : PA X [] (tDs g W (evEs w .nil)) := PA.imp pa_nil fun σ H Q q => by
  obtain ⟨ι, st, sr, o⟩ := q
  simp only [evEs] at o
  exact o [] H ι (Le.refl _ _) sr (by simp only [DenL])
theorem pa_consD (ha : PE X a (tD g W fra (evE w a'))) (hr : PA X es (tDs g W (evEs w es'))) (hs : noStar a = true) : PA X (a :: es) (tDs g W (evEs w (.cons a' es'))) := PA.imp (pa_cons ha hr (starEach_one hs)) fun σ H Q q => by
  obtain ⟨ι, st, sr, o⟩ := q
  simp only [evEs] at o
  refine tD.then sr (OutP.bnd o) (fun _ _ _ z => z) fun x s1 v H1 ι1 o1 l1 sr1 d1 _ => ?_
  refine tDs.then sr1 (OutP.bnd o1) (fun _ _ _ z => z.mono l1) fun xs s2 vs H2 ι2 o2 l2 sr2 d2 => ?_
  exact o2 (v :: vs) H2 ι2 (l1.trans l2) sr2 (DenL.cons (d1.le l2) d2)
theorem pa_starD {p : Pos} (hK : g.K = X.K) (ha : PE X a (tD g W fra (evE w a'))) (hr : PA X es (tDs g W (evEs w es'))) : PA X (.Starred a p :: es) (tDs g W (evEs w (.star a' es'))) := PA.imp (StX.pa_star ha hr) fun σ H Q q => by
  obtain ⟨ι, st, sr, o⟩ := q
  simp only [evEs] at o
  refine tD.then sr (OutP.bnd o) (fun _ _ _ z => z) fun x s1 v H1 ι1 o1 l1 sr1 d1 _ => ?_
  obtain ⟨ys, e, o1⟩ := OutP.opt.mp (OutP.bnd o1)
  obtain ⟨p, ws, rfl, hp, dn⟩ := d1.seq sr1.2 e
  refine ⟨p, ws, rfl, ?_, ?_⟩
  · rcases hp with hp | hp
    · exact .inr (SqL.of hp)
    · exact .inl (SqT.of hp)
  · refine tDs.then sr1 (OutP.bnd o1) (fun _ _ _ z => z.mono l1) fun xs s2 vs H2 ι2 o2 l2 sr2 d2 => ?_
    exact o2 (ws ++ vs) H2 ι2 (l1.trans l2) sr2 ((dn.le l2).append d2)
theorem lok_le {xs : List D} (h : lok xs = true) : xs.length ≤ sizeLine := by
  unfold lok at h
  rw [sizeL_eq] at h
  exact of_decide_eq_true h
theorem nolT {xs : List D} {fr : Bool} {R : Hp → Io → Prop} {H' : Hp} {ι' : Io} {v : V} : Nw fr g R H' ι' (.tup xs) v := Nw.flat (by intro a; constructor <;> (intro z; cases z))
theorem ev_tup {x1} (h : PA X es (tDs g W (evEs w es'))) : PE X (.Tuple es x1 pos) (tD g W fr (evE w (.tup es'))) := PE.imp (pe_tup h) fun σ H Q q => by
  obtain ⟨ι, st, sr, o⟩ := q
  simp only [evE] at o
  refine tDs.then sr (OutP.bnd o) (fun _ _ _ z => z) fun xs s1 vs H1 ι1 o1 l1 sr1 d1 => ?_
  obtain ⟨hl, o1⟩ := OutP.gd.mp (OutP.bnd o1)
  refine ⟨by rw [← d1.length]; exact lok_le hl, fun p hp => ?_⟩
  exact o1 _ _ ι1 (l1.trans (Le.new hp)) (sr1.new hp) (Den.newT sr1.2 hp d1) nolT
theorem Nw.newS {fr : Bool} {xs : List D} {vs : List V} {p : Addr} (hp : H p = none) {H0 : Hp} {ι0 : Io} (l : Le H0 ι0 H ι) (r : SR g H ι σ st) (d : DenL g H ι xs vs) : Nw fr g (fun H1 ι1 => Le H0 ι0 H1 ι1 ∧ SR g H1 ι1 σ st) (upd H p (.lst vs)) ι (.lst xs) (.ref p) :=
  fun _ => ⟨fun ys e => by cases e; exact ⟨H, p, vs, rfl, hp, rfl, ⟨l, r⟩, d⟩, fun ys e => nomatch e⟩
theorem ev_lst (h : PA X es (tDs g W (evEs w es'))) : PE X (.List es pos) (tD g W true (evE w (.lst es'))) := PE.imp (pe_lst h) fun σ H Q q => by
  obtain ⟨ι, st, sr, o⟩ := q
  simp only [evE] at o
  refine tDs.then sr (OutP.bnd o) (fun _ _ _ z => z) fun xs s1 vs H1 ι1 o1 l1 sr1 d1 => ?_
  obtain ⟨hl, o1⟩ := OutP.gd.mp (OutP.bnd o1)
  refine ⟨by rw [← d1.length]; exact lok_le hl, fun p hp => ?_⟩
  exact o1 _ _ ι1 (l1.trans (Le.new hp)) (sr1.new hp) (Den.newL sr1.2 hp d1) (Nw.newS hp l1 sr1 d1)
theorem mem_app {a p : Addr} (h : some a ∉ ι) (e : a ≠ p) : some a ∉ ι ++ [some p] := by
  intro z
  rcases List.mem_append.mp z with z | z
  · exact h z
  · simp only [List.mem_singleton, Option.some.injEq] at z
    exact e z
theorem Le.put {p : Addr} {o : HO} (hp : H p = none) : Le H ι (upd H p o) (ι ++ [some p]) :=
  ⟨fun a u h n => ⟨by rw [upd_ne (ne_of_none h hp)]; exact h, mem_app n (ne_of_none h hp)⟩, (Le.new (ι := ι) hp).trk, by rw [List.length_append]; omega, fun k hk => .inl (List.getElem?_append_left hk)⟩
theorem Rel.put {m : List MO} {p : Addr} {o : HO} {mo : MO} (r : Rel g H ι m) (hp : H p = none) (hm : ∀ H' ι', Le H ι H' ι' → H' p = some o → MDen g H' ι' p mo) : Rel g (upd H p o) (ι ++ [some p]) (m ++ [mo]) := by
  have l : Le H ι (upd H p o) (ι ++ [some p]) := Le.put hp
  refine ⟨by simp [r.len], fun k mo' e => ?_, fun j k a e1 e2 => ?_⟩
  · by_cases hk : k < m.length
    · rw [List.getElem?_append_left hk] at e
      rcases r.at_ k mo' e with ⟨h1, h2⟩ | ⟨a, h1, h2⟩
      · exact .inl ⟨h1, by rw [List.getElem?_append_left (by rw [r.len]; exact hk)]; exact h2⟩
      · refine .inr ⟨a, by rw [List.getElem?_append_left (by rw [r.len]; exact hk)]; exact h1, h2.le l fun u hu => ?_⟩
        rw [upd_ne (ne_of_none hu hp)]; exact hu
    · have hk2 : k = m.length := by
        have := (List.getElem?_eq_some_iff.mp e).1
        simp at this
        omega
      subst hk2
      simp at e
      subst e
      exact .inr ⟨p, by rw [← r.len]; simp, hm _ _ l upd_same⟩
  · have key : ∀ j a, (ι ++ [some p])[j]? = some (some a) → (j < ι.length ∧ ι[j]? = some (some a) ∧ a ≠ p) ∨ (j = ι.length ∧ a = p) := by
      intro j a e
      by_cases hj : j < ι.length
      · rw [List.getElem?_append_left hj] at e
        exact .inl ⟨hj, e, fun z => by subst z; exact r.nin hp (List.mem_of_getElem? e)⟩
      · have hj2 : j = ι.length := by
          have := (List.getElem?_eq_some_iff.mp e).1
          simp at this
          omega
        subst hj2
        simp at e
        exact .inr ⟨rfl, e.symm⟩
    rcases key j a e1 with ⟨_, h1, n1⟩ | ⟨h1, n1⟩ <;> rcases key k a e2 with ⟨_, h2, n2⟩ | ⟨h2, n2⟩
    · exact r.inj j k a h1 h2
    · exact absurd n2 n1
    · exact absurd n1 n2
    · rw [h1, h2]
theorem DctAt.new {p : Addr} {es : List D} {kvs : List (Key × V)} (d : DenE g H ι es kvs) : ∀ H' ι', Le H ι H' ι' → H' p = some (.dK kvs) → MDen g H' ι' p (.dct es) := fun H' ι' l h => .inl ⟨kvs, h, d.le l⟩
theorem ev_new (ha : PE X a (tD g W true (evE w a'))) : PE X a (tD g W false (evE w (.new a'))) := PE.imp ha fun σ H Q q => by
  obtain ⟨ι, st, sr, o⟩ := q
  simp only [evE] at o
  refine ⟨ι, st, sr, (OutP.bnd o).mono (fun p hp v H' ι' l sr' dn n => ?_) fun _ _ _ z => z⟩
  obtain ⟨z, st'⟩ := p
  cases z with
  | lst xs =>
    obtain ⟨H1, p, vs, rfl, hp1, rfl, ⟨l1, sr1⟩, d1⟩ := (n rfl).1 xs rfl
    have r' := sr1.2.put hp1 (o := .lst vs) (mo := .lst xs) fun H' ι' l h => ⟨vs, h, d1.le l⟩
    refine hp (.ref p) _ (ι' ++ [some p]) (l1.trans (Le.put hp1)) ⟨sr1.1.le (Le.put hp1), r'⟩ ?_ Nw.no
    simp only [Den]
    rw [← sr1.2.len]
    exact ⟨by simp, fun a e => by simp at e; rw [e]⟩
  | dct es =>
    obtain ⟨H1, p, vs, rfl, hp1, rfl, ⟨l1, sr1⟩, d1⟩ := (n rfl).2 es rfl
    have r' := sr1.2.put hp1 (o := .dK vs) (mo := .dct es) (DctAt.new d1)
    refine hp (.ref p) _ (ι' ++ [some p]) (l1.trans (Le.put hp1)) ⟨sr1.1.le (Le.put hp1), r'⟩ ?_ Nw.no
    simp only [Den]
    rw [← sr1.2.len]
    exact ⟨by simp, fun a e => by simp at e; rw [e]⟩
  | non => exact hp v H' ι' l sr' dn Nw.no
  | bl _ => exact hp v H' ι' l sr' dn Nw.no
  | int _ => exact hp v H' ι' l sr' dn Nw.no
  | str _ => exact hp v H' ι' l sr' dn Nw.no
  | tup _ => exact hp v H' ι' l sr' dn Nw.no
  | ins _ _ => exact hp v H' ι' l sr' dn Nw.no
  | ref _ => exact hp v H' ι' l sr' dn Nw.no
  | clo _ => exact hp v H' ι' l sr' dn Nw.no
  | cls _ => exact hp v H' ι' l sr' dn Nw.no
  | scr _ => exact hp v H' ι' l sr' dn Nw.no
/-- a place is dead -/
theorem Le.die {k : Nat} : Le H ι H (ι.set k none) :=
  ⟨fun a u h n => ⟨h, fun z => by
    rcases List.mem_or_eq_of_mem_set z with z | z
    · exact n z
    · cases z⟩, fun _ h => h, by simp, fun j hj => by
    by_cases e : k = j
    · subst e; right; simp [hj]
    · left; rw [List.getElem?_set_ne e]⟩
theorem Rel.die {m : List MO} {k : Nat} (r : Rel g H ι m) : Rel g H (ι.set k none) (m.set k .dead) := by
  refine ⟨by simp [r.len], fun j mo e => ?_, fun i j a e1 e2 => ?_⟩
  · by_cases ek : k = j
    · subst ek
      have hl : k < m.length := by
        have := (List.getElem?_eq_some_iff.mp e).1
        simpa using this
      rw [List.getElem?_set_self hl] at e
      cases e
      exact .inl ⟨rfl, by rw [List.getElem?_set_self (by rw [r.len]; exact hl)]⟩
    · rw [List.getElem?_set_ne ek] at e
      rcases r.at_ j mo e with ⟨h1, h2⟩ | ⟨a, h1, h2⟩
      · exact .inl ⟨h1, by rw [List.getElem?_set_ne ek]; exact h2⟩
      · exact .inr ⟨a, by rw [List.getElem?_set_ne ek]; exact h1, h2.le Le.die fun u hu => hu⟩
  · have key : ∀ j : Nat, (ι.set k none)[j]? = some (some a) → ι[j]? = some (some a) := by
      intro j e
      by_cases ek : k = j
      · subst ek
        by_cases hl : k < ι.length
        · rw [List.getElem?_set_self hl] at e; cases e
        · rw [List.getElem?_eq_none (by simp; omega)] at e; cases e
      · rw [List.getElem?_set_ne ek] at e; exact e
    exact r.inj i j a (key i e1) (key j e2)
theorem die_nin {m : List MO} {k : Nat} {a : Addr} (r : Rel g H ι m) (e : ι[k]? = some (some a)) : some a ∉ ι.set k none := by
  intro z
  obtain ⟨j, hj⟩ := List.getElem?_of_mem z
  by_cases ek : k = j
  · subst ek
    have hl : k < ι.length := (List.getElem?_eq_some_iff.mp e).1
    rw [List.getElem?_set_self hl] at hj
    cases hj
  · rw [List.getElem?_set_ne ek] at hj
    exact ek (r.inj k j a e hj)
theorem frz_ok {x : D} {v : V} (sr : SR g H ι σ st) (dn : Den g H ι x v) : ∃ ι', Le H ι H ι' ∧ SR g H ι' σ (fzS st x).2 ∧ Den g H ι' (fzS st x).1 v := by
  have same : fzS st x = (x, st) → ∃ ι', Le H ι H ι' ∧ SR g H ι' σ (fzS st x).2 ∧ Den g H ι' (fzS st x).1 v := fun e => by rw [e]; exact ⟨ι, Le.refl _ _, sr, dn⟩
  cases x with
  | ref k =>
    have go : ∀ (mo : MO) (x' : D), st.m[k]? = some mo → mo ≠ .dead → fzS st (.ref k) = (x', ⟨st.e.map fun o => if o = some (.ref k) then some x' else o, st.m.set k .dead⟩) →
        (∀ a, ι[k]? = some (some a) → MDen g H ι a mo → Den g H (ι.set k none) x' (.ref a)) → ∃ ι', Le H ι H ι' ∧ SR g H ι' σ (fzS st (.ref k)).2 ∧ Den g H ι' (fzS st (.ref k)).1 v := by
      intro mo x' hm hd e hx
      rw [e]
      rcases sr.2.at_ k mo hm with ⟨z, _⟩ | ⟨a, ha, md⟩
      · exact absurd z hd
      · have dx := hx a ha md
        have hv : ∀ u, Den g H ι (.ref k) u → u = .ref a := fun u h => by simp only [Den] at h; exact h.2 a ha
        refine ⟨ι.set k none, Le.die, ⟨⟨by simp [sr.1.1], fun i d e2 => ?_⟩, sr.2.die⟩, by rw [hv v dn]; exact dx⟩
        rw [List.getElem?_map] at e2
        cases ei : st.e[i]? with
        | none => rw [ei] at e2; cases e2
        | some o =>
          rw [ei] at e2
          simp only [Option.map_some, Option.some.injEq] at e2
          split at e2
          · rename_i eo
            subst eo
            cases e2
            obtain ⟨u, hu, du⟩ := sr.1.2 i _ ei
            rw [hv u du] at hu
            exact ⟨.ref a, hu, dx⟩
          · subst e2
            obtain ⟨u, hu, du⟩ := sr.1.2 i d ei
            exact ⟨u, hu, du.le Le.die⟩
    cases hm : st.m[k]? with
    | none => exact same (by simp [fzS, fzM, hm])
    | some mo =>
      cases mo with
      | lst xs =>
        refine go (.lst xs) (.lst xs) hm (by intro z; cases z) (by simp [fzS, fzM, hm]) fun a ha md => ?_
        obtain ⟨vs, h1, h2⟩ := md
        simp only [Den]
        exact ⟨a, vs, rfl, ⟨h1, die_nin sr.2 ha⟩, h2.le Le.die⟩
      | dct es =>
        refine go (.dct es) (.dct es) hm (by intro z; cases z) (by simp [fzS, fzM, hm]) fun a ha md => ?_
        simp only [Den]
        refine ⟨a, rfl, die_nin sr.2 ha, ?_⟩
        rcases md with ⟨kvs, h1, h2⟩ | ⟨xs, h1, ne, h2⟩
        · exact .inl ⟨kvs, h1, h2.le Le.die⟩
        · exact .inr ⟨xs, h1, ne, h2.le Le.die⟩
      | obj c fs => exact same (by simp [fzS, fzM, hm])
      | dead => exact same (by simp [fzS, fzM, hm])
  | _ => exact same (by simp [fzS, fzM])
theorem ev_frz (ha : PE X a (tD g W fra (evE w a'))) : PE X a (tD g W false (evE w (.frz a'))) := PE.imp (PE.fr (fr := false) (fun z => nomatch z) ha) fun σ H Q q => by
  obtain ⟨ι, st, sr, o⟩ := q
  simp only [evE] at o
  refine ⟨ι, st, sr, (OutP.bnd o).mono (fun p hp v H' ι' l sr' dn n => ?_) fun _ _ _ z => z⟩
  obtain ⟨ι2, l2, sr2, d2⟩ := frz_ok sr' dn
  exact hp v H' ι2 (l.trans l2) sr2 d2 Nw.no
end
end SV
set_option linter.all false
set_option Elab.async false
set_option maxRecDepth 100000
set_option maxHeartbeats 4000000
namespace SV
open PySem PySem.Spec PyProof.Rows L2
section
variable {g : Cfg} {H H' : Hp} {ι ι' : Io} {m m' : List MO}
mutual
theorem clo_of : ∀ (d : D) (v : V), Den g H ι d v → cloD ι.length d = true
  | .non, _, _ => rfl
  | .bl _, _, _ => rfl
  | .int _, _, _ => rfl
  | .str _, _, _ => rfl
  | .cls _, _, _ => rfl
  | .scr _, _, _ => rfl
  | .clo _, _, _ => rfl
  | .ref k, v, h => by simp only [Den] at h; simp only [cloD]; exact decide_eq_true h.1
  | .tup xs, v, h => by simp only [Den] at h; obtain ⟨_, vs, _, _, r⟩ := h; simp only [cloD]; exact clos_of xs vs r
  | .lst xs, v, h => by simp only [Den] at h; obtain ⟨_, vs, _, _, r⟩ := h; simp only [cloD]; exact clos_of xs vs r
  | .ins c xs, v, h => by simp only [Den] at h; obtain ⟨_, _, vs, _, _, _, _, _, r⟩ := h; simp only [cloD]; exact clos_of xs vs r
  | .dct es, v, h => by
    simp only [Den] at h
    obtain ⟨a, _, _, r⟩ := h
    simp only [cloD]
    rcases r with ⟨kvs, _, r⟩ | ⟨xs, _, _, r⟩
    · exact cloe_of es kvs r
    · exact clog_of es xs r
theorem clos_of : ∀ (d : List D) (v : List V), DenL g H ι d v → cloDs ι.length d = true
  | [], _, _ => rfl
  | x :: r, v, h => by
    simp only [DenL] at h
    obtain ⟨u, t, _, a, b⟩ := h
    simp only [cloDs, Bool.and_eq_true]
    exact ⟨clo_of x u a, clos_of r t b⟩
theorem cloe_of : ∀ (d : List D) (v : List (Key × V)), DenE g H ι d v → cloDs ι.length d = true
  | [], _, _ => rfl
  | .tup [k, x] :: r, v, h => by
    simp only [DenE] at h
    obtain ⟨key, u, t, _, e, a, b⟩ := h
    simp only [cloDs, cloD, Bool.and_eq_true]
    refine ⟨⟨?_, clo_of x u a, trivial⟩, cloe_of r t b⟩
    subst e
    cases key <;> rfl
  | .non :: r, v, h => by simp only [DenE] at h
  | .bl _ :: r, v, h => by simp only [DenE] at h
  | .int _ :: r, v, h => by simp only [DenE] at h
  | .str _ :: r, v, h => by simp only [DenE] at h
  | .lst _ :: r, v, h => by simp only [DenE] at h
  | .dct _ :: r, v, h => by simp only [DenE] at h
  | .ins _ _ :: r, v, h => by simp only [DenE] at h
  | .ref _ :: r, v, h => by simp only [DenE] at h
  | .clo _ :: r, v, h => by simp only [DenE] at h
  | .cls _ :: r, v, h => by simp only [DenE] at h
  | .scr _ :: r, v, h => by simp only [DenE] at h
  | .tup [] :: r, v, h => by simp only [DenE] at h
  | .tup [_] :: r, v, h => by simp only [DenE] at h
  | .tup (_ :: _ :: _ :: _) :: r, v, h => by simp only [DenE] at h
theorem clog_of : ∀ (d : List D) (v : List (NestedKey × Addr × V)), DenG g H ι d v → cloDs ι.length d = true
  | [], _, _ => rfl
  | .tup [k, x] :: r, v, h => by
    simp only [DenG] at h
    obtain ⟨nk, b, u, t, _, e, a, a2, b2⟩ := h
    simp only [cloDs, cloD, Bool.and_eq_true]
    exact ⟨⟨clo_of k _ a, clo_of x u a2, trivial⟩, clog_of r t b2⟩
  | .non :: r, v, h => by simp only [DenG] at h
  | .bl _ :: r, v, h => by simp only [DenG] at h
  | .int _ :: r, v, h => by simp only [DenG] at h
  | .str _ :: r, v, h => by simp only [DenG] at h
  | .lst _ :: r, v, h => by simp only [DenG] at h
  | .dct _ :: r, v, h => by simp only [DenG] at h
  | .ins _ _ :: r, v, h => by simp only [DenG] at h
  | .ref _ :: r, v, h => by simp only [DenG] at h
  | .clo _ :: r, v, h => by simp only [DenG] at h
  | .cls _ :: r, v, h => by simp only [DenG] at h
  | .scr _ :: r, v, h => by simp only [DenG] at h
  | .tup [] :: r, v, h => by simp only [DenG] at h
  | .tup [_] :: r, v, h => by simp only [DenG] at h
  | .tup (_ :: _ :: _ :: _) :: r, v, h => by simp only [DenG] at h
end
theorem nin_take {a : Option Addr} {k : Nat} (h : a ∉ ι) : a ∉ ι.take k := fun z => h (List.mem_of_mem_take z)
mutual
theorem Den.cut {k : Nat} : ∀ (d : D) (v : V), cloD k d = true → Den g H ι d v → Den g H (ι.take k) d v
  | .non, v, _, h => by simpa only [Den] using h
  | .bl b, v, _, h => by simpa only [Den] using h
  | .int i, v, _, h => by simpa only [Den] using h
  | .str s, v, _, h => by simpa only [Den] using h
  | .cls c, v, _, h => by simpa only [Den] using h
  | .clo c, v, _, h => by simp only [Den] at h
  | .scr xs, v, _, h => by
    simp only [Den] at h ⊢
    obtain ⟨a, rfl, h⟩ := h
    rcases h with ⟨o, ha, na⟩ | h
    · exact ⟨a, rfl, .inl ⟨o, ha, nin_take na⟩⟩
    · exact ⟨a, rfl, .inr h⟩
  | .tup xs, v, c, h => by
    simp only [Den] at h ⊢
    simp only [cloD] at c
    obtain ⟨a, vs, rfl, ⟨ha, na⟩, r⟩ := h
    exact ⟨a, vs, rfl, ⟨ha, nin_take na⟩, DenL.cut xs vs c r⟩
  | .lst xs, v, c, h => by
    simp only [Den] at h ⊢
    simp only [cloD] at c
    obtain ⟨a, vs, rfl, ⟨ha, na⟩, r⟩ := h
    exact ⟨a, vs, rfl, ⟨ha, nin_take na⟩, DenL.cut xs vs c r⟩
  | .dct es, v, c, h => by
    simp only [Den] at h ⊢
    simp only [cloD] at c
    obtain ⟨a, rfl, na, r⟩ := h
    rcases r with ⟨kvs, ha, r⟩ | ⟨xs, ha, ne, r⟩
    · exact ⟨a, rfl, nin_take na, .inl ⟨kvs, ha, DenE.cut es kvs c r⟩⟩
    · exact ⟨a, rfl, nin_take na, .inr ⟨xs, ha, ne, DenG.cut es xs c r⟩⟩
  | .ins c' xs, v, c, h => by
    simp only [Den] at h ⊢
    simp only [cloD] at c
    obtain ⟨a, dx, vs, ns, rfl, ⟨ha, na⟩, e, e2, r⟩ := h
    exact ⟨a, dx, vs, ns, rfl, ⟨ha, nin_take na⟩, e, e2, DenL.cut xs vs c r⟩
  | .ref j, v, c, h => by
    simp only [Den] at h ⊢
    simp only [cloD] at c
    have hj := of_decide_eq_true c
    refine ⟨by rw [List.length_take]; omega, fun a e => h.2 a ?_⟩
    rw [List.getElem?_take_of_lt hj] at e
    exact e
theorem DenL.cut {k : Nat} : ∀ (d : List D) (v : List V), cloDs k d = true → DenL g H ι d v → DenL g H (ι.take k) d v
  | [], v, _, h => by simpa only [DenL] using h
  | x :: r, v, c, h => by
    simp only [DenL] at h ⊢
    simp only [cloDs, Bool.and_eq_true] at c
    obtain ⟨u, t, rfl, a, b⟩ := h
    exact ⟨u, t, rfl, Den.cut x u c.1 a, DenL.cut r t c.2 b⟩
theorem DenE.cut {k : Nat} : ∀ (d : List D) (v : List (Key × V)), cloDs k d = true → DenE g H ι d v → DenE g H (ι.take k) d v
  | [], v, _, h => by simpa only [DenE] using h
  | .tup [k', x] :: r, v, c, h => by
    simp only [DenE] at h ⊢
    simp only [cloDs, cloD, Bool.and_eq_true] at c
    obtain ⟨key, u, t, rfl, e, a, b⟩ := h
    exact ⟨key, u, t, rfl, e, Den.cut x u c.1.2.1 a, DenE.cut r t c.2 b⟩
  | .non :: r, v, _, h => by simp only [DenE] at h
  | .bl _ :: r, v, _, h => by simp only [DenE] at h
  | .int _ :: r, v, _, h => by simp only [DenE] at h
  | .str _ :: r, v, _, h => by simp only [DenE] at h
  | .lst _ :: r, v, _, h => by simp only [DenE] at h
  | .dct _ :: r, v, _, h => by simp only [DenE] at h
  | .ins _ _ :: r, v, _, h => by simp only [DenE] at h
  | .ref _ :: r, v, _, h => by simp only [DenE] at h
  | .clo _ :: r, v, _, h => by simp only [DenE] at h
  | .cls _ :: r, v, _, h => by simp only [DenE] at h
  | .scr _ :: r, v, _, h => by simp only [DenE] at h
  | .tup [] :: r, v, _, h => by simp only [DenE] at h
  | .tup [_] :: r, v, _, h => by simp only [DenE] at h
  | .tup (_ :: _ :: _ :: _) :: r, v, _, h => by simp only [DenE] at h
theorem DenG.cut {k : Nat} : ∀ (d : List D) (v : List (NestedKey × Addr × V)), cloDs k d = true → DenG g H ι d v → DenG g H (ι.take k) d v
  | [], v, _, h => by simpa only [DenG] using h
  | .tup [k', x] :: r, v, c, h => by
    simp only [DenG] at h ⊢
    simp only [cloDs, cloD, Bool.and_eq_true] at c
    obtain ⟨nk, b, u, t, rfl, e, a, a2, b2⟩ := h
    exact ⟨nk, b, u, t, rfl, e, Den.cut k' _ c.1.1 a, Den.cut x u c.1.2.1 a2, DenG.cut r t c.2 b2⟩
  | .non :: r, v, _, h => by simp only [DenG] at h
  | .bl _ :: r, v, _, h => by simp only [DenG] at h
  | .int _ :: r, v, _, h => by simp only [DenG] at h
  | .str _ :: r, v, _, h => by simp only [DenG] at h
  | .lst _ :: r, v, _, h => by simp only [DenG] at h
  | .dct _ :: r, v, _, h => by simp only [DenG] at h
  | .ins _ _ :: r, v, _, h => by simp only [DenG] at h
  | .ref _ :: r, v, _, h => by simp only [DenG] at h
  | .clo _ :: r, v, _, h => by simp only [DenG] at h
  | .cls _ :: r, v, _, h => by simp only [DenG] at h
  | .scr _ :: r, v, _, h => by simp only [DenG] at h
  | .tup [] :: r, v, _, h => by simp only [DenG] at h
  | .tup [_] :: r, v, _, h => by simp only [DenG] at h
  | .tup (_ :: _ :: _ :: _) :: r, v, _, h => by simp only [DenG] at h
end
theorem clof_of : ∀ (fs : List (Nat × D)) (vs : List (Str × V)), DenF g H ι fs vs → (fs.all fun p => cloD ι.length p.2) = true
  | [], _, _ => rfl
  | (f, x) :: r, v, h => by
    simp only [DenF] at h
    obtain ⟨u, t, _, a, b⟩ := h
    simp only [List.all_cons, Bool.and_eq_true]
    exact ⟨clo_of x u a, clof_of r t b⟩
theorem DenF.cut {k : Nat} : ∀ (fs : List (Nat × D)) (vs : List (Str × V)), (fs.all fun p => cloD k p.2) = true → DenF g H ι fs vs → DenF g H (ι.take k) fs vs
  | [], v, _, h => by simpa only [DenF] using h
  | (f, x) :: r, v, c, h => by
    simp only [DenF] at h ⊢
    simp only [List.all_cons, Bool.and_eq_true] at c
    obtain ⟨u, t, rfl, a, b⟩ := h
    exact ⟨u, t, rfl, Den.cut x u c.1 a, DenF.cut r t c.2 b⟩
theorem cloM_of {a : Addr} {mo : MO} (h : MDen g H ι a mo) : cloM ι.length mo = true := by
  cases mo with
  | lst xs => obtain ⟨vs, _, r⟩ := h; exact clos_of xs vs r
  | dct es =>
    rcases h with ⟨kvs, _, r⟩ | ⟨xs, _, _, r⟩
    · exact cloe_of es kvs r
    · exact clog_of es xs r
  | obj c fs => obtain ⟨dx, fs', _, r, _⟩ := h; exact clof_of fs fs' r
  | dead => rfl
theorem MDen.cut {a : Addr} {mo : MO} {k : Nat} (c : cloM k mo = true) (h : MDen g H ι a mo) : MDen g H (ι.take k) a mo := by
  cases mo with
  | lst xs => obtain ⟨vs, q, r⟩ := h; exact ⟨vs, q, r.cut xs vs c⟩
  | dct es =>
    rcases h with ⟨kvs, q, r⟩ | ⟨xs, q, ne, r⟩
    · exact .inl ⟨kvs, q, r.cut es kvs c⟩
    · exact .inr ⟨xs, q, ne, r.cut es xs c⟩
  | obj c' fs => obtain ⟨dx, fs', q, r, z⟩ := h; exact ⟨dx, fs', q, r.cut fs fs' c, z⟩
  | dead => exact h
theorem exOk_get {n : Nat} : ∀ {m m' : List MO}, exOk n m m' = true → m.length ≤ m'.length ∧ ∀ (j : Nat) (b : MO), j < m.length → m'[j]? = some b → m[j]? = some b ∨ cloM n b = true
  | [], _, _ => ⟨Nat.zero_le _, fun j b h => by simp at h⟩
  | a :: r, [], h => by simp [exOk] at h
  | a :: r, b :: t, h => by
    simp only [exOk, Bool.and_eq_true, Bool.or_eq_true] at h
    obtain ⟨h1, h2⟩ := exOk_get h.2
    refine ⟨by simp; exact h1, fun j c hj e => ?_⟩
    cases j with
    | zero =>
      simp at e
      subst e
      rcases h.1 with q | q
      · left; simp [of_decide_eq_true q]
      · exact .inr q
    | succ j =>
      simp at hj e ⊢
      exact h2 j c hj e
theorem Le.cut (l : Le H ι H' ι') (hk : ι.length ≤ ι'.length) : Le H ι H' (ι'.take ι.length) :=
  ⟨fun a o h n => ⟨(l.keep a o h n).1, nin_take (l.keep a o h n).2⟩, l.trk, by rw [List.length_take]; omega, fun k hk2 => by rw [List.getElem?_take_of_lt hk2]; exact l.same k hk2⟩
/-- behind a def: the store is cut to its entry's length -/
theorem Rel.cut (r : Rel g H ι m) (r' : Rel g H' ι' m') (l : Le H ι H' ι') (e : exOk m.length m m' = true) : Rel g H' (ι'.take m.length) (m'.take m.length) := by
  obtain ⟨e1, e2⟩ := exOk_get e
  refine ⟨by simp [r'.len], fun k mo h => ?_, fun j k a h1 h2 => ?_⟩
  · have hk : k < m.length := by
      have := (List.getElem?_eq_some_iff.mp h).1
      rw [List.length_take] at this
      omega
    rw [List.getElem?_take_of_lt hk] at h ⊢
    rcases r'.at_ k mo h with z | ⟨a, z, md⟩
    · exact .inl z
    · refine .inr ⟨a, z, md.cut ?_⟩
      rcases e2 k mo hk h with q | q
      · rcases r.at_ k mo q with ⟨y, _⟩ | ⟨b, _, y⟩
        · subst y; rfl
        · rw [← r.len]; exact cloM_of y
      · exact q
  · have hj : ∀ {j : Nat} {a : Addr}, (ι'.take m.length)[j]? = some (some a) → ι'[j]? = some (some a) := by
      intro j a h
      have hj : j < m.length := by
        have := (List.getElem?_eq_some_iff.mp h).1
        rw [List.length_take] at this
        omega
      rw [List.getElem?_take_of_lt hj] at h
      exact h
    exact r'.inj j k a (hj h1) (hj h2)
theorem EDen.cut {c : Nat} {d : D} {cls : Value} {dd : Option Addr} {k : Nat} (h : cloD k d = true) (e : EDen g H ι c d cls dd) : EDen g H (ι.take k) c d cls dd := by
  obtain ⟨e1, e2⟩ := e
  refine ⟨e1, ?_⟩
  rcases e2 with z | ⟨a, f, v, z1, z2, z3, z4⟩
  · exact .inl z
  · exact .inr ⟨a, f, v, z1, z2, z3.cut d v h, z4⟩
end
end SV
set_option linter.all false
set_option Elab.async false
set_option maxRecDepth 100000
set_option maxHeartbeats 4000000
namespace SV
open PySem PySem.Spec PyProof.Rows L2
/-- a callee's exception reaches what is wanted of exceptions -/
def PassX (CX : CXT) (X : Cx) (W : WX) : Prop := ∀ (pins : List (Addr × Obj)) (σ : L2.St) (H : Hp) (s : Shared) (E : XK) (e : Value) (s' : Shared), Inv X pins σ H s → CX X.stack H s E e s' → (∀ cls d H', E cls d H' → W cls d σ H') → X.xe e s'
/-- defs whose list or dict is new -/
def freshB (i : Nat) : Bool := ([100, 42, 43, 45, 53, 54, 71, 72] : List Nat).contains i
/-- what a def promises: what SV makes of it -/
def spF (g : Cfg) (fr : Bool) (c : List D → List MO → Out (D × List MO)) : Sp := fun vs H Q E => ∃ ι ds M, Rel g H ι M ∧ DenL g H ι ds vs ∧
  OutP (c ds M) (fun p => ∀ v H' ι', Le H ι H' ι' → Rel g H' ι' p.2 → Den g H' ι' p.1 v → Nw fr g (fun H1 ι1 => Le H ι H1 ι1 ∧ Rel g H1 ι1 p.2) H' ι' p.1 v → Q v H') (fun c d s => g.xp = true ∧ ∀ cls dd H' ι', Le H ι H' ι' → Rel g H' ι' s.m → EDen g H' ι' c d cls dd → E cls dd H')
section
variable {X : Cx} {g : Cfg} {c : Tc} {W : WX} {w : SV.W} {x : Str} {i : Nat} {pins : List (Addr × Obj)} {s : Shared} {σ : L2.St} {H : Hp} {ι : Io} {st : S} {CX : CXT} {k : Nat} {f : Addr}
variable {a b d : Expr} {a' b' d' : Ex} {es : List Expr} {es' : Exs} {pos : Pos} {fra frb frd fr : Bool} {fa fb fd : S → Out (D × S)} {cal : List D → List MO → Out (D × List MO)}
theorem OutP.inS {α : Type} {o : Out (α × List MO)} {P : α × S → Prop} {E : Nat → D → S → Prop} : OutP (SV.inS st o) P E ↔ OutP o (fun p => P (p.1, ⟨st.e, p.2⟩)) (fun c d s => E c d ⟨st.e, s.m⟩) := by
  cases o with
  | ok p => exact Iff.rfl
  | exc c d s => exact Iff.rfl
  | bad => exact Iff.rfl
theorem run_sp (F : FnR X.prog X.w X.K X.mg X.base CX k f (spF g fr cal)) (hr : Room k X.A) (px : PassX CX X W) (I : Inv X pins σ H s) (sr : SR g H ι σ st) {us : List Value} {vs : List V} {ds : List D} {Q : VK} (r : Vals vs us) (dn : DenL g H ι ds vs)
    (q : OutP (SV.inS st (cal ds st.m)) (fun p => ∀ v H' ι', Le H ι H' ι' → SR g H' ι' σ p.2 → Den g H' ι' p.1 v → Nw fr g (fun H1 ι1 => Le H ι H1 ι1 ∧ SR g H1 ι1 σ p.2) H' ι' p.1 v → Q v H') (XC g W H ι σ)) :
    codeAny (model X.prog X.w) X.A (.call (.ref f) ⟨us, []⟩) (fun r s' => match r with | .ok (.ret v) => EP X pins σ Q v s' | .ok _ => False | .error e => X.xe e s') s := by
  rw [OutP.inS] at q
  have h : spF g fr cal vs H Q (fun cls d H' => W cls d σ H') := ⟨ι, ds, st.m, sr.2, dn, q.mono (fun p hp v H' ι' l r dn nw => hp v H' ι' l ⟨sr.1.le l, r⟩ dn (nw.imp fun H1 ι1 z => ⟨z.1, sr.1.le z.1, z.2⟩)) fun c d s z => ⟨z.1, fun cls dd H' ι' l r e => z.2 cls dd σ H' ι' l ⟨sr.1.le l, r⟩ e⟩⟩
  refine codeAny_mono (F X.A X.stack s H us vs Q _ hr I.env0 r h) fun r s' hq => ?_
  cases r with
  | error e => exact px pins σ H s _ e s' I hq fun _ _ _ z => z
  | ok fl =>
    cases fl with
    | ret u => exact I.after hq
    | next => exact False.elim hq
    | brk => exact False.elim hq
    | cont => exact False.elim hq
theorem ca_fn (F : FnR X.prog X.w X.K X.mg X.base CX k f (spF g fr cal)) (hr : Room k X.A) (px : PassX CX X W) : CaX X g W fr (fun us => call (.ref f) us) (fun xs s => SV.inS s (cal xs s.m)) := by
  intro pins s σ H ι xs vs us st Q I sr dn r q
  exact wpAny_call (run_sp F hr px I sr r dn q)
/-- less is known of a value -/
theorem CaX.off {h : List Value → Sem Value} {F : List D → S → Out (D × S)} (c : CaX X g W fr h F) : CaX X g W false h F := by
  intro pins s σ H ι xs vs us st Q I sr dn r q
  exact c pins s σ H ι xs vs us st Q I sr dn r (q.mono (fun p hp v H' ι' l r dn nw => hp v H' ι' l r dn Nw.no) fun _ _ _ z => z)
theorem denL_rsK {fs : List (Nat × D)} {vs : List (Str × V)} {m : List MO} {ns : List Nat} {k : Nat} (r : Rel g H ι m) (dn : DenF g H ι fs vs) (hn : fs.map (·.1) = ns) (hc : cloDs k (fs.map fun p => rsK k m p.2) = true) :
    ∃ ws, vs = (ns.map fname).zip ws ∧ ns.length = ws.length ∧ DenL g H (ι.take k) (fs.map fun p => rsK k m p.2) ws := by
  induction fs generalizing vs ns with
  | nil => simp only [DenF] at dn; subst dn hn; exact ⟨[], rfl, rfl, by simp [DenL]⟩
  | cons p t ih =>
    obtain ⟨f, x⟩ := p
    simp only [DenF] at dn
    obtain ⟨v, u, rfl, a, b⟩ := dn
    subst hn
    simp only [List.map_cons, cloDs, Bool.and_eq_true] at hc
    obtain ⟨ws, e1, e2, e3⟩ := ih b rfl hc.2
    refine ⟨v :: ws, ?_, by simp [e2], ?_⟩
    · simp only [List.map_cons, List.zip_cons_cons, e1]
    · refine DenL.cons (show Den g H (ι.take k) (rsK k m x) v from ?_) e3
      have plain : rsK k m x = x → Den g H (ι.take k) (rsK k m x) v := fun e => by
        have h1 := hc.1
        rw [e] at h1 ⊢
        exact a.cut x v h1
      cases x with
      | ref j =>
        by_cases hj : j < k
        · exact plain (by simp [rsK, hj])
        have hrs : rsK k m (.ref j) = rslv m (.ref j) := by simp [rsK, hj]
        cases hm : m[j]? with
        | none => exact plain (by rw [hrs]; simp [rslv, hm])
        | some mo =>
          rcases r.at_ j mo hm with ⟨z, _⟩ | ⟨q, hq, md⟩
          · subst z; exact plain (by rw [hrs]; simp [rslv, hm])
          · have ev : v = .ref q := by simp only [Den] at a; exact a.2 q hq
            subst ev
            have h1 := hc.1
            have hjk : some q ∉ ι.take k := by
              intro z
              obtain ⟨i, hi⟩ := List.getElem?_of_mem z
              have hik : i < k := by
                have := (List.getElem?_eq_some_iff.mp hi).1
                rw [List.length_take] at this
                omega
              rw [List.getElem?_take_of_lt hik] at hi
              have := r.inj i j q hi hq
              omega
            cases mo with
            | lst xs =>
              have e : rsK k m (.ref j) = .lst xs := by rw [hrs]; simp [rslv, hm]
              rw [e] at h1 ⊢
              obtain ⟨vs, h2, h3⟩ := md
              simp only [Den]
              exact ⟨q, vs, rfl, ⟨h2, hjk⟩, h3.cut xs vs h1⟩
            | dct es =>
              have e : rsK k m (.ref j) = .dct es := by rw [hrs]; simp [rslv, hm]
              rw [e] at h1 ⊢
              simp only [Den]
              refine ⟨q, rfl, hjk, ?_⟩
              rcases md with ⟨kvs, h2, h3⟩ | ⟨xs, h2, ne, h3⟩
              · exact .inl ⟨kvs, h2, h3.cut es kvs h1⟩
              · exact .inr ⟨xs, h2, ne, h3.cut es xs h1⟩
            | obj c fs => exact plain (by rw [hrs]; simp [rslv, hm])
            | dead => exact md.elim
      | _ => exact plain rfl
theorem run_mk {C : Addr} {sp : Sp} {us : List Value} {vs : List V} {Q : VK} (M : Mk X.K C f) (F : FnR X.prog X.w X.K X.mg X.base CX k f sp) (hr : Room (k + 1) X.A) (px : PassX CX X W) (I : Inv X pins σ H s) (r : Vals vs us)
    (h : ∀ x dx, H x = Option.none → H dx = Option.none → dx ≠ x → sp (V.ref x :: vs) (upd (upd H dx (.own x)) x (.ins C dx [])) (fun v H2 => v = .non ∧ Q (.ref x) H2) (fun cls d H' => W cls d σ H')) :
    wpAny (model X.prog X.w) X.A (call (.ref C) us) (EP X pins σ Q) X.xe s := by
  have hq := h (s.heap.objs.size + 1) s.heap.objs.size (I.hok.fresh (Nat.le_succ _)) (I.hok.fresh (Nat.le_refl _)) (Nat.ne_of_lt (Nat.lt_succ_self _))
  have I2 := Inv.made (C := C) I
  have r2 : Vals (V.ref (s.heap.objs.size + 1) :: vs) (Value.ref (s.heap.objs.size + 1) :: us) := .cons rfl r
  refine wpAny_call (make_map (f := f) I.kIn M.makes M.init (beq_iff_eq.mp M.fn) (codeAny_mono (F _ X.stack _ _ (Value.ref (s.heap.objs.size + 1) :: us) _ _ _ (hr.make C us []) (I2.env0.make C us []) r2 hq) fun r s' hq' => ?_))
  cases r with
  | error e => exact px pins σ _ _ _ e s' I2 hq' fun _ _ _ z => z
  | ok fl =>
    cases fl with
    | ret u =>
      obtain ⟨v, H', I3, rv, ev, q3⟩ := I2.after hq'
      subst ev
      exact ⟨rv, ⟨V.ref (s.heap.objs.size + 1), H', I3, rfl, q3⟩⟩
    | next => exact False.elim hq'
    | brk => exact False.elim hq'
    | cont => exact False.elim hq'
/-- C(..) -/
theorem ca_cls {cl : Nat} (hC : w.init cl = some i) (M : Mk X.K (g.aC cl) f) (F : FnR X.prog X.w X.K X.mg X.base CX k f (spF g fr (w.call i))) (hr : Room (k + 1) X.A) (px : PassX CX X W) :
    CaX X g W false (fun us => call (.ref (g.aC cl)) us) (fun xs s => makeD w cl xs s) := by
  intro pins s σ H ι xs vs us st Q I sr dn r q
  refine run_mk M F hr px I r ?_
  · intro x dx hx hdx hne
    have hx' : upd H dx (.own x) x = none := by rw [upd_ne (Ne.symm hne)]; exact hx
    have l0 : Le H ι (upd H dx (.own x)) ι := Le.new hdx
    have r0 := sr.2.new (o := .own x) hdx
    have l1 : Le H ι (upd (upd H dx (.own x)) x (.ins (g.aC cl) dx [])) (ι ++ [some x]) := l0.trans (Le.put hx')
    have r1 := r0.put hx' (o := .ins (g.aC cl) dx []) (mo := .obj cl []) fun H' ι' l h => ⟨dx, [], h, by simp [DenF], by simp⟩
    have hk : ι.length = st.m.length := sr.2.len
    unfold makeD at q
    rw [hC] at q
    simp only at q
    refine ⟨_, .ref st.m.length :: xs, _, r1, DenL.cons ?_ (dn.le l1), ?_⟩
    · simp only [Den]
      rw [← hk]
      exact ⟨by simp, fun a e => by simp at e; rw [e]⟩
    · cases eo : w.call i (.ref st.m.length :: xs) (st.m ++ [.obj cl []]) with
      | bad => rw [eo] at q; exact q.elim
      | exc c d s' =>
        rw [eo] at q
        simp only [SV.inS] at q
        split at q
        · rename_i hc
          simp only [Bool.and_eq_true] at hc
          refine ⟨q.1, fun cls dd H' ι' l r e => ?_⟩
          have l2 := l1.trans l
          have lc := l2.cut l2.len
          rw [hk] at lc
          exact q.2 cls dd σ H' _ lc ⟨sr.1.le lc, sr.2.cut r l2 hc.1⟩ (e.cut hc.2)
        · exact q.elim
      | ok p =>
        obtain ⟨d, m'⟩ := p
        rw [eo] at q
        simp only [SV.inS] at q
        cases d with
        | non =>
          simp only at q
          intro v H' ι' l r dv _
          simp only [Den] at dv
          refine ⟨dv, ?_⟩
          have l2 := l1.trans l
          have hxk : ι'[st.m.length]? = some (some x) ∨ ι'[st.m.length]? = some none := by
            have := l.same st.m.length (by rw [← hk]; simp)
            rw [← hk] at this ⊢
            simpa using this
          split at q
          · refine q (.ref x) H' ι' l2 ⟨sr.1.le l2, r⟩ ?_ Nw.no
            simp only [Den]
            refine ⟨by have := l.len; simp at this; omega, fun a e => ?_⟩
            rcases hxk with z | z <;> rw [z] at e <;> cases e
            rfl
          · rename_i gs hgs
            split at q
            · rename_i c' fs hm
              split at q
              · rename_i hc
                obtain ⟨rfl, h2, h3, h4⟩ := hc
                rcases r.at_ _ _ hm with ⟨z, _⟩ | ⟨a, ha, dx', fs', h5, h6, h7⟩
                · cases z
                · have ea : a = x := by
                    rcases hxk with z | z <;> rw [z] at ha <;> cases ha
                    rfl
                  subst ea
                  obtain ⟨ws, e1, e2, e3⟩ := denL_rsK r h6 h2 h4
                  have lc := l2.cut l2.len
                  rw [hk] at lc
                  refine q (.ref a) H' _ lc ⟨sr.1.le lc, sr.2.cut r l2 h3⟩ ?_ Nw.no
                  simp only [Den]
                  subst e1
                  refine ⟨a, dx', ws, gs, rfl, ⟨h5, ?_⟩, hgs, e2, e3⟩
                  intro z
                  obtain ⟨j, hj⟩ := List.getElem?_of_mem z
                  have hjk : j < st.m.length := by
                    have := (List.getElem?_eq_some_iff.mp hj).1
                    rw [List.length_take] at this
                    omega
                  rw [List.getElem?_take_of_lt hjk] at hj
                  have := r.inj j _ a hj ha
                  omega
              · exact q.elim
            · exact q.elim
        | _ => exact q.elim
end
end SV
set_option linter.all false
set_option Elab.async false
set_option maxRecDepth 100000
set_option maxHeartbeats 4000000
namespace SV
open PySem PySem.Spec PyProof.Rows L2
section
variable {X : Cx} {g : Cfg} {c : Tc} {W : WX} {w : SV.W} {x : Str} {i : Nat} {pins : List (Addr × Obj)} {s : Shared} {σ : L2.St} {H : Hp} {ι : Io} {st : S} {CX : CXT} {k : Nat} {f : Addr}
variable {a b d : Expr} {a' b' d' : Ex} {es : List Expr} {es' : Exs} {p pos : Pos} {fra frb frd fr : Bool} {fa fb fd : S → Out (D × S)} {fs : S → Out (List D × S)} {F : List D → S → Out (D × S)}
/-- the arguments, then the callee -/
def appF (fs : S → Out (List D × S)) (F : List D → S → Out (D × S)) : S → Out (D × S) := fun s => do
  let (xs, s) ← fs s
  F xs s
/-- the arguments are read, then the callee runs -/
theorem runCa {cv : Value} {Q : VK} {us0 : List Value} (ha : PA X es (tDs g W fs)) (hC : CaX X g W fr (fun us => call cv us) F) (I : Inv X pins σ H s) (q : tD g W fr (appF fs F) σ H Q) :
    wpAny (model X.prog X.w) X.A (spliced (backTo pos (starEach es X.env))) (fun us s₁ => X.K.In s₁.heap ∧ wpAny (model X.prog X.w) X.A (call cv ([] ++ us)) (EP X pins σ Q) X.xe s₁) X.xe s := by
  obtain ⟨ι, st, sr, o⟩ := q
  refine runDs ha I sr (OutP.bnd o) (fun _ _ _ z => z) fun vs us s1 H1 ι1 xs st1 I1 r1 l1 sr1 d1 o1 => ⟨I1.kIn, ?_⟩
  exact hC pins s1 σ H1 ι1 xs vs us st1 Q I1 sr1 d1 r1 (OutP.on l1 o1)
theorem ev_call1 {cv : Value} (G : Gd X g c) (hx : isGlob c x = true) (hm : X.mg x = some cv) (hk : PySem.W.keepIn X.K cv = true) (hC : CaX X g W fr (fun us => call cv us) F) (ha : PA X (a :: es) (tDs g W fs)) (h1 : (a :: es).all noStar = true) :
    PE X (.Call (.Name x p) (a :: es) [] pos) (tD g W fr (appF fs F)) := by
  obtain ⟨hg, ho⟩ := glob_ok G hx
  obtain ⟨h4, _, _⟩ := okN_d ho
  simp only [List.all_cons, Bool.and_eq_true] at h1
  refine ⟨fun pins s σ H Q I q => ?_⟩
  refine wpAny_Call_Name_kw (ld_glob I hg hm ?_ h4)
  exact PySem.W.callWith_K (h₀ := X.base) I.ok.mod.kin hk (runCa (us0 := []) ha hC I q) (starEach_one h1.1) (any_plain es h1.2)
theorem ev_call0 {cv : Value} (G : Gd X g c) (hx : isGlob c x = true) (hm : X.mg x = some cv) (hk : PySem.W.keepIn X.K cv = true) (hC : CaX X g W fr (fun us => call cv us) F) :
    PE X (.Call (.Name x p) [] [] pos) (tD g W fr (appF (evEs w .nil) F)) := by
  obtain ⟨hg, ho⟩ := glob_ok G hx
  obtain ⟨h4, _, _⟩ := okN_d ho
  refine ⟨fun pins s σ H Q I q => ?_⟩
  refine wpAny_Call_Name_kw (ld_glob I hg hm ?_ h4)
  obtain ⟨ι, st, sr, o⟩ := q
  exact PySem.W.callWith_K0 I.kIn hk (hC pins s σ H ι [] [] [] st Q I sr (by simp only [DenL]) .nil o)
theorem ev_callS {cv : Value} {sp_ : Pos} (G : Gd X g c) (hx : isGlob c x = true) (hm : X.mg x = some cv) (hk : PySem.W.keepIn X.K cv = true) (hC : CaX X g W fr (fun us => call cv us) F) (ha : PE X a (tD g W fra (evE w a'))) :
    PE X (.Call (.Name x p) [.Starred a sp_] [] pos) (tD g W fr (appF (evEs w (.star a' .nil)) F)) := by
  obtain ⟨hg, ho⟩ := glob_ok G hx
  obtain ⟨h4, _, _⟩ := okN_d ho
  refine ⟨fun pins s σ H Q I q => ?_⟩
  refine wpAny_Call_Name_kw (ld_glob I hg hm ?_ h4)
  obtain ⟨ι, st, sr, o⟩ := q
  simp only [appF, evEs] at o
  have o := OutP.bnd (OutP.bnd o)
  refine PySem.W.callWith_S (h₀ := X.base) I.ok.mod.kin hk (runD ha I sr o (fun _ _ _ z => z) fun v vv s1 H1 ι1 x1 st1 I1 r1 l1 sr1 d1 o1 => ?_) rfl
  obtain ⟨ys, e, o1⟩ := OutP.opt.mp (OutP.bnd o1)
  obtain ⟨q, ws, rfl, hp, dn⟩ := d1.seq sr1.2 e
  cases r1
  refine StX.star_any I1 (xs := ws) ?_ fun us s2 I2 rv => ⟨I2.kIn, hC pins s2 σ H1 ι1 ys ws us st1 Q I2 sr1 dn rv ?_⟩
  · rcases hp with hp | hp
    · exact .inr (SqL.of hp)
    · exact .inl (SqT.of hp)
  · have o2 : OutP (F (ys ++ []) st1) _ _ := o1
    rw [List.append_nil] at o2
    exact OutP.on l1 o2
/-- a built-in function by its name -/
theorem ev_callB {id : String} (G : Gd X g c) (hx : isGlob c x = true) (hm : X.mg x = none) (hv : bootBuiltins x = some (.builtin id)) (hC : CaX X g W fr (fun us => call (.builtin id) us) F) (ha : PA X (a :: es) (tDs g W fs)) (h1 : (a :: es).all noStar = true) :
    PE X (.Call (.Name x p) (a :: es) [] pos) (tD g W fr (appF fs F)) := by
  obtain ⟨hg, ho⟩ := glob_ok G hx
  obtain ⟨h4, _, h5⟩ := okN_d ho
  simp only [List.all_cons, Bool.and_eq_true] at h1
  refine ⟨fun pins s σ H Q I q => ?_⟩
  refine wpAny_Call_Name_kw (ld_blt I hg hm hv ?_ h5 h4)
  exact PyProof.Rows.callWith_builtin1 (thn (runCa (us0 := []) ha hC I q) fun us s1 z => z.2) (starEach_one h1.1) (any_plain es h1.2)
theorem ev_callTy {T : String} (G : Gd X g c) (hx : isGlob c x = true) (hm : X.mg x = none) (hv : bootBuiltins x = some (.type T)) (hC : CaX X g W fr (fun us => call (.type T) us) F) (ha : PA X (a :: es) (tDs g W fs)) (h1 : (a :: es).all noStar = true) :
    PE X (.Call (.Name x p) (a :: es) [] pos) (tD g W fr (appF fs F)) := by
  obtain ⟨hg, ho⟩ := glob_ok G hx
  obtain ⟨h4, _, h5⟩ := okN_d ho
  simp only [List.all_cons, Bool.and_eq_true] at h1
  refine ⟨fun pins s σ H Q I q => ?_⟩
  refine wpAny_Call_Name_kw (ld_blt I hg hm hv ?_ h5 h4)
  exact PyProof.Rows.callWith_type1 (thn (runCa (us0 := []) ha hC I q) fun us s1 z => z.2) (starEach_one h1.1) (any_plain es h1.2)
def ab0 : Expr → Bool
  | .Call (.Name _ _) [] [] _ => false
  | _ => true
theorem ab_ok {attr : Str} {env : Env} {wh : Sem Value} (h : ab0 a = true) : attributeBase a attr env wh = wh := by
  unfold attributeBase
  split
  · simp [ab0] at h
  · rfl
/-- the object behind an instance's value -/
def InsAt (g : Cfg) (H : Hp) (a : Addr) (cl : Nat) : Prop := ∃ dx fs, H a = some (.ins (g.aC cl) dx fs) ∧ ∀ f, f ∉ (match flds cl with | some gs => gs.map fname | none => (List.range 16).map fname) → fs.lookup f = none
theorem Den.insAt {x : D} {v : V} {cl : Nat} {m : List MO} (r : Rel g H ι m) (dn : Den g H ι x v) (e : clsOf m x = some cl) : ∃ a, v = .ref a ∧ ∃ dx fs, H a = some (.ins (g.aC cl) dx fs) := by
  cases x with
  | ins c xs =>
    simp only [Den] at dn
    obtain ⟨a, dx, vs, ns, rfl, ⟨ha, _⟩, _⟩ := dn
    simp only [clsOf, Option.some.injEq] at e
    subst e
    exact ⟨a, rfl, dx, _, ha⟩
  | ref k =>
    simp only [clsOf] at e
    split at e
    · rename_i c fs hm
      simp only [Option.some.injEq] at e
      subst e
      rcases r.at_ k _ hm with ⟨z, _⟩ | ⟨a, ha, dx, fs', h1, _, _⟩
      · cases z
      · simp only [Den] at dn
        exact ⟨a, dn.2 a ha, dx, fs', h1⟩
    · cases e
  | _ => cases e
/-- a field's value -/
theorem zip_lookup {H : Hp} {ι : Io} : ∀ {ns : List Nat} {xs : List D} {vs : List V} {f : Nat} {z : D}, DenL g H ι xs vs → getAt ns xs f = some z → (∀ j, fname j = fname f → j ∈ ns → j = f) → ∃ v, ((ns.map fname).zip vs).lookup (fname f) = some v ∧ Den g H ι z v
  | [], xs, vs, f, z, _, e, _ => by simp [getAt] at e
  | n :: ns, [], vs, f, z, _, e, _ => by simp [getAt] at e
  | n :: ns, x :: xs, vs, f, z, dn, e, hi => by
    simp only [DenL] at dn
    obtain ⟨v, t, rfl, a, b⟩ := dn
    simp only [getAt] at e
    by_cases hn : n = f
    · subst hn
      simp only [if_true, Option.some.injEq] at e
      subst e
      refine ⟨v, ?_, a⟩
      simp [List.lookup]
    · simp only [if_neg hn] at e
      obtain ⟨u, e1, e2⟩ := zip_lookup b e fun j h1 h2 => hi j h1 (List.mem_cons_of_mem _ h2)
      refine ⟨u, ?_, e2⟩
      have hne : (fname f == fname n) = false := by
        rw [beq_eq_false_iff_ne]
        intro z
        exact hn (hi n z.symm (List.mem_cons_self ..))
      simp only [List.map_cons, List.zip_cons_cons, List.lookup, hne]
      exact e1
theorem denF_lookup {H : Hp} {ι : Io} : ∀ {fs : List (Nat × D)} {vs : List (Str × V)} {f : Nat} {z : D}, DenF g H ι fs vs → fget fs f = some z → (∀ j, fname j = fname f → j ∈ fs.map (·.1) → j = f) → ∃ v, vs.lookup (fname f) = some v ∧ Den g H ι z v
  | [], vs, f, z, _, e, _ => by simp [fget] at e
  | (n, x) :: ns, vs, f, z, dn, e, hi => by
    simp only [DenF] at dn
    obtain ⟨v, t, rfl, a, b⟩ := dn
    simp only [fget] at e
    by_cases hn : n = f
    · subst hn
      simp only [if_true, Option.some.injEq] at e
      subst e
      exact ⟨v, by simp [List.lookup], a⟩
    · simp only [if_neg hn] at e
      obtain ⟨u, e1, e2⟩ := denF_lookup b e fun j h1 h2 => hi j h1 (List.mem_cons_of_mem _ h2)
      refine ⟨u, ?_, e2⟩
      have hne : (fname f == fname n) = false := by
        rw [beq_eq_false_iff_ne]
        intro z
        exact hn (hi n z.symm (List.mem_cons_self ..))
      simp only [List.lookup, hne]
      exact e1
theorem fname_inj {j f : Nat} (hf : f < 15) (h : fname j = fname f) : j = f := by
  by_cases hj : j < 15
  · have : ∀ f : Fin 15, ∀ j : Fin 15, fname j.val = fname f.val → j = f := by decide
    exact congrArg Fin.val (this ⟨f, hf⟩ ⟨j, hj⟩ h)
  · have e : fname j = "" := by
      unfold fname
      split <;> first | rfl | omega
    have : ∀ f : Fin 15, fname f.val ≠ "" := by decide
    rw [e] at h
    exact absurd h.symm (this ⟨f, hf⟩)
theorem hasF_lt {cl f : Nat} (h : hasF cl f = true) : f < 15 ∧ cl < 9 := by
  unfold hasF at h
  split at h <;> simp at h <;> omega
/-- the names of the methods -/
def mname : Nat → Str
  | 10 => "label" | 11 => "text" | 12 => "empty" | 13 => "size" | 14 => "possible" | 15 => "history" | 16 => "chain_now" | 17 => "held" | 18 => "let_out" | 19 => "operations"
  | 30 => "index_of" | 31 => "see" | 32 => "see_all" | 33 => "best_number" | 34 => "record" | 35 => "put" | 36 => "take" | 37 => "swap" | 38 => "undo" | 39 => "redo" | 40 => "save" | 41 => "restore" | 42 => "execute" | 43 => "batch"
  | _ => "?"
theorem mname_no (k j : Nat) : mname k ≠ fname j := by
  by_cases hk : k < 44
  · by_cases hj : j < 15
    · have : ∀ k : Fin 44, ∀ j : Fin 15, mname k.val ≠ fname j.val := by decide
      exact this ⟨k, hk⟩ ⟨j, hj⟩
    · have e : fname j = "" := by
        unfold fname
        split <;> first | rfl | omega
      rw [e]
      have : ∀ k : Fin 44, mname k.val ≠ "" := by decide
      exact this ⟨k, hk⟩
  · have e : mname k = "?" := by
      unfold mname
      split <;> first | rfl | omega
    rw [e]
    by_cases hj : j < 15
    · have : ∀ j : Fin 15, ("?" : Str) ≠ fname j.val := by decide
      exact this ⟨j, hj⟩
    · have e : fname j = "" := by
        unfold fname
        split <;> first | rfl | omega
      rw [e]
      decide
theorem kind_no (j : Nat) : ("KIND" : Str) ≠ fname j := by
  by_cases hj : j < 15
  · have : ∀ j : Fin 15, ("KIND" : Str) ≠ fname j.val := by decide
    exact this ⟨j, hj⟩
  · have e : fname j = "" := by
      unfold fname
      split <;> first | rfl | omega
    rw [e]
    decide
theorem zip_none {x : Str} (h : ∀ j, x ≠ fname j) : ∀ (ns : List Nat) (vs : List V), ((ns.map fname).zip vs).lookup x = none
  | [], _ => by simp
  | _ :: _, [] => by simp
  | n :: ns, v :: vs => by
    have : (x == fname n) = false := by rw [beq_eq_false_iff_ne]; exact h n
    simp only [List.map_cons, List.zip_cons_cons, List.lookup, this]
    exact zip_none h ns vs
theorem denF_none {x : Str} (h : ∀ j, x ≠ fname j) {H : Hp} {ι : Io} : ∀ {fs : List (Nat × D)} {vs : List (Str × V)}, DenF g H ι fs vs → vs.lookup x = none
  | [], vs, dn => by simp only [DenF] at dn; subst dn; rfl
  | (n, _) :: ns, vs, dn => by
    simp only [DenF] at dn
    obtain ⟨v, t, rfl, a, b⟩ := dn
    have : (x == fname n) = false := by rw [beq_eq_false_iff_ne]; exact h n
    simp only [List.lookup, this]
    exact denF_none h b
/-- .. an instance, a name that is no field's -/
theorem Den.insN {x : D} {v : V} {cl : Nat} {m : List MO} {nm : Str} (r : Rel g H ι m) (dn : Den g H ι x v) (e : clsOf m x = some cl) (hn : ∀ j, nm ≠ fname j) : ∃ a, v = .ref a ∧ ∃ dx fs, H a = some (.ins (g.aC cl) dx fs) ∧ fs.lookup nm = none := by
  cases x with
  | ins c xs =>
    simp only [Den] at dn
    obtain ⟨a, dx, vs, ns, rfl, ⟨ha, _⟩, _⟩ := dn
    simp only [clsOf, Option.some.injEq] at e
    subst e
    exact ⟨a, rfl, dx, _, ha, zip_none hn ns vs⟩
  | ref k =>
    simp only [clsOf] at e
    split at e
    · rename_i c fs hm
      simp only [Option.some.injEq] at e
      subst e
      rcases r.at_ k _ hm with ⟨z, _⟩ | ⟨a, ha, dx, fs', h1, h2, _⟩
      · cases z
      · simp only [Den] at dn
        exact ⟨a, dn.2 a ha, dx, fs', h1, denF_none hn h2⟩
    · cases e
  | _ => cases e
/-- .. a field -/
theorem Den.fldAt {x z : D} {v : V} {m : List MO} {f : Nat} (r : Rel g H ι m) (dn : Den g H ι x v) (e : fldD m x f = .ok z) : ∃ a cl dx fs u, v = .ref a ∧ H a = some (.ins (g.aC cl) dx fs) ∧ hasF cl f = true ∧ fs.lookup (fname f) = some u ∧ Den g H ι z u := by
  cases x with
  | ins c xs =>
    simp only [Den] at dn
    obtain ⟨a, dx, vs, ns, rfl, ⟨ha, _⟩, h1, h2, h3⟩ := dn
    simp only [fldD, h1] at e
    obtain ⟨hf, e⟩ := gd_ok e
    obtain ⟨u, e1, e2⟩ := zip_lookup h3 (by cases q : getAt ns xs f <;> rw [q] at e <;> cases e; rfl) fun j h _ => fname_inj (hasF_lt hf).1 h
    exact ⟨a, c, dx, _, u, rfl, ha, hf, e1, e2⟩
  | ref k =>
    simp only [fldD] at e
    split at e
    · rename_i c fs hm
      obtain ⟨hf, e⟩ := gd_ok e
      rcases r.at_ k _ hm with ⟨z, _⟩ | ⟨a, ha, dx, fs', h1, h2, _⟩
      · cases z
      · simp only [Den] at dn
        obtain ⟨u, e1, e2⟩ := denF_lookup h2 (by cases q : fget fs f <;> rw [q] at e <;> cases e; rfl) fun j h _ => fname_inj (hasF_lt hf).1 h
        exact ⟨a, c, dx, fs', u, dn.2 a ha, h1, hf, e1, e2⟩
    · cases e
  | _ => cases e
end
end SV
set_option linter.all false
set_option Elab.async false
set_option maxRecDepth 100000
set_option maxHeartbeats 4000000
namespace SV
open PySem PySem.Spec PyProof.Rows L2
theorem calm_opt {α : Type} {o : Option α} : ∀ c d s, opt o ≠ .exc c d s := by intro c d s; cases o <;> (intro z; cases z)
def noCall (c : List D → List MO → Out (D × List MO)) : Prop := c = fun _ _ => .bad
/-- built-in names that the text leaves as they are -/
def bltNames : List Str := ["len", "abs", "min", "max", "sorted", "int", "str", "list", "tuple", "dict", "sum", "all", "isinstance", "enumerate", "range", "zip", "set", "bool", "super"]
/-- the maker of a class -/
def initN : Nat → Nat
  | 4 => 14 | 5 => 20 | 6 => 30 | 7 => 50 | 8 => 61 | _ => 3
/-- the names of the special methods -/
def sname : Nat → Str
  | 1 => "__eq__" | 2 => "__neg__" | 3 => "__len__" | 4 => "__getitem__" | _ => "__rshift__"
structure SpcIn (K : PySem.W.Frag) (C : Addr) (m : Nat) (f : Addr) : Prop where
  at_ : PySem.W.findIn K (.ref C) (sname m) = some (some (.ref f))
  fi : PySem.W.isFn K (.ref f) = true
  fn : PySem.W.fnIn K f = true
  sf : PySem.W.selfFirst K C = true
/-- the built-in types that isinstance is asked for -/
def tyN : Option Ty → String
  | none => "NoneType" | some .int => "int" | some .bool => "bool" | some .str => "str" | some .tuple => "tuple" | some .list => "list" | some .dict => "dict" | some (.own _) => "object"
/-- an instance's class, for isinstance -/
structure InsT (K : PySem.W.Frag) (C : Addr) : Prop where
  ha : PySem.W.findIn K (.ref C) "__class__" = some (some (.builtin "object.__class__"))
  hn : PySem.W.specialIn K (.builtin "object.__class__") "__get__" = some (some (.builtin "getset_descriptor.__get__"))
  htk : PySem.W.takesIn K (.builtin "object.__class__") = some true
  hm : PySem.W.mroIn K C (.type "object") = some true
  kb : ∀ t : Ty, (∀ c, t ≠ .own c) → PySem.W.kitOne K (.ref C) (.type (tyN (some t))) = some false
/-- a class that isinstance is asked for -/
structure IsiT (X : Cx) (g : Cfg) (t : Nat) : Prop where
  mg : ∀ x, tGet tCls x = some t → X.mg x = some (.ref (g.aC t))
  kb : ∀ a : Option Ty, (∀ c, a ≠ some (.own c)) → PySem.W.kitOne X.K (.type (tyN a)) (.ref (g.aC t)) = some false
  ko : ∀ c, c < 9 → (t = 0 ∨ (t = 5 ∧ c ≤ 5)) → PySem.W.kitOne X.K (.ref (g.aC c)) (.ref (g.aC t)) = some (isSub c t)
/-- what is known of the text where SV's world is w: k, how deep -/
structure Fx (X : Cx) (g : Cfg) (W : WX) (w : SV.W) (CX : CXT) (k : Nat) : Prop where
  room : Room (k + 2) X.A
  px : PassX CX X W
  pxF : ∀ H s e s', ¬ CX X.stack H s (fun _ _ _ => False) e s'
  cls : ∀ cl, cl < 9 → Cls X.K (g.aC cl)
  fld : ∀ cl f, hasF cl f = true → NoAttr X.K (g.aC cl) (fname f)
  kcon : ∀ cl j d, w.kcon cl j = some d → cl < 9 ∧ j = 0 ∧ ∃ z u, d = .str z ∧ Con X.K (g.aC cl) "KIND" (.str z) u
  fn : ∀ i, noCall (w.call i) ∨ FnR X.prog X.w X.K X.mg X.base CX k (g.aF i) (spF g (freshB i) (w.call i))
  gfn : ∀ x i, (x, i) ∈ g.fns → X.mg x = some (.ref (g.aF i)) ∧ PySem.W.keepIn X.K (.ref (g.aF i)) = true
  gcl : ∀ x cl, (x, cl) ∈ g.clss → w.init cl = some (initN cl) ∧ X.mg x = some (.ref (g.aC cl)) ∧ PySem.W.keepIn X.K (.ref (g.aC cl)) = true ∧ Mk X.K (g.aC cl) (g.aF (initN cl))
  mono : ∀ H s E E' e s', CX X.stack H s E e s' → (∀ c d H, E c d H → E' c d H) → CX X.stack H s E' e s'
  own : PassesOwn (model X.prog X.w) X.A X.env X.xe
  mth : ∀ cl m i, w.meth cl m = some i → cl < 9 ∧ (30 ≤ m → Meth X.K (g.aC cl) (mname m) (g.aF i)) ∧ (10 ≤ m → m < 30 → ∃ p, PropOf X.K (g.aC cl) (mname m) p (g.aF i)) ∧ (m = 0 → StX.CallO X.K (g.aC cl) (g.aF i)) ∧ (1 ≤ m → m ≤ 5 → SpcIn X.K (g.aC cl) m (g.aF i))
  ins : ∀ cl, cl < 9 → InsT X.K (g.aC cl)
  isi : ∀ t, t ∈ g.asks → IsiT X g t
  cI : ∀ x n, (x, n) ∈ g.cnI → ∃ t, X.mg x = some (.int n t)
  cS : ∀ x z, (x, z) ∈ g.cnS → ∃ t, X.mg x = some (.str z t)
  cv : (("Chain" : Str), 5) ∈ g.clss → ∃ mc u, ClX.CRead X.K (g.aC 5) mc ∧ ClX.CVal X.K (g.aC 5) mc "MAX_CELLS" (.int 8) u
  blt : ∀ x, bltNames.contains x = true → X.mg x = none
section
variable {X : Cx} {g : Cfg} {c : Tc} {W : WX} {w : SV.W} {x : Str} {i : Nat} {pins : List (Addr × Obj)} {s : Shared} {σ : L2.St} {H : Hp} {ι : Io} {st : S} {CX : CXT} {k : Nat} {f : Addr}
variable {a b d : Expr} {a' b' d' : Ex} {es : List Expr} {es' : Exs} {p pos : Pos} {fra frb frd fr : Bool} {fa fb fd : S → Out (D × S)} {fs : S → Out (List D × S)} {F : List D → S → Out (D × S)}
theorem fn_or (T : Fx X g W w CX k) {xs : List D} {P : D × S → Prop} {E : Nat → D → S → Prop} (q : OutP (SV.inS st (w.call i xs st.m)) P E) : FnR X.prog X.w X.K X.mg X.base CX k (g.aF i) (spF g (freshB i) (w.call i)) := by
  rcases T.fn i with h | h
  · rw [h] at q; exact q.elim
  · exact h
/-- a call of a method by values -/
def mthF (w : SV.W) (o : D) (m : Nat) : List D → S → Out (D × S) := fun xs s => callM w o m xs s
/-- e.f -/
theorem ev_fld {f : Nat} {m : Str} (G : Gd X g c) (T : Fx X g W w CX k) (hm : fname f = m) (hab : ab0 a = true) (ha : PE X a (tD g W fra fa)) : PE X (.Attribute a m pos) (tD g W false (fun s => do
    let (x, s) ← fa s
    let r ← fldD s.m x f
    .ok (r, s))) := by
  refine ⟨fun pins s σ H Q I q => ?_⟩
  obtain ⟨ι, st, sr, o⟩ := q
  refine attr_of (ab_ok hab) (runD ha I sr (OutP.bnd o) (fun _ _ _ z => z) fun v vv s1 H1 ι1 x st1 I1 r1 l1 sr1 d1 o1 => ?_)
  have o1 := OutP.bnd o1
  cases e : fldD st1.m x f with
  | bad => rw [e] at o1; exact o1.elim
  | exc cc dd tt =>
    exfalso
    cases x <;> simp only [fldD] at e <;> (try (exact absurd e (by intro z; cases z)))
    · split at e
      · exact calm_gd (fun c d s => calm_opt c d s) _ _ _ e
      · cases e
    · split at e
      · exact calm_gd (fun c d s => calm_opt c d s) _ _ _ e
      · cases e
  | ok z =>
    rw [e] at o1
    obtain ⟨p, cl, dx, fs, u, rfl, h1, h2, h3, h4⟩ := d1.fldAt sr1.2 e
    cases r1
    subst hm
    refine getattr_ok I1 h1 (T.cls cl (hasF_lt h2).2) (T.fld cl f h2) h3 fun uu s2 I2 r2 => ⟨u, H1, I2, r2, ?_⟩
    exact o1 u H1 ι1 l1 sr1 h4 Nw.no
/-- e.KIND -/
theorem ev_kcn (G : Gd X g c) (T : Fx X g W w CX k) (hab : ab0 a = true) (ha : PE X a (tD g W fra (evE w a'))) : PE X (.Attribute a "KIND" pos) (tD g W false (evE w (.kcn a' 0))) := by
  refine ⟨fun pins s σ H Q I q => ?_⟩
  obtain ⟨ι, st, sr, o⟩ := q
  simp only [evE] at o
  refine attr_of (ab_ok hab) (runD ha I sr (OutP.bnd o) (fun _ _ _ z => z) fun v vv s1 H1 ι1 x st1 I1 r1 l1 sr1 d1 o1 => ?_)
  dsimp only at o1
  split at o1
  · rename_i cl hcl
    obtain ⟨d, e, o1⟩ := OutP.opt.mp (OutP.bnd o1)
    obtain ⟨h1, _, z, u, rfl, hC⟩ := T.kcon cl 0 d e
    obtain ⟨p, rfl, dx, fs, h3, h4⟩ := d1.insN sr1.2 hcl kind_no
    cases r1
    exact getcon_ok I1 h3 (T.cls cl h1) hC h4 fun s2 I2 => ⟨.str z, H1, I2, hC.rel, o1 (.str z) H1 ι1 l1 sr1 (by simp only [Den]) Nw.no⟩
  · exact o1.elim
theorem all_plain {env : Env} : ∀ es : List Expr, es.all noStar = true → (backTo pos (starEach es env)).all (fun x => !x.1) = true
  | [], _ => rfl
  | e :: r, h => by
    simp only [List.all_cons, Bool.and_eq_true] at h
    rw [starEach_one h.1]
    show (true && (backTo pos (starEach r env)).all (fun x => !x.1)) = true
    rw [all_plain r h.2]
    rfl
theorem few_ok {env : Env} (h : es.all noStar = true) (hl : es.length < 29) : methodCallForm (es.length + ([] : List Keyword).length) (backTo pos (starEach es env)) (backToKw pos (keywordEach [] env)) = true := by
  unfold methodCallForm
  rw [all_plain es h]
  show (true && true && decide (es.length + 0 + 0 < 30)) = true
  simp; omega
theorem mcall_of {o : Expr} {nm : Str} {apos : Pos} {args : List Expr} {Q : Value → Shared → Prop} (hab : ab0 o = true) (h1 : args.all noStar = true) (hl : args.length < 29) (hline : (apos.endLine == pos.line) = true)
    (h : wpAny (model X.prog X.w) X.A (eval o X.env) (fun ov s₁ => wpAny (model X.prog X.w) X.A (getMethod ov nm (do return (← importBound o X.env).getD true)) (fun fx s₂ =>
      wpAny (model X.prog X.w) X.A (callWith pos fx.1 fx.2 (backTo pos (starEach args X.env)) (backToKw pos (keywordEach [] X.env))) Q X.xe s₂) X.xe s₁) X.xe s) :
    wpAny (model X.prog X.w) X.A (eval (.Call (.Attribute o nm apos) args [] pos) X.env) Q X.xe s := by
  rw [arm_eval_Call, ab_ok hab]
  refine wpAny_bind (wpAny_mono h (fun ov s₁ h₁ => ?_) fun _ _ e => e)
  refine wpAny_bind (wpAny_standAt ?_)
  have hpos : methodCallPos true o X.env apos pos = pure pos := by unfold methodCallPos; simp [hline]
  unfold methodCall
  rw [few_ok h1 hl]
  refine wpAny_bind (wpAny_holding ?_)
  show wpAny _ _ (getMethod ov nm (do return (← importBound o X.env).getD true)) _ _ _
  refine wpAny_mono h₁ (fun fx s₂ h₂ => ?_) fun _ _ e => e
  exact wpAny_bind (wpAny_of_eq hpos h₂)
/-- o.m(..), a method of an own class -/
theorem ev_mth {m : Nat} {nm : Str} {apos : Pos} (T : Fx X g W w CX k) (hm : mname m = nm) (h30 : 30 ≤ m) (hab : ab0 a = true) (ha : PE X a (tD g W fra (evE w a'))) (hes : PA X es (tDs g W (evEs w es'))) (h1 : es.all noStar = true) (hl : es.length < 29) (hline : (apos.endLine == pos.line) = true) (h0 : es = [] → es' = .nil) :
    PE X (.Call (.Attribute a nm apos) es [] pos) (tD g W false (evE w (.mth a' m es'))) := by
  refine ⟨fun pins s σ H Q I q => ?_⟩
  obtain ⟨ι, st, sr, o⟩ := q
  simp only [evE] at o
  refine mcall_of hab h1 hl hline (runD ha I sr (OutP.bnd o) (fun _ _ _ z => z) fun v vv s1 H1 ι1 x st1 I1 r1 l1 sr1 d1 o1 => ?_)
  dsimp only at o1
  split at o1
  · rename_i cl hcl
    split at o1
    · rename_i f hf
      obtain ⟨hc9, hM, _⟩ := T.mth cl m f hf
      obtain ⟨p, rfl, dx, fs, h3, h4⟩ := d1.insN sr1.2 hcl (nm := mname m) (mname_no m)
      cases r1
      subst hm
      refine getmeth_ok I1 h3 (T.cls cl hc9) (hM h30) h4 ?_
      have fin : ∀ (us : List Value) (s2 : Shared) (H2 : Hp) (ι2 : Io) (xs : List D) (vs : List V) (st2 : S), Inv X pins σ H2 s2 → Vals vs us → Le H1 ι1 H2 ι2 → SR g H2 ι2 σ st2 → DenL g H2 ι2 xs vs →
          OutP (SV.inS st2 (w.call f (x :: xs) st2.m)) (fun p => ∀ v H' ι', Le H ι H' ι' → SR g H' ι' σ p.2 → Den g H' ι' p.1 v → Nw false g (fun H1 ι1 => Le H ι H1 ι1 ∧ SR g H1 ι1 σ p.2) H' ι' p.1 v → Q v H') (XC g W H ι σ) →
          wpAny (model X.prog X.w) X.A (call (.ref (g.aF f)) (.ref p :: us)) (EP X pins σ Q) X.xe s2 := by
        intro us s2 H2 ι2 xs vs st2 I2 r2 l2 sr2 d2 o2
        have l12 := l1.trans l2
        exact (ca_fn (fn_or T o2) (T.room.mono (by omega)) T.px).off pins s2 σ H2 ι2 (x :: xs) (.ref p :: vs) (.ref p :: us) st2 Q I2 sr2 (DenL.cons (d1.le l2) d2) (.cons rfl r2) (OutP.on l12 o2)
      cases es with
      | nil =>
        rw [h0 rfl] at o1
        simp only [evEs] at o1
        exact PySem.W.callWith_K0 (first := [.ref p]) I1.kIn (hM h30).kp (fin [] s1 H1 ι1 [] [] st1 I1 .nil (Le.refl _ _) sr1 (by simp only [DenL]) o1)
      | cons e es =>
        simp only [List.all_cons, Bool.and_eq_true] at h1
        refine PySem.W.callWith_K (first := [.ref p]) (h₀ := X.base) I1.ok.mod.kin (hM h30).kp (runDs hes I1 sr1 (OutP.bnd o1) (fun _ _ _ z => z.mono l1) fun vs us s2 H2 ι2 xs st2 I2 r2 l2 sr2 d2 o2 => ⟨I2.kIn, ?_⟩) (starEach_one h1.1) (any_plain es h1.2)
        exact fin us s2 H2 ι2 xs vs st2 I2 r2 l2 sr2 d2 o2
    · exact o1.elim
  · exact o1.elim
/-- e.f, a property -/
theorem OutP.noX {α : Type} {o : Out α} {P : α → Prop} {E : Nat → D → S → Prop} (h : OutP (SV.noX o) P E) : OutP o P (fun _ _ _ => False) := by
  cases o with
  | ok a => exact h
  | exc c d s => exact h.elim
  | bad => exact h
theorem ev_prp {m : Nat} {nm : Str} (T : Fx X g W w CX k) (hm : mname m = nm) (h10 : 10 ≤ m) (h30 : m < 30) (hab : ab0 a = true) (hfr : fr = true → ∀ cl i, w.meth cl m = some i → freshB i = true) (ha : PE X a (tD g W fra (evE w a'))) : PE X (.Attribute a nm pos) (tD g W fr (evE w (.prp a' m))) := by
  refine ⟨fun pins s σ H Q I q => ?_⟩
  obtain ⟨ι, st, sr, o⟩ := q
  simp only [evE] at o
  refine attr_of (ab_ok hab) (runD ha I sr (OutP.bnd o) (fun _ _ _ z => z) fun v vv s1 H1 ι1 x st1 I1 r1 l1 sr1 d1 o1 => ?_)
  have o1 := OutP.noX o1
  unfold callM at o1
  split at o1
  · rename_i cl hcl
    split at o1
    · rename_i f hf
      obtain ⟨hc9, _, hP, _⟩ := T.mth cl m f hf
      obtain ⟨pp, hp⟩ := hP h10 h30
      subst hm
      obtain ⟨p, rfl, dx, fs, ea, h4⟩ := d1.insN sr1.2 hcl (nm := mname m) (mname_no m)
      cases r1
      have hF := fn_or T o1
      rw [OutP.inS] at o1
      obtain ⟨mA, O, _, _, _, _⟩ := ins_get I1.hok ea
      obtain ⟨od, J, _⟩ := O.look
      obtain ⟨rest, hrec⟩ := hp.rec_
      have I2 := I1.tok (s1.toks + 1)
      have hc : (PySem.W.clsIn X.K (g.aC cl)).isSome = true := by
        obtain ⟨cd, hc, _⟩ := PySem.W.any_some (T.cls cl hc9).hd
        rw [hc]
        rfl
      refine PySem.W.get_bind I1.kIn J (PySem.W.plainGet_of ((T.cls cl hc9).get (mname m))).1 (PySem.W.findObj_data hc hp.at_ hp.get hp.tak) (PySem.W.plainGet_of ((T.cls cl hc9).get (mname m))).2 (wpAny_call (PySem.W.prop_get (s := { s1 with toks := s1.toks + 1 }) I1.kIn hrec ?_))
      have h : spF g (freshB f) (w.call f) [.ref p] H1 Q (fun _ _ _ => False) := ⟨ι1, [x], st1.m, sr1.2, DenL.cons d1 (by simp only [DenL]), o1.mono (fun z hz v H' ι' l r dn nw => hz v H' ι' (l1.trans l) ⟨sr1.1.le l, r⟩ dn ((nw.wk fun e => hfr e cl f hf).imp fun H2 ι2 z => ⟨l1.trans z.1, sr1.1.le z.1, z.2⟩)) fun _ _ _ z => z.elim⟩
      refine codeAny_mono (hF X.A.in1 X.stack { s1 with toks := s1.toks + 1 } H1 [.ref p] [.ref p] Q _ ((T.room.mono (by omega : k + 1 ≤ k + 2)).in1) I2.env0.in1 (.cons rfl .nil) h) fun r s' hq => ?_
      cases r with
      | error er => exact (T.pxF _ _ _ _ hq).elim
      | ok fl =>
        cases fl with
        | ret u =>
          obtain ⟨v, H', I3, rv, q3⟩ := I2.after hq
          show wpAny _ _ (handedOut u) _ _ _
          rw [PySem.W.handedOut_of (handed_of rv)]
          exact wpAny_pure ⟨v, H', I3, rv, q3⟩
        | next => exact False.elim hq
        | brk => exact False.elim hq
        | cont => exact False.elim hq
    · exact o1.elim
  · exact o1.elim
/-- an instance is called -/
theorem ev_app (T : Fx X g W w CX k) (ha : PE X a (tD g W fra (evE w a'))) (hes : PA X (b :: es) (tDs g W (evEs w es'))) (h1 : (b :: es).all noStar = true)
    (ht : eval (.Call a (b :: es) [] pos) X.env = (do callWith pos (← eval a X.env) [] (backTo pos (starEach (b :: es) X.env)) (backToKw pos (keywordEach [] X.env)))) :
    PE X (.Call a (b :: es) [] pos) (tD g W false (evE w (.app a' es'))) := by
  refine ⟨fun pins s σ H Q I q => ?_⟩
  obtain ⟨ι, st, sr, o⟩ := q
  simp only [evE] at o
  simp only [List.all_cons, Bool.and_eq_true] at h1
  refine Call_ (runD ha I sr (OutP.bnd o) (fun _ _ _ z => z) fun v vv s1 H1 ι1 x st1 I1 r1 l1 sr1 d1 o1 => ?_) ht
  obtain ⟨ho, o1⟩ := OutP.gd.mp (OutP.bnd o1)
  have hv : ∃ p, v = .ref p := by
    unfold isOwn at ho
    obtain ⟨cl, hcl⟩ := Option.isSome_iff_exists.mp ho
    obtain ⟨p, e, _⟩ := d1.insAt sr1.2 hcl
    exact ⟨p, e⟩
  obtain ⟨p, rfl⟩ := hv
  cases r1
  refine StX.callO_with (runDs hes I1 sr1 (OutP.bnd o1) (fun _ _ _ z => z.mono l1) fun vs us s2 H2 ι2 xs st2 I2 r2 l2 sr2 d2 o2 => ?_) (starEach_one h1.1) (any_plain es h1.2)
  unfold callM at o2
  have l12 := l1.trans l2
  dsimp only at o2
  split at o2
  · rename_i cl hcl
    split at o2
    · rename_i f hf
      obtain ⟨hc9, _, _, hC, _⟩ := T.mth cl 0 f hf
      have hC := hC rfl
      have d12 := d1.le l2
      obtain ⟨p', e, dx, fs, ea⟩ := d12.insAt sr2.2 hcl
      cases e
      obtain ⟨mA, O, _⟩ := ins_get I2.hok ea
      obtain ⟨od, J, _⟩ := O.look
      exact ⟨⟨_, _, _, J, rfl⟩, wpAny_call (PySem.W.kco_code I2.kIn J rfl hC.at_ hC.fn hC.fi (run_sp (us := .ref p :: us) (vs := .ref p :: vs) (fn_or T o2) (T.room.mono (by omega)) T.px I2 sr2 (.cons rfl r2) (DenL.cons d12 d2) (OutP.carry l12 o2 fun z hz v H' ι' l r dn _ => hz v H' ι' (l12.trans l) r dn Nw.no)))⟩
    · exact o2.elim
  · exact o2.elim
end
end SV
set_option linter.all false
set_option Elab.async false
set_option maxRecDepth 100000
set_option maxHeartbeats 4000000
namespace SV
open PySem PySem.Spec PyProof.Rows L2
theorem getItem_tuple_whole {prog : Program} {w : World} {A : Around} {E : Value → Shared → Prop} {s : Shared} {t sl : Addr} {items : Array Value} {vl vu : Value} {lo hi : Option Int} {Q : Value → Shared → Prop} (ht : IsTup s.heap t items) (hs : s.heap.IsSliceOf sl vl vu .none) (pl : IsPart vl lo) (pu : IsPart vu hi)
    (hw : HT.sIx items.size 0 lo = 0 ∧ HT.sIx items.size items.size hi = items.size) (h : Q (.ref t) s) : wpAny (model prog w) A (getItem (.ref t) (.ref sl)) Q E s := by
  obtain ⟨os, hos, hcs, hds⟩ := id hs
  have hTs : s.TypeIs (.ref sl) "slice" := ⟨os, hos, hcs⟩
  unfold getItem
  try with_reducible refine wpAny_holding ?_
  first | refine wpAny_bind (wpAny_pure ?_) | skip
  refine wpAny_bind (wpAny_sequenceKey ht.typeIs (by decide) ?_)
  refine wpAny_bind (wpAny_callSpecial?_slot (name := Str.ofString "__getitem__") ht.typeIs PyProof.Rows.slot_tuple_getitem
    (wpAny_call_entry PyProof.Rows.slot_tuple_getitem ht.typeIs PyProof.Rows.entry_tuple_getitem ?_ (PyProof.Rows.args_tuple_getitem _ _)))
  show wpAny _ _ (Builtin.Tuple.tupleItemsOf (.ref t) >>= _) _ _ s
  refine wpAny_bind (PyProof.Rows.tupleItemsOf_ ht ?_)
  refine wpAny_bind (wpAny_typeOf hTs ?_)
  rw [if_pos (by decide)]
  refine wpAny_bind (HT.sliceApplied_gen hs pl pu ?_)
  have hyes : ((((HT.sIx items.size 0 lo : Nat) : Int) == 0 && (1 : Int) == 1 && (HT.sIx items.size items.size hi - HT.sIx items.size 0 lo) == items.size) = true) := by
    rw [hw.1, hw.2]
    simp
  show wpAny _ _ (if (((HT.sIx items.size 0 lo : Nat) : Int) == 0 && (1 : Int) == 1 && (HT.sIx items.size items.size hi - HT.sIx items.size 0 lo) == items.size) = true then _ else _) _ _ s
  rw [if_pos hyes]
  have hex : wpAny (model prog w) A.in1 (Builtin.Tuple.tupleIsExact (.ref t)) (fun b s' => b = true ∧ s' = s) E s := by
    unfold Builtin.Tuple.tupleIsExact
    refine wpAny_bind (wpAny_typeOf ht.typeIs ?_)
    exact wpAny_pure ⟨rfl, rfl⟩
  refine wpAny_bind (wpAny_mono hex (fun b s' q => ?_) fun _ _ e => e)
  obtain ⟨rfl, rfl⟩ := q
  rw [if_pos rfl]
  first
    | exact wpAny_bind (wpAny_rule (wpAny_pure ⟨_, rfl, wpAny_pure h⟩))
    | (refine wpAny_bind ?_; unfold rule; first | exact wpAny_pure (wpAny_pure ⟨_, rfl, wpAny_pure h⟩) | skip)
def rSlTW (K : PySem.W.Frag) : V → Option Int → Option Int → Hp → VK → Prop := fun x lo hi H Q => ∃ a xs, x = .ref a ∧ SqT K H a xs ∧ (HT.sIx xs.length 0 lo = 0 ∧ HT.sIx xs.length xs.length hi = xs.length) ∧ Q (.ref a) H
theorem sl_tupW {X : Cx} : SlR X (rSlTW X.K) := by
  intro pins s σ H x v vl vu lo hi sl Q I rx hs pl pu h
  obtain ⟨a, xs, rfl, hx, hw, q⟩ := h
  cases rx
  obtain ⟨its, r, ht, hz⟩ := I.tuple hx
  have hlen : its.toArray.size = xs.length := by rw [List.size_toArray]; exact r.length.symm
  exact ⟨"tuple", _, PyProof.Rows.slot_tuple_getitem.lookup, ht.typeIs, getItem_tuple_whole ht hs pl pu (by rw [hlen]; exact hw) ⟨.ref a, H, I, rfl, q⟩⟩
theorem clamp_sIx (n : Nat) (i : Int) (d : Nat) : HT.sIx n d (some i) = clampI i n := rfl
theorem slice_sIx {α : Type} (xs : List α) (lo hi : Option Int) : sliceL xs lo hi = (xs.take (HT.sIx xs.length xs.length hi)).drop (HT.sIx xs.length 0 lo) := by cases lo <;> cases hi <;> rfl
theorem cutV_slice (xs : List V) (lo hi : Option Int) : cutV xs lo hi = sliceL xs lo hi := by
  unfold cutV sliceL
  have h1 : HT.sIx xs.length 0 lo = (match lo with | none => 0 | some i => clampI i xs.length) := by cases lo <;> rfl
  have h2 : HT.sIx xs.length xs.length hi = (match hi with | none => xs.length | some i => clampI i xs.length) := by cases hi <;> rfl
  rw [h1, h2]
  simp only []
  rw [List.drop_take]
  all_goals (cases lo <;> cases hi <;> rfl)
section
variable {X : Cx} {g : Cfg} {c : Tc} {W : WX} {w : SV.W} {x : Str} {i : Nat} {pins : List (Addr × Obj)} {s : Shared} {σ : L2.St} {H : Hp} {ι : Io} {st : S} {CX : CXT} {k : Nat} {f : Addr}
variable {a b d : Expr} {a' b' d' : Ex} {es : List Expr} {es' : Exs} {p p2 pos : Pos} {fra frb frd fr : Bool} {fa fb fd : S → Out (D × S)}
theorem DenL.slice {xs : List D} {vs : List V} (h : DenL g H ι xs vs) (lo hi : Option Int) : DenL g H ι (sliceL xs lo hi) (sliceL vs lo hi) := by
  unfold sliceL
  rw [h.length]
  exact DenL.drop _ (DenL.take _ h)
/-- a slice's part -/
def tO (g : Cfg) (W : WX) (f : S → Out (Option Int × S)) : TO := fun σ H Q => ∃ ι s, SR g H ι σ s ∧ OutP (f s) (fun p => ∀ H' ι', Le H ι H' ι' → SR g H' ι' σ p.2 → Q p.1 H') (XC g W H ι σ)
theorem po_noneD : PO X none (tO g W (evO w .none)) := ⟨fun pins s σ H Q I q => po_none.run pins s σ H Q I (by
  obtain ⟨ι, st, sr, o⟩ := q
  simp only [evO] at o
  exact o H ι (Le.refl _ _) sr)⟩
theorem po_someD (ha : PE X a (tD g W fra (evE w a'))) : PO X (some a) (tO g W (evO w (.some a'))) := ⟨fun pins s σ H Q I q => (po_some ha).run pins s σ H Q I (by
  obtain ⟨ι, st, sr, o⟩ := q
  simp only [evO] at o
  refine tD.then sr (OutP.bnd o) (fun _ _ _ z => z) fun x s1 v H1 ι1 o1 l1 sr1 d1 _ => ?_
  have o1 := OutP.bnd o1
  cases x with
  | int i => simp only [Den] at d1; exact ⟨_, d1, o1 H1 ι1 l1 sr1⟩
  | _ => exact o1.elim)⟩
theorem cutS_sub (z : Str) (lo hi : Option Int) : cutS z lo hi = Str.sub z lo hi := by
  unfold cutS Str.sub strOf sliceL
  have hn : z.cps.toList.length = z.length := by simp [Str.length]
  have h1 : HT.sIx z.length 0 lo = (match lo with | none => 0 | some i => clampI i z.cps.toList.length) := by rw [hn]; cases lo <;> rfl
  have h2 : HT.sIx z.length z.length hi = (match hi with | none => z.cps.toList.length | some i => clampI i z.cps.toList.length) := by rw [hn]; cases hi <;> rfl
  rw [h1, h2]
  simp only []
  rw [List.drop_take]
  all_goals (cases lo <;> cases hi <;> rfl)
theorem ev_slc {lo hi : Option Expr} {fl fh : Exo} (ha : PE X a (tD g W fra (evE w a'))) (hl : PO X lo (tO g W (evO w fl))) (hh : PO X hi (tO g W (evO w fh))) : PE X (.Subscript a (.Slice lo hi none p2) pos) (tD g W true (evE w (.slc a' fl fh))) := by
  refine PE.imp (pe_slice (SlR.or sl_str (SlR.or sl_list (SlR.or sl_tup sl_tupW))) ha hl hh) fun σ H Q q => ?_
  obtain ⟨ι, st, sr, o⟩ := q
  simp only [evE] at o
  refine tD.then sr (OutP.bnd o) (fun _ _ _ z => z) fun x s1 v H1 ι1 o1 l1 sr1 d1 nw1 => ?_
  clear nw1
  refine ⟨ι1, s1, sr1, (OutP.bnd o1).mono (fun q hq H2 ι2 l2 sr2 => ?_) fun _ _ _ z => z.mono l1⟩
  have l12 := l1.trans l2
  refine ⟨ι2, q.2, sr2, (OutP.bnd hq).mono (fun q2 hq2 H3 ι3 l3 sr3 => ?_) fun _ _ _ z => z.mono l12⟩
  have l13 := l12.trans l3
  have d3 := d1.le (l2.trans l3)
  have hq2 := OutP.bnd hq2
  have hx : (∃ z, x = .str z) ∨ (∃ xs, x = .tup xs) ∨ slcD q2.2.m x q.1 q2.1 = (match rslv q2.2.m x with | .lst xs => .ok (.lst (sliceL xs q.1 q2.1)) | _ => .bad) := by
    cases x <;> first | exact .inl ⟨_, rfl⟩ | exact .inr (.inl ⟨_, rfl⟩) | exact .inr (.inr rfl)
  rcases hx with ⟨z, rfl⟩ | ⟨xs, rfl⟩ | hx
  · unfold slcD at hq2
    obtain ⟨hz, hq2⟩ := OutP.gd.mp (OutP.bnd hq2)
    simp only [Den] at d3
    refine .inl ⟨z, d3, by rw [← sizeL_eq]; exact of_decide_eq_true hz, ?_⟩
    rw [cutS_sub]
    exact hq2 _ H3 ι3 l13 sr3 (by simp only [Den]) (Nw.flat (by intro a; constructor <;> (intro z; cases z)))
  · unfold slcD at hq2
    have dt := d3
    obtain ⟨p, vs, rfl, hp, dn⟩ := d3.tuple
    by_cases hw : (HT.sIx vs.length 0 q.1 = 0 ∧ HT.sIx vs.length vs.length q2.1 = vs.length)
    · refine .inr (.inr (.inr ⟨p, vs, rfl, SqT.of hp, hw, ?_⟩))
      refine hq2 _ H3 ι3 l13 sr3 ?_ nolT
      have e : sliceL xs q.1 q2.1 = xs := by
        rw [slice_sIx, dn.length, hw.1, hw.2, ← dn.length]
        simp
      rw [e]
      exact dt
    · refine .inr (.inr (.inl ⟨p, vs, rfl, SqT.of hp, hw, fun r hr => ?_⟩))
      rw [cutV_slice]
      exact hq2 _ _ ι3 (l13.trans (Le.new hr)) (sr3.new hr) (Den.newT sr3.2 hr (dn.slice _ _)) nolT
  · rw [hx] at hq2
    split at hq2
    · rename_i xs e
      obtain ⟨p, vs, rfl, hp, dn⟩ := d3.list sr3.2 e
      refine .inr (.inl ⟨p, vs, rfl, SqL.of hp, fun r hr => ?_⟩)
      rw [cutV_slice]
      exact hq2 _ _ ι3 (l13.trans (Le.new hr)) (sr3.new hr) (Den.newL sr3.2 hr (dn.slice _ _)) (Nw.newS hr l13 sr3 (dn.slice _ _))
    · exact hq2.elim
end
end SV
set_option linter.all false
set_option Elab.async false
set_option maxRecDepth 100000
set_option maxHeartbeats 4000000
namespace SV
open PySem PySem.Spec PyProof.Rows L2
section
variable {X : Cx} {g : Cfg} {c : Tc} {W : WX} {w : SV.W} {x : Str} {i : Nat} {pins : List (Addr × Obj)} {s : Shared} {σ : L2.St} {H : Hp} {ι : Io} {st : S} {CX : CXT} {k : Nat} {f : Addr} {m : List MO}
theorem Den.dctAt {d : D} {v : V} {es : List D} (r : Rel g H ι m) (h : Den g H ι d v) (e : dctOf m d = some es) : ∃ a, v = .ref a ∧ DctAt g H ι a es := by
  cases d with
  | dct es' =>
    simp only [dctOf, Option.some.injEq] at e
    subst e
    simp only [Den] at h
    obtain ⟨a, rfl, _, h⟩ := h
    exact ⟨a, rfl, h⟩
  | ref k =>
    simp only [dctOf] at e
    split at e
    · rename_i es' hm
      simp only [Option.some.injEq] at e
      subst e
      rcases r.at_ k _ hm with ⟨z, _⟩ | ⟨a, ha, md⟩
      · cases z
      · simp only [Den] at h
        exact ⟨a, h.2 a ha, md⟩
    · cases e
  | _ => cases e
theorem keyK_key {k : D} (h : keyK k = true) : ∃ key, kD key = k := by
  cases k <;> simp [keyK] at h
  · exact ⟨.inl _, rfl⟩
  · exact ⟨.inr _, rfl⟩
theorem kD_inj {a b : Key} (h : kD a = kD b) : a = b := by
  cases a <;> cases b <;> simp [kD] at h <;> subst h <;> rfl
theorem den_kV {key : Key} {v : V} (h : Den g H ι (kD key) v) : v = kV key := by
  cases key <;> simp only [kD, Den] at h <;> subst h <;> rfl
theorem DctAt.dK {a : Addr} {es : List D} {k : D} (h : DctAt g H ι a es) (hk : kindOk es k = true) : ∃ kvs, H a = some (.dK kvs) ∧ DenE g H ι es kvs := by
  rcases h with h | ⟨xs, _, ne, h⟩
  · exact h
  · exfalso
    cases es with
    | nil => exact ne rfl
    | cons e r =>
      simp only [kindOk, List.all_cons, Bool.and_eq_true] at hk
      have h2 := hk.2.1
      cases e with
      | tup ys =>
        match ys with
        | [k', x] =>
          simp only [DenG] at h
          obtain ⟨nk, b, v, t, _, hn, _⟩ := h
          simp only [keyOf] at h2
          cases k' <;> simp [keyK] at h2 <;> simp [nkT] at hn
        | [] => simp only [DenG] at h
        | [_] => simp only [DenG] at h
        | _ :: _ :: _ :: _ => simp only [DenG] at h
      | _ => simp only [DenG] at h
theorem denE_cons {e : D} {r : List D} {kvs : List (Key × V)} (h : DenE g H ι (e :: r) kvs) : ∃ key x v t, e = .tup [kD key, x] ∧ kvs = (key, v) :: t ∧ Den g H ι x v ∧ DenE g H ι r t := by
  cases e with
  | tup ys =>
    match ys with
    | [k', x] =>
      simp only [DenE] at h
      obtain ⟨key, v, t, rfl, rfl, a, b⟩ := h
      exact ⟨key, x, v, t, rfl, rfl, a, b⟩
    | [] => simp only [DenE] at h
    | [_] => simp only [DenE] at h
    | _ :: _ :: _ :: _ => simp only [DenE] at h
  | _ => simp only [DenE] at h
theorem denE_mk {key : Key} {x : D} {v : V} {r : List D} {t : List (Key × V)} (a : Den g H ι x v) (b : DenE g H ι r t) : DenE g H ι (.tup [kD key, x] :: r) ((key, v) :: t) := by
  simp only [DenE]
  exact ⟨key, v, t, rfl, rfl, a, b⟩
theorem denE_get : ∀ {es : List D} {kvs : List (Key × V)} {key : Key}, DenE g H ι es kvs → (dget es (kD key) = none ∧ valV kvs key = none) ∨ ∃ z v, dget es (kD key) = some z ∧ valV kvs key = some v ∧ Den g H ι z v
  | [], kvs, key, h => by simp only [DenE] at h; subst h; exact .inl ⟨rfl, rfl⟩
  | e :: r, kvs, key, h => by
    obtain ⟨key', x, v, t, rfl, rfl, a, b⟩ := denE_cons h
    by_cases hk : key' = key
    · subst hk
      exact .inr ⟨x, v, by simp [dget], by rw [valV_pos rfl], a⟩
    · have hk2 : kD key' ≠ kD key := fun z => hk (kD_inj z)
      simp only [dget, if_neg hk2]
      rw [valV_neg (p := (key', v)) (r := t) hk]
      exact denE_get b
theorem denE_length : ∀ {es : List D} {kvs : List (Key × V)}, DenE g H ι es kvs → es.length = kvs.length
  | [], kvs, h => by simp only [DenE] at h; subst h; rfl
  | e :: r, kvs, h => by
    obtain ⟨key', x, v, t, rfl, rfl, a, b⟩ := denE_cons h
    simp [denE_length b]
theorem denE_any {key : Key} : ∀ {es : List D} {kvs : List (Key × V)}, DenE g H ι es kvs → (es.any fun e => decide (keyOf e = kD key)) = kvs.any fun kv => decide (kv.1 = key)
  | [], kvs, h => by simp only [DenE] at h; subst h; rfl
  | e :: r, kvs, h => by
    obtain ⟨key', x, v, t, rfl, rfl, a, b⟩ := denE_cons h
    rw [List.any_cons, List.any_cons, denE_any b]
    congr 1
    exact decide_eq_decide.mpr ⟨fun z => kD_inj z, fun z => by show kD key' = kD key; rw [show key' = key from z]⟩
theorem denE_app : ∀ {es fs : List D} {kvs jvs : List (Key × V)}, DenE g H ι es kvs → DenE g H ι fs jvs → DenE g H ι (es ++ fs) (kvs ++ jvs)
  | [], fs, kvs, jvs, h, h2 => by simp only [DenE] at h; subst h; exact h2
  | e :: r, fs, kvs, jvs, h, h2 => by
    obtain ⟨key', x, v, t, rfl, rfl, a, b⟩ := denE_cons h
    exact denE_mk a (denE_app b h2)
theorem denE_map {key : Key} {y : D} {u : V} (d : Den g H ι y u) : ∀ {es : List D} {kvs : List (Key × V)}, DenE g H ι es kvs → DenE g H ι (es.map fun e => if keyOf e = kD key then .tup [keyOf e, y] else e) (kvs.map fun kv => if kv.1 = key then (kv.1, u) else kv)
  | [], kvs, h => by simp only [DenE] at h; subst h; simp [DenE]
  | e :: r, kvs, h => by
    obtain ⟨key', x, v, t, rfl, rfl, a, b⟩ := denE_cons h
    rw [List.map_cons, List.map_cons]
    by_cases hk : key' = key
    · subst hk
      rw [if_pos (show keyOf (.tup [kD key', x]) = kD key' from rfl), if_pos (show (key', v).1 = key' from rfl)]
      exact denE_mk d (denE_map d b)
    · have hk2 : keyOf (.tup [kD key', x]) ≠ kD key := fun z => hk (kD_inj z)
      rw [if_neg hk2, if_neg hk]
      exact denE_mk a (denE_map d b)
theorem denE_put {es : List D} {kvs : List (Key × V)} {key : Key} {y : D} {u : V} (h : DenE g H ι es kvs) (d : Den g H ι y u) : DenE g H ι (dput es (kD key) y) (putK kvs key u) := by
  unfold dput putK
  rw [denE_any h]
  split
  · exact denE_map d h
  · exact denE_app h (denE_mk d (by simp [DenE]))
def IxS (X : Cx) (g : Cfg) (f : List MO → D → D → Out D) : Prop := IxR X (rS g false f)
theorem IxR.imp {r r' : R2} (h : IxR X r) (k : ∀ x y H Q, r' x y H Q → r x y H Q) : IxR X r' := fun value slice pins s σ H x y v u Q I rx ry q hs => h value slice pins s σ H x y v u Q I rx ry (k x y H Q q) hs
theorem ixOf_N (j : Int) (n : Nat) : ixOf j n = ixN n j := by
  unfold ixOf ixN
  by_cases h : 0 ≤ j
  · simp [h]
  · simp only [if_neg h]
    by_cases h2 : 0 ≤ j + n
    · rw [if_pos h2, if_pos (by omega)]
    · rw [if_neg h2, if_neg (by omega)]
theorem ix_dict (hu : X.A.units + 1 < cLine) : IxR X (fun x y H Q => ∃ a v, x = .ref a ∧ DGet H a y (some v) ∧ Q v H) := by
  intro value slice pins s σ H x y v u Q I rx ry h hs
  obtain ⟨a, z, rfl, hg, q⟩ := h
  cases rx
  exact tail_any (dict_typeIs I hg) PySem.F.slot_dict_getitem.lookup (d_getItem hu I hg ry fun w' s3 I3 rw' => ⟨z, H, I3, rw', q⟩) hs
theorem sub_S (hK : g.K = X.K) (hu : X.A.units + 1 < cLine) : IxR X (rS g false subD) := by
  refine IxR.imp (IxR.or (ix_dict hu) ix_seq) fun v u H Q q => ?_
  obtain ⟨ι, m, x, y, z, r, dx, dy, e, k⟩ := q
  unfold subD at e
  split at e
  · rename_i es he
    left
    obtain ⟨hk, e⟩ := gd_ok e
    obtain ⟨a, rfl, hd⟩ := dx.dctAt r he
    obtain ⟨kvs, ha, hE⟩ := hd.dK hk
    simp only [kindOk, Bool.and_eq_true] at hk
    obtain ⟨key, rfl⟩ := keyK_key hk.1
    rw [den_kV dy]
    rcases denE_get (key := key) hE with ⟨h1, _⟩ | ⟨z', v', h1, h2, h3⟩
    · rw [h1] at e; cases e
    · rw [h1] at e
      cases e
      exact ⟨a, v', rfl, by rw [← h2]; exact DGet.k ha, k v' H ι (Le.refl _ _) r h3 Nw.no⟩
  · right
    unfold subSq at e
    split at e
    · rename_i sa j
      obtain ⟨hl, e⟩ := gd_ok e
      obtain ⟨n, h1, e⟩ := opt_ok e
      obtain ⟨cc, h2, e⟩ := opt_ok e
      cases e
      simp only [Den] at dx dy
      subst dx dy
      refine .inr (.inr ⟨_, _, cc, rfl, rfl, by rw [← sizeL_eq]; exact of_decide_eq_true hl, ?_, qs r k rfl⟩)
      unfold atI
      rw [← ixOf_N, h1]
      exact h2
    · rename_i x' j hne
      obtain ⟨xs, h1, e⟩ := opt_ok e
      obtain ⟨n, h2, e⟩ := opt_ok e
      cases h3 : xs[n]? with
      | none => rw [h3] at e; cases e
      | some zz =>
        rw [h3] at e
        cases e
        obtain ⟨a, vs, rfl, ha, dn⟩ := dx.seq r h1
        obtain ⟨v', hv, dv⟩ := dn.get h3
        simp only [Den] at dy
        subst dy
        have hat : atI vs j = some v' := by
          unfold atI
          rw [← ixOf_N, ← dn.length, h2]
          exact hv
        have q := k v' H ι (Le.refl _ _) r dv Nw.no
        rcases ha with ha | ha
        · exact .inl ⟨a, vs, j, v', rfl, rfl, SqL.of ha, hat, q⟩
        · exact .inr (.inl ⟨a, vs, j, v', rfl, rfl, SqT.of ha, hat, q⟩)
    · cases e
theorem in_Dc (hK : g.K = X.K) (hu : X.A.units + 1 < cLine) : OpR X (compareOp .In) (rS g false fun m x y => match dctOf m y with | some es => do gd (kindOk es x); .ok (.bl (dget es x).isSome) | none => .bad) := by
  intro pins s σ H v u vv uu Q I rx ry q
  obtain ⟨ι, m, x, y, z, r, dx, dy, e, k⟩ := q
  dsimp only at e
  split at e
  · rename_i es he
    obtain ⟨hk, e⟩ := gd_ok e
    cases e
    obtain ⟨a, rfl, hd⟩ := dy.dctAt r he
    obtain ⟨kvs, ha, hE⟩ := hd.dK hk
    simp only [kindOk, Bool.and_eq_true] at hk
    obtain ⟨key, rfl⟩ := keyK_key hk.1
    rw [den_kV dx] at rx
    cases ry
    refine d_in hu I (DGet.k ha) rx fun s' I' => ⟨.bl _, H, I', rfl, ?_⟩
    rcases denE_get (key := key) hE with ⟨h1, h2⟩ | ⟨z', v', h1, h2, h3⟩
    · rw [h2]; exact qb r k (by rw [h1]; rfl)
    · rw [h2]; exact qb r k (by rw [h1]; rfl)
  · cases e
theorem notIn_Dc (hK : g.K = X.K) (hu : X.A.units + 1 < cLine) : OpR X (compareOp .NotIn) (rS g false fun m x y => match dctOf m y with | some es => do gd (kindOk es x); .ok (.bl (!(dget es x).isSome)) | none => .bad) := by
  intro pins s σ H v u vv uu Q I rx ry q
  obtain ⟨ι, m, x, y, z, r, dx, dy, e, k⟩ := q
  dsimp only at e
  split at e
  · rename_i es he
    obtain ⟨hk, e⟩ := gd_ok e
    cases e
    obtain ⟨a, rfl, hd⟩ := dy.dctAt r he
    obtain ⟨kvs, ha, hE⟩ := hd.dK hk
    simp only [kindOk, Bool.and_eq_true] at hk
    obtain ⟨key, rfl⟩ := keyK_key hk.1
    rw [den_kV dx] at rx
    cases ry
    refine d_notIn hu I (DGet.k ha) rx fun s' I' => ⟨.bl _, H, I', rfl, ?_⟩
    rcases denE_get (key := key) hE with ⟨h1, h2⟩ | ⟨z', v', h1, h2, h3⟩
    · rw [h2]; exact qb r k (by rw [h1]; rfl)
    · rw [h2]; exact qb r k (by rw [h1]; rfl)
  · cases e
theorem in_S (hK : g.K = X.K) (hu : X.A.units + 65 < cLine) : OpR X (compareOp .In) (rS g false fun m x y => cmpD m .In x y) :=
  rS_or in_Sg (rS_or (in_Dc hK (by omega)) (in_Sq hK hu) (f := fun m x y => match dctOf m y with | some es => do gd (kindOk es x); .ok (.bl (dget es x).isSome) | none => inSq m x y) fun m x y z e => by
    split at e
    · rename_i es he; left; first | exact e | (simp only [he]; exact e)
    · exact .inr e) fun m x y z e => by
    simp only [cmpD] at e
    split at e
    · exact .inl e
    · exact .inr e
theorem notIn_S (hK : g.K = X.K) (hu : X.A.units + 65 < cLine) : OpR X (compareOp .NotIn) (rS g false fun m x y => cmpD m .NotIn x y) :=
  rS_or (notIn_Dc hK (by omega)) (notIn_Sq hK hu) fun m x y z e => by
    simp only [cmpD] at e
    split at e
    · rename_i es he; left; first | exact e | (simp only [he]; exact e)
    · exact .inr e
end
end SV
set_option linter.all false
set_option Elab.async false
set_option maxRecDepth 100000
set_option maxHeartbeats 4000000
namespace SV
open PySem PySem.Spec PyProof.Rows L2
/-- the iterator J yields the items xs, whatever happens to the store -/
def ItOk (g : Cfg) (H : Hp) (ι : Io) (J : L2.It) (xs : List D) : Prop := ∀ H' ι', Le H ι H' ι' →
  J.stop xs.length H' ∧ ∀ (i : Nat) d, xs[i]? = some d → J.go i H' ∧ ∀ v H2, J.yld i H' v H2 → Le H' ι' H2 ι' ∧ (∀ m, Rel g H' ι' m → Rel g H2 ι' m ∧ Den g H2 ι' d v)
def iD (g : Cfg) (W : WX) (f : S → Out (List D × S)) : TI := fun σ H R => ∃ ι s, SR g H ι σ s ∧ OutP (f s) (fun p => ∀ J H' ι', Le H ι H' ι' → SR g H' ι' σ p.2 → ItOk g H' ι' J p.1 → R J H') (XC g W H ι σ)
theorem ItOk.le {g : Cfg} {H H' : Hp} {ι ι' : Io} {J : L2.It} {xs : List D} (h : ItOk g H ι J xs) (l : Le H ι H' ι') : ItOk g H' ι' J xs := fun H2 ι2 l2 => h H2 ι2 (l.trans l2)
section
variable {X : Cx} {g : Cfg} {c : Tc} {W : WX} {w : SV.W} {x : Str} {i : Nat} {pins : List (Addr × Obj)} {s : Shared} {σ : L2.St} {H : Hp} {ι : Io} {st : S} {CX : CXT} {k : Nat} {f : Addr} {m : List MO}
variable {a b d : Expr} {a' b' d' : Ex} {es : List Expr} {es' : Exs} {p p2 pos : Pos} {fra frb frd fr : Bool} {fa fb fd : S → Out (D × S)} {tg : Expr}
theorem itOk_seq {K : PySem.W.Frag} {J : L2.It} {p : Addr} {vs : List V} {xs : List D} (dn : DenL g H ι xs vs)
    (h1 : ∀ H' ι', Le H ι H' ι' → J.stop vs.length H' ∧ ∀ (i : Nat) v, vs[i]? = some v → J.go i H' ∧ ∀ v' H2, J.yld i H' v' H2 → H2 = H' ∧ v' = v) : ItOk g H ι J xs := fun H' ι' l => by
  obtain ⟨h2, h3⟩ := h1 H' ι' l
  refine ⟨by rw [dn.length]; exact h2, fun i d e => ?_⟩
  obtain ⟨v, hv, dv⟩ := dn.get e
  obtain ⟨h4, h5⟩ := h3 i v hv
  refine ⟨h4, fun v' H2 y => ?_⟩
  obtain ⟨rfl, rfl⟩ := h5 v' H2 y
  exact ⟨Le.refl _ _, fun m r => ⟨r, dv.le l⟩⟩
theorem it_list {a : Addr} {K : PySem.W.Frag} {vs : List V} {xs : List D} (ha : ∀ H' ι', Le H ι H' ι' → SqL K H' a vs ∧ ∀ ys, SqL K H' a ys → ys = vs) (dn : DenL g H ι xs vs) : ItOk g H ι (Itl K a) xs :=
  itOk_seq (K := K) (p := a) dn fun H' ι' l => by
    obtain ⟨h1, h2⟩ := ha H' ι' l
    exact ⟨⟨vs, h1, Nat.le_refl _⟩, fun i v hv => ⟨⟨vs, v, h1, hv⟩, fun v' H2 y => ⟨y.1, by have := y.2 vs h1; rw [hv] at this; exact (Option.some.inj this).symm⟩⟩⟩
theorem it_tup {a : Addr} {K : PySem.W.Frag} {vs : List V} {xs : List D} (ha : ∀ H' ι', Le H ι H' ι' → SqT K H' a vs) (dn : DenL g H ι xs vs) : ItOk g H ι (Itt K a) xs :=
  itOk_seq (K := K) (p := a) dn fun H' ι' l => by
    have h1 := ha H' ι' l
    exact ⟨⟨vs, h1, Nat.le_refl _⟩, fun i v hv => ⟨⟨vs, v, h1, hv⟩, fun v' H2 y => ⟨y.1, by have := y.2 vs h1; rw [hv] at this; exact (Option.some.inj this).symm⟩⟩⟩
theorem it_list' {a : Addr} {K : PySem.W.Frag} {vs : List V} {xs : List D} (ha : ∀ H' ι', Le H ι H' ι' → SqL K H' a vs) (dn : DenL g H ι xs vs) : ItOk g H ι (Itl K a) xs :=
  itOk_seq (K := K) (p := a) dn fun H' ι' l => by
    have h1 := ha H' ι' l
    exact ⟨⟨vs, h1, Nat.le_refl _⟩, fun i v hv => ⟨⟨vs, v, h1, hv⟩, fun v' H2 y => ⟨y.1, by have := y.2 vs h1; rw [hv] at this; exact (Option.some.inj this).symm⟩⟩⟩
theorem denL_ints : ∀ xs : List Int, DenL g H ι (xs.map D.int) (xs.map V.int)
  | [] => by simp [DenL]
  | x :: r => DenL.cons (by simp only [Den]) (denL_ints r)
theorem signs_get {z : Str} {i : Nat} {d : D} (h : (signs z)[i]? = some d) : ∃ c, z.cps.toList[i]? = some c ∧ d = .str (strOf [c]) := by
  unfold signs at h
  rw [List.getElem?_map] at h
  cases e : z.cps.toList[i]? with
  | none => rw [e] at h; cases h
  | some c => rw [e] at h; cases h; exact ⟨c, rfl, rfl⟩
/-- a list, a tuple, a text, the law's script -/
theorem pi_valD (hgK : g.K = X.K) (ha : PE X a (tD g W fra (evE w a'))) : PI X tg a (iD g W (evI w (.val a'))) := by
  refine ⟨fun pins s σ H R I q => ?_⟩
  obtain ⟨ι, st, sr, o⟩ := q
  simp only [evI] at o
  have o := OutP.bnd o
  cases e : evE w a' st with
  | bad => rw [e] at o; exact o.elim
  | exc c d s' =>
    rw [e] at o
    refine (pi_list ha).run pins s σ H R I ⟨ι, st, sr, ?_⟩
    rw [e]
    exact o
  | ok pr =>
    obtain ⟨d, st'⟩ := pr
    rw [e] at o
    obtain ⟨xs, hx, o⟩ := OutP.opt.mp (OutP.bnd o)
    have o : ∀ J H' ι', Le H ι H' ι' → SR g H' ι' σ st' → ItOk g H' ι' J xs → R J H' := o
    cases d with
    | lst ys =>
      simp only [walkD, Option.some.injEq] at hx
      subst hx
      refine (pi_list ha).run pins s σ H R I ⟨ι, st, sr, ?_⟩
      rw [e]
      intro v H' ι' l sr' dn _
      simp only [Den] at dn
      obtain ⟨p, vs, rfl, ⟨hp, np⟩, dn⟩ := dn
      exact ⟨p, rfl, ⟨vs, SqL.of hp⟩, o _ H' ι' l sr' (it_list' (fun H2 ι2 l2 => SqL.of (l2.keep _ _ hp np).1) dn)⟩
    | tup ys =>
      simp only [walkD, Option.some.injEq] at hx
      subst hx
      refine (pi_tup ha).run pins s σ H R I ⟨ι, st, sr, ?_⟩
      rw [e]
      intro v H' ι' l sr' dn _
      simp only [Den] at dn
      obtain ⟨p, vs, rfl, ⟨hp, np⟩, dn⟩ := dn
      exact ⟨p, rfl, ⟨vs, SqT.of hp⟩, o _ H' ι' l sr' (it_tup (fun H2 ι2 l2 => SqT.of (l2.keep _ _ hp np).1) dn)⟩
    | scr ys =>
      simp only [walkD, Option.some.injEq] at hx
      subst hx
      refine (pi_list ha).run pins s σ H R I ⟨ι, st, sr, ?_⟩
      rw [e]
      intro v H' ι' l sr' dn _
      simp only [Den] at dn
      obtain ⟨p, rfl, dn⟩ := dn
      rcases dn with ⟨oo, hp, np⟩ | dn
      · exact ⟨p, rfl, ⟨_, .inl (.inr ⟨oo, hp⟩)⟩, o _ H' ι' l sr' (it_list' (fun H2 ι2 l2 => .inl (.inr ⟨oo, (l2.keep _ _ hp np).1⟩)) (denL_ints ys))⟩
      · exact ⟨p, rfl, ⟨_, .inr (hgK ▸ dn)⟩, o _ H' ι' l sr' (it_list' (fun H2 ι2 l2 => .inr (hgK ▸ dn)) (denL_ints ys))⟩
    | str z =>
      simp only [walkD, Option.some.injEq] at hx
      subst hx
      refine (pi_str ha).run pins s σ H R I ⟨ι, st, sr, ?_⟩
      rw [e]
      intro v H' ι' l sr' dn _
      simp only [Den] at dn
      refine ⟨z, dn, o _ H' ι' l sr' fun H2 ι2 l2 => ⟨?_, fun i d e => ?_⟩⟩
      · show z.cps.size ≤ (signs z).length
        simp [signs]
      · obtain ⟨c, h1, rfl⟩ := signs_get e
        have h2 : z.cps[i]? = some c := by simpa using h1
        refine ⟨(Array.getElem?_eq_some_iff.mp h2).1, fun v' H3 y => ?_⟩
        obtain ⟨rfl, c', h3, rfl⟩ := y
        rw [h2] at h3
        cases h3
        exact ⟨Le.refl _ _, fun m r => ⟨r, by simp only [Den]; rfl⟩⟩
    | _ => cases hx
theorem rangeL_get : ∀ (n : Nat) (a : Int) (st : Int) (i : Nat), (rangeL a n st)[i]? = if i < n then some (.int (a + i * st)) else none
  | 0, a, st, i => by simp [rangeL]
  | n + 1, a, st, 0 => by simp [rangeL]
  | n + 1, a, st, i + 1 => by
    simp only [rangeL, List.getElem?_cons_succ]
    rw [rangeL_get n (a + st) st i]
    by_cases h : i < n
    · rw [if_pos h, if_pos (by omega)]
      congr 2
      have : ((i + 1 : Nat) : Int) = (i : Int) + 1 := by omega
      rw [this, Int.add_mul, Int.one_mul]
      omega
    · rw [if_neg h, if_neg (by omega)]
theorem rangeL_length : ∀ (n : Nat) (a : Int) (st : Int), (rangeL a n st).length = n
  | 0, _, _ => rfl
  | n + 1, a, st => by simp [rangeL, rangeL_length n]
theorem it_rng {lo : Int} {n : Nat} : ItOk g H ι (Itr lo n) (rangeL lo n 1) := fun H' ι' l => by
  refine ⟨by rw [rangeL_length]; exact Nat.le_refl _, fun i d e => ?_⟩
  rw [rangeL_get] at e
  split at e
  · rename_i h
    cases e
    refine ⟨h, fun v H2 y => ?_⟩
    obtain ⟨rfl, rfl⟩ := y
    refine ⟨Le.refl _ _, fun m r => ⟨r, ?_⟩⟩
    simp only [Den]
    rw [Int.mul_one]
  · cases e
theorem pi_rng1 (hg : isGlob c "range" = true) (G : Gd X g c) (hm : X.mg "range" = none) (ha : PE X a (tD g W fra (evE w a'))) (h1 : noStar a = true) : PI X tg (.Call (.Name "range" p) [a] [] pos) (iD g W (evI w (.rng (.cons a' .nil)))) := by
  refine ⟨fun pins s σ H R I q => (pi_range1 (glob_ok G hg).1 hm (pa_cons ha pa_nil (starEach_one h1)) (starEach_one h1)).run pins s σ H R I ?_⟩
  obtain ⟨ι, st, sr, o⟩ := q
  simp only [evI, evEs] at o
  refine tD.then sr (OutP.bnd (OutP.bnd o)) (fun _ _ _ z => z) fun x s1 v H1 ι1 o1 l1 sr1 d1 nw1 => ?_
  clear nw1
  have o1 : OutP (rngD [x] >>= fun r => Out.ok (r, s1)) _ _ := o1
  have o1 := OutP.bnd o1
  cases x with
  | int n =>
    obtain ⟨hb, o1⟩ := OutP.gd.mp (OutP.bnd o1)
    have hb := of_decide_eq_true hb
    simp only [Den] at d1
    subst d1
    exact ⟨n, rfl, by omega, by omega, o1 _ H1 ι1 l1 sr1 it_rng⟩
  | _ => exact o1.elim
theorem pi_rng2 (hg : isGlob c "range" = true) (G : Gd X g c) (hm : X.mg "range" = none) (ha : PE X a (tD g W fra (evE w a'))) (hb : PE X b (tD g W frb (evE w b'))) (h1 : noStar a = true) (h2 : noStar b = true) :
    PI X tg (.Call (.Name "range" p) [a, b] [] pos) (iD g W (evI w (.rng (.cons a' (.cons b' .nil))))) := by
  refine ⟨fun pins s σ H R I q => (pi_range2 (glob_ok G hg).1 hm (pa_cons ha (pa_cons hb pa_nil (starEach_one h2)) (starEach_one h1)) (by rw [starEach_one h1, starEach_one h2]; rfl) (starEach_one h2)).run pins s σ H R I ?_⟩
  obtain ⟨ι, st, sr, o⟩ := q
  simp only [evI, evEs] at o
  refine tD.then sr (OutP.bnd (OutP.bnd o)) (fun _ _ _ z => z) fun x s1 v H1 ι1 o1 l1 sr1 d1 nw1 => ?_
  clear nw1
  refine tD.then sr1 (OutP.bnd (OutP.bnd o1)) (fun _ _ _ z => z.mono l1) fun y s2 u H2 ι2 o2 l2 sr2 d2 nw2 => ?_
  clear nw2
  have o2 : OutP (rngD [x, y] >>= fun r => Out.ok (r, s2)) _ _ := o2
  have o2 := OutP.bnd o2
  have d1 := d1.le l2
  cases x with
  | int n =>
    cases y with
    | int m =>
      obtain ⟨hb, o2⟩ := OutP.gd.mp (OutP.bnd o2)
      have hb := of_decide_eq_true hb
      simp only [Den] at d1 d2
      subst d1 d2
      exact ⟨n, m, rfl, by omega, o2 _ H2 ι2 (l1.trans l2) sr2 it_rng⟩
    | _ => exact o2.elim
  | _ => exact o2.elim
end
end SV
set_option linter.all false
set_option Elab.async false
set_option maxRecDepth 100000
set_option maxHeartbeats 4000000
namespace SV
open PySem PySem.Spec PyProof.Rows L2
open AutoSeq1 (wpAny_loadPart')
theorem meets_enum_tup (l : Addr) (items : Array Value) (n : Nat) (dct : Option Addr) (sl : Array (Option Value)) :
    Meets (Builtin.«enumerate.__new__» ⟨[.type "enumerate", .ref l], []⟩) (fun _ R s => s.heap.get? l = some { cls := .type "tuple", dict := dct, data := .seq items n, slots := sl } ∧
      R (.ok (.ret (.ref (s.heap.push { cls := .type "tuple_iterator", data := .fields #[.ref l, .int 0 0] }).objs.size)))
        { s with heap := (s.heap.push { cls := .type "tuple_iterator", data := .fields #[.ref l, .int 0 0] }).push { cls := .type "enumerate", data := .fields #[.none, .bool false, .ref s.heap.objs.size, rawInt 0, .none, .none] } }) :=
  .of_wp fun prog w A R s h => by
    obtain ⟨hp, g, d, tk, os⟩ := s
    obtain ⟨hl, h⟩ := h
    have hsub := sub_enumerate
    have hT : Heap.IsTuple (Shared.heap ⟨hp, g, d, tk, os⟩) l items := ⟨_, hl, rfl, n, rfl⟩
    wp_walk using wpAny_loadPart' hl
    refine wpAny_stack_any fun st => wpAny_pure ?_
    split
    · rename_i c _ _ _ _ _
      cases (c == Value.type "enumerate") <;> (wp_walk using wpAny_loadPart' hl, wpAny_pyIter_tuple hT; exact ⟨_, rfl, h⟩)
    · wp_walk using wpAny_loadPart' hl, wpAny_pyIter_tuple hT
      exact ⟨_, rfl, h⟩
theorem call_enum_tup {prog : Program} {w : World} {A : Around} {E : Value → Shared → Prop} {s : Shared} {l : Addr} {items : Array Value} {Q : Value → Shared → Prop} (hL : s.heap.IsTuple l items)
    (h : ∀ h', IsEnum h' (s.heap.objs.size + 1) s.heap.objs.size 0 .none → h'.IsTupleIter s.heap.objs.size l 0 → (∀ b o, s.heap.get? b = some o → h'.get? b = some o) → Q (.ref (s.heap.objs.size + 1)) { s with heap := h' }) :
    wpAny (model prog w) A (call (.type "enumerate") [.ref l]) Q E s := by
  obtain ⟨⟨c, dct, dt, sl⟩, hl, hc, n, hd⟩ := hL
  replace hc : c = .type "tuple" := hc
  replace hd : dt = .seq items n := hd
  subst hc hd
  refine callType_new F.called_enumerate (by decide) (F.typeCall_enumerate_1 _) (F.newCall_enumerate_1 _) (fun obj => F.args_object_init_2 obj _) F.entry_enumerate_new
    (meets_enum_tup l items n dct sl) ⟨hl, ?_⟩
  have hz : (s.heap.push { cls := .type "tuple_iterator", data := .fields #[.ref l, .int 0 0] }).objs.size = s.heap.objs.size + 1 := Heap.size_push ..
  show _ ∧ _
  rw [hz]
  have he : IsEnum ((s.heap.push { cls := .type "tuple_iterator", data := .fields #[.ref l, .int 0 0] }).push
      { cls := .type "enumerate", data := .fields #[.none, .bool false, .ref s.heap.objs.size, rawInt 0, .none, .none] }) (s.heap.objs.size + 1) s.heap.objs.size 0 .none := by
    have := Heap.get?_push_size (s.heap.push { cls := .type "tuple_iterator", data := .fields #[.ref l, .int 0 0] })
      (o := { cls := .type "enumerate", data := .fields #[.none, .bool false, .ref s.heap.objs.size, rawInt 0, .none, .none] }) rfl
    rw [hz] at this
    exact this
  exact ⟨⟨_, he, rfl⟩, h _ he ⟨_, Heap.get?_push_of_some _ (Heap.get?_push_size _ rfl), rfl, rfl⟩ fun b o x => Heap.get?_push_of_some _ (Heap.get?_push_of_some _ x)⟩
/-- the tuple at a, each item in a new pair -/
def IteT (K : PySem.W.Frag) (a : Addr) : L2.It :=
  ⟨fun i H => ∃ (xs : List V) (x : V), SqT K H a xs ∧ xs[i]? = some x, fun i H v H' => ∃ T x, v = .ref T ∧ H T = none ∧ H' = upd H T (.tup [.int (i : Nat), x]) ∧ ∀ xs, SqT K H a xs → xs[i]? = some x, fun i H => ∃ xs : List V, SqT K H a xs ∧ xs.length ≤ i⟩
theorem turn_enumT {P : Program} {w : World} {K : PySem.W.Frag} {elts : List Expr} {kk : Nat} {tpos : Pos} (a e it : Addr) :
    Turn P w K (.Tuple elts kk tpos) (IteT K a) [e, it] e (fun i h => (∃ old, IsEnum h e it ((i : Nat) : Int) old) ∧ h.IsTupleIter it a i ∧ e ≠ it ∧ a ≠ it ∧ e ≠ a) where
  mem := by simp
  obj := fun i h st b hb => by
    obtain ⟨⟨old, he⟩, ⟨o, ho, hc, hd⟩, _⟩ := st
    have e' : b = e ∨ b = it := by simpa using hb
    rcases e' with z | z
    · rw [z]; exact ⟨_, he, fun v q => nomatch q⟩
    · rw [z]; exact ⟨o, ho, fun v q => by rw [hd] at q; cases q⟩
  keep := fun i h h' st k => let ⟨⟨old, he⟩, hi, hne⟩ := st; ⟨⟨old, k e (by simp) _ he⟩, hi.at fun o q => k it (by simp) o q, hne⟩
  item := by
    intro X hP hw hK hc i pins s σ H E I hf st hg
    subst hP hw hK
    obtain ⟨⟨old, he⟩, hit, hne, hat, hea⟩ := st
    obtain ⟨xs, x, hq, hx⟩ := hg
    obtain ⟨its, rv, p, hz⟩ := I.tuple hq
    obtain ⟨u, hu, ru⟩ := rv.get hx
    have hel : e < s.heap.objs.size := Heap.lt_size he
    have hil : it < s.heap.objs.size := by obtain ⟨_, q, _⟩ := hit; exact Heap.lt_size q
    have hlt : i < its.toArray.size := by
      have := (List.getElem?_eq_some_iff.mp hu).1
      simpa using this
    have hD : Draws X.prog X.w X.A.in1 it [it, a] its.toArray.size (fun i v => its.toArray[i]? = some v) (fun i h => h.IsTupleIter it a i ∧ h.IsTuple a its.toArray) := Draws.tuple (A := X.A.in1) (I.ok.hd hc) it a hat its.toArray
    refine wpAny_pyNext_enum_itemC hD he ⟨hit, p⟩ hlt hne (by simp [hne, hea]) fun x' h' tk hx' ho st' hT hsz hk => ?_
    have hxu : x' = u := by
      have hx2 : its.toArray[i]? = some x' := hx'
      have : its[i]? = some x' := by simpa using hx2
      rw [hu] at this
      exact (Option.some.inj this).symm
    subst hxu
    refine ⟨_, rfl, wpAny_letOwnedTupleGo_enum (s := { s with heap := h', toks := tk + 1 }) ho fun h'' he' sb => ?_⟩
    have hT2 : h''.get? s.heap.objs.size = some { cls := .type "tuple", data := .seq #[.int i tk, x'] } := (sb.2 _ (Nat.ne_of_gt hel)).trans hT
    have new : ObjOk X.prog X.w (upd H s.heap.objs.size (.tup [.int (i : Nat), x])) h'' s.heap.objs.size (.tup [.int (i : Nat), x]) :=
      ⟨by show 2 ≤ sizeLine; decide, [.int i tk, x'], .cons ⟨_, rfl⟩ (.cons ru .nil), ⟨_, hT2, rfl, _, rfl⟩⟩
    have I1 : Inv X pins σ (upd H s.heap.objs.size (.tup [.int (i : Nat), x])) { s with heap := h'', toks := tk + 1 } :=
      I.turnedNew (ch := [e, it]) (fun b ob hb q => (sb.2 b (fun z => hb (by simp [z]))).trans (hk b ob (fun z => hb (by simp [z])) (fun z => hb (by simp [z])) q)) hf (Nat.le_refl _) new
    refine ⟨.ref s.heap.objs.size, _, I1, rfl, ⟨_, x, rfl, I.hok.fresh (Nat.le_refl _), rfl, fun ys hy => by rw [I.tuple_inj hy hq]; exact hx⟩, ⟨⟨x', ?_⟩, st'.1.at fun o q => (sb.2 it (Ne.symm hne)).trans q, hne, hat, hea⟩, fun b hb => ?_⟩
    · have e1 : ((i + 1 : Nat) : Int) = (i : Int) + 1 := by omega
      rw [e1]; exact he'
    · have hb' : b < s.heap.objs.size := by
        have e' : b = e ∨ b = it := by simpa using hb
        rcases e' with z | z
        · rw [z]; exact hel
        · rw [z]; exact hil
      rw [upd_ne (Nat.ne_of_lt hb')]
      exact (hf b hb).1
  done := by
    intro X hP hw hK hc i pins s σ H E I hf st hg
    subst hP hw hK
    obtain ⟨⟨old, he⟩, hit, hne, hat, hea⟩ := st
    obtain ⟨xs, hq, hx⟩ := hg
    obtain ⟨its, rv, p, hz⟩ := I.tuple hq
    obtain ⟨f0, f1, f2, f3, f4, f5⟩ := hf it (by simp)
    have hl := rv.length
    have hD : Draws X.prog X.w X.A.in1 it [it, a] i (fun j v => False) (fun j h => j = i ∧ h.IsTupleIter it a i ∧ h.IsTuple a its.toArray) := by
      refine ⟨fun j h st => ?_, fun j h h' st k => ?_, fun j s Q E hj st => ?_, fun s Q E st hE => ?_⟩
      · obtain ⟨_, ⟨o, ho, _⟩, _⟩ := st; exact ⟨o, ho⟩
      · obtain ⟨e, h1, o, h2, h3⟩ := st
        exact ⟨e, h1.at fun o q => k it (by simp) o q, o, k a (by simp) o h2, h3⟩
      · obtain ⟨e, _⟩ := st; omega
      · exact wpAny_nextOf_tuple_end (I.ok.hd hc) st.2.1 st.2.2 (by simp; omega) hE
    exact wpAny_pyNext_enum_endD hD he ⟨rfl, hit, p⟩ fun h' eb => ⟨rfl, I.turned (t' := s.toks) (fun b o hb q => eb b o hb q) f0 f1 f3 f4 f5⟩
  self := fun A i s Q E st h => let ⟨⟨_, he⟩, _⟩ := st; wpAny_pyIter_enum he h
def iEnumT (K : PySem.W.Frag) (ta : TA) : TI := fun σ H R => ta σ H fun vs H1 => ∃ a xs, vs = [.ref a] ∧ SqT K H1 a xs ∧ R (IteT K a) H1
theorem pi_enumT {X : Cx} {e : Expr} {ta : TA} {p pos tpos : Pos} {elts : List Expr} {kk : Nat} (hg : Gl X "enumerate") (hm : X.mg "enumerate" = none) (ha : PA X [e] ta) (hs : starEach [e] X.env = [(false, eval e X.env)]) :
    PI X (.Tuple elts kk tpos) (.Call (.Name "enumerate" p) [e] [] pos) (iEnumT X.K ta) := by
  refine ⟨fun pins s σ H R I h => ?_⟩
  refine Call_ (ld_blt I hg hm boot_enumerate (PyProof.Rows.callWith_type1 (thn (ha.run pos pins s σ H _ I h) fun us s1 ⟨vs, H1, I1, r1, q1⟩ => ?_) hs rfl))
  obtain ⟨a, xs, ex, hq, q⟩ := q1
  subst ex
  cases r1 with
  | cons r rr =>
    cases rr
    cases r
    obtain ⟨its, rv, p', hz⟩ := I1.tuple hq
    have hal : a < s1.heap.objs.size := by obtain ⟨_, q, _⟩ := id p'; exact Heap.lt_size q
    refine call_enum_tup p' fun h' he hit hk => wpAny_pyIter_enum he ?_
    have I2 : Inv X pins σ H1 { s1 with heap := h' } := I1.kept (t' := s1.toks) hk
    refine ⟨s1.heap.objs.size + 1, [s1.heap.objs.size + 1, s1.heap.objs.size], _, _, H1, rfl, I2, turn_enumT a (s1.heap.objs.size + 1) s1.heap.objs.size, ⟨⟨.none, he⟩, hit, Nat.succ_ne_self _, Nat.ne_of_lt hal, Nat.ne_of_gt (Nat.lt_succ_of_lt hal)⟩, fun b hb => ?_, q⟩
    have hle : s1.heap.objs.size ≤ b := by
      have e' : b = s1.heap.objs.size + 1 ∨ b = s1.heap.objs.size := by simpa using hb
      rcases e' with z | z
      · rw [z]; exact Nat.le_succ _
      · rw [z]; exact Nat.le_refl _
    exact I1.fpOk hle (I1.hok.fresh hle)
section
variable {X : Cx} {g : Cfg} {c : Tc} {W : WX} {w : SV.W} {x : Str} {i : Nat} {pins : List (Addr × Obj)} {s : Shared} {σ : L2.St} {H : Hp} {ι : Io} {st : S}
variable {a b d : Expr} {a' b' d' : Ex} {p pos tpos : Pos} {fra frb frd fr : Bool} {elts : List Expr} {kk : Nat}
theorem enumL_get : ∀ (xs : List D) (n i : Nat), (enumL n xs)[i]? = (xs[i]?).map fun x => .tup [.int ((n + i : Nat) : Int), x]
  | [], n, i => by simp [enumL]
  | x :: r, n, 0 => by simp [enumL]
  | x :: r, n, i + 1 => by
    simp only [enumL, List.getElem?_cons_succ, enumL_get r (n + 1) i]
    have : n + 1 + i = n + (i + 1) := by omega
    rw [this]
theorem enumL_length : ∀ (xs : List D) (n : Nat), (enumL n xs).length = xs.length
  | [], _ => rfl
  | x :: r, n => by simp [enumL, enumL_length r]
theorem it_pair {J : L2.It} {vs : List V} {xs : List D} (dn : DenL g H ι xs vs) (h1 : ∀ H' ι', Le H ι H' ι' → J.stop vs.length H' ∧ ∀ (i : Nat) v, vs[i]? = some v → J.go i H' ∧ ∀ v' H2, J.yld i H' v' H2 → ∃ T, v' = .ref T ∧ H' T = none ∧ H2 = upd H' T (.tup [.int (i : Nat), v])) :
    ItOk g H ι J (enumL 0 xs) := fun H' ι' l => by
  obtain ⟨h2, h3⟩ := h1 H' ι' l
  refine ⟨by rw [enumL_length, dn.length]; exact h2, fun i d e => ?_⟩
  rw [enumL_get] at e
  cases ex : xs[i]? with
  | none => rw [ex] at e; cases e
  | some x =>
    rw [ex] at e
    cases e
    obtain ⟨v, hv, dv⟩ := dn.get ex
    obtain ⟨h4, h5⟩ := h3 i v hv
    refine ⟨h4, fun v' H2 y => ?_⟩
    obtain ⟨T, rfl, hT, rfl⟩ := h5 v' H2 y
    refine ⟨Le.new hT, fun m r => ⟨r.new hT, Den.newT r hT (DenL.cons ?_ (DenL.cons (dv.le l) (by simp [DenL])))⟩⟩
    simp only [Den, Nat.zero_add]
theorem pi_enmD (hg : isGlob c "enumerate" = true) (G : Gd X g c) (hm : X.mg "enumerate" = none) (ha : PE X a (tD g W fra (evE w a'))) (h1 : noStar a = true) :
    PI X (.Tuple elts kk tpos) (.Call (.Name "enumerate" p) [a] [] pos) (iD g W (evI w (.enm a'))) := by
  refine ⟨fun pins s σ H R I q => ?_⟩
  obtain ⟨ι, st, sr, o⟩ := q
  simp only [evI] at o
  have o := OutP.bnd o
  have hpa : PA X [a] (tCons (tD g W fra (evE w a')) tNil) := pa_cons ha pa_nil (starEach_one h1)
  have hL := pi_enum (elts := elts) (kk := kk) (tpos := tpos) (p := p) (pos := pos) (glob_ok G hg).1 hm hpa (starEach_one h1)
  have hT := pi_enumT (elts := elts) (kk := kk) (tpos := tpos) (p := p) (pos := pos) (glob_ok G hg).1 hm hpa (starEach_one h1)
  cases e : evE w a' st with
  | bad => rw [e] at o; exact o.elim
  | exc c d s' =>
    rw [e] at o
    refine hL.run pins s σ H R I ⟨ι, st, sr, ?_⟩
    rw [e]
    exact o
  | ok pr =>
    obtain ⟨d, st'⟩ := pr
    rw [e] at o
    obtain ⟨xs, hx, o⟩ := OutP.opt.mp (OutP.bnd o)
    have o : ∀ J H' ι', Le H ι H' ι' → SR g H' ι' σ st' → ItOk g H' ι' J (enumL 0 xs) → R J H' := o
    cases d with
    | lst ys =>
      simp only [seqV, Option.some.injEq] at hx
      subst hx
      refine hL.run pins s σ H R I ⟨ι, st, sr, ?_⟩
      rw [e]
      intro v H' ι' l sr' dn _
      simp only [Den] at dn
      obtain ⟨p, vs, rfl, ⟨hp, np⟩, dn⟩ := dn
      refine ⟨p, vs, rfl, SqL.of hp, o _ H' ι' l sr' (it_pair dn fun H2 ι2 l2 => ?_)⟩
      have hs : SqL X.K H2 p vs := SqL.of (l2.keep _ _ hp np).1
      refine ⟨⟨vs, hs, Nat.le_refl _⟩, fun i v hv => ⟨⟨vs, v, hs, hv⟩, fun v' H3 y => ?_⟩⟩
      obtain ⟨T, x, rfl, hT, rfl, hx⟩ := y
      have := hx vs hs
      rw [hv] at this
      cases this
      exact ⟨T, rfl, hT, rfl⟩
    | tup ys =>
      simp only [seqV, Option.some.injEq] at hx
      subst hx
      refine hT.run pins s σ H R I ⟨ι, st, sr, ?_⟩
      rw [e]
      intro v H' ι' l sr' dn _
      simp only [Den] at dn
      obtain ⟨p, vs, rfl, ⟨hp, np⟩, dn⟩ := dn
      refine ⟨p, vs, rfl, SqT.of hp, o _ H' ι' l sr' (it_pair dn fun H2 ι2 l2 => ?_)⟩
      have hs : SqT X.K H2 p vs := SqT.of (l2.keep _ _ hp np).1
      refine ⟨⟨vs, hs, Nat.le_refl _⟩, fun i v hv => ⟨⟨vs, v, hs, hv⟩, fun v' H3 y => ?_⟩⟩
      obtain ⟨T, x, rfl, hT, rfl, hx⟩ := y
      have := hx vs hs
      rw [hv] at this
      cases this
      exact ⟨T, rfl, hT, rfl⟩
    | _ => cases hx
end
end SV
namespace SV
open PySem PySem.Spec PyProof.Rows L2
section
variable {X : Cx} {g : Cfg} {c : Tc} {W : WX} {w : SV.W} {x : Str} {i : Nat} {pins : List (Addr × Obj)} {s : Shared} {σ : L2.St} {H : Hp} {ι : Io} {st : S}
variable {a b d : Expr} {a' b' d' : Ex} {p pos tpos : Pos} {fra frb frd fr : Bool} {elts : List Expr} {kk : Nat}
theorem zipL_get : ∀ (xs ys : List D) (i : Nat), (zipL xs ys)[i]? = match xs[i]?, ys[i]? with | some x, some y => some (.tup [x, y]) | _, _ => none
  | [], ys, i => by simp [zipL]
  | x :: r, [], i => by simp [zipL]
  | x :: r, y :: t, 0 => by simp [zipL]
  | x :: r, y :: t, i + 1 => by simp only [zipL, List.getElem?_cons_succ, zipL_get r t i]
theorem zipL_length : ∀ (xs ys : List D), (zipL xs ys).length = min xs.length ys.length
  | [], ys => by simp [zipL]
  | x :: r, [] => by simp [zipL]
  | x :: r, y :: t => by simp [zipL, zipL_length r t]
theorem it_zip {J : L2.It} {vs us : List V} {xs ys : List D} (dn : DenL g H ι xs vs) (dm : DenL g H ι ys us) (h1 : ∀ H' ι', Le H ι H' ι' → (∀ n, vs.length ≤ n ∨ us.length ≤ n → J.stop n H') ∧ ∀ (i : Nat) v u, vs[i]? = some v → us[i]? = some u → J.go i H' ∧ ∀ v' H2, J.yld i H' v' H2 → ∃ T, v' = .ref T ∧ H' T = none ∧ H2 = upd H' T (.tup [v, u])) :
    ItOk g H ι J (zipL xs ys) := fun H' ι' l => by
  obtain ⟨h2, h3⟩ := h1 H' ι' l
  refine ⟨h2 _ (by rw [zipL_length, ← dn.length, ← dm.length]; omega), fun i d e => ?_⟩
  rw [zipL_get] at e
  cases ex : xs[i]? with
  | none => rw [ex] at e; cases e
  | some x =>
    cases ey : ys[i]? with
    | none => rw [ex, ey] at e; cases e
    | some y =>
      rw [ex, ey] at e
      cases e
      obtain ⟨v, hv, dv⟩ := dn.get ex
      obtain ⟨u, hu, du⟩ := dm.get ey
      obtain ⟨h4, h5⟩ := h3 i v u hv hu
      refine ⟨h4, fun v' H2 z => ?_⟩
      obtain ⟨T, rfl, hT, rfl⟩ := h5 v' H2 z
      exact ⟨Le.new hT, fun m r => ⟨r.new hT, Den.newT r hT (DenL.cons (dv.le l) (DenL.cons (du.le l) (by simp [DenL])))⟩⟩
theorem zipD_some {x y : D} {r : List D} (h : zipD x y = some r) : (∃ xs ys, x = .lst xs ∧ y = .lst ys ∧ r = zipL xs ys) ∨ (∃ xs ys, x = .tup xs ∧ y = .tup ys ∧ r = zipL xs ys) := by
  unfold zipD at h
  split at h
  · cases h; exact .inl ⟨_, _, rfl, rfl, rfl⟩
  · cases h; exact .inr ⟨_, _, rfl, rfl, rfl⟩
  · cases h
theorem pi_zipD (hg : isGlob c "zip" = true) (G : Gd X g c) (hm : X.mg "zip" = none) (ha : PE X a (tD g W fra (evE w a'))) (hb : PE X b (tD g W frb (evE w b'))) (h1 : noStar a = true) (h2 : noStar b = true) :
    PI X (.Tuple elts kk tpos) (.Call (.Name "zip" p) [a, b] [] pos) (iD g W (evI w (.zip a' b'))) := by
  refine ⟨fun pins s σ H R I q => (RZ.pi_zipA (elts := elts) (kk := kk) (tpos := tpos) (p := p) (pos := pos) (glob_ok G hg).1 hm (pa_cons ha (pa_cons hb pa_nil (starEach_one h2)) (starEach_one h1)) (starEach_one h1) (any_plain [b] (by simp [h2]))).run pins s σ H R I ?_⟩
  obtain ⟨ι, st, sr, o⟩ := q
  simp only [evI] at o
  refine tD.then sr (OutP.bnd o) (fun _ _ _ z => z) fun x s1 v H1 ι1 o1 l1 sr1 d1 nw1 => ?_
  clear nw1
  refine tD.then sr1 (OutP.bnd o1) (fun _ _ _ z => z.mono l1) fun y s2 u H2 ι2 o2 l2 sr2 d2 nw2 => ?_
  clear nw2
  obtain ⟨r, hr, o2⟩ := OutP.opt.mp (OutP.bnd o2)
  have o2 : ∀ J H' ι', Le H ι H' ι' → SR g H' ι' σ s2 → ItOk g H' ι' J r → R J H' := o2
  have d1 := d1.le l2
  rcases zipD_some hr with ⟨xs, ys, rfl, rfl, rfl⟩ | ⟨xs, ys, rfl, rfl, rfl⟩
  · simp only [Den] at d1 d2
    obtain ⟨pa, vs, rfl, ⟨hp, np⟩, dn⟩ := d1
    obtain ⟨pb, us, rfl, ⟨hq, nq⟩, dm⟩ := d2
    refine ⟨pa, pb, vs, us, rfl, .inl ⟨SqL.of hp, SqL.of hq, o2 _ H2 ι2 (l1.trans l2) sr2 (it_zip dn dm fun H3 ι3 l3 => ?_)⟩⟩
    have h1 : SqL X.K H3 pa vs := SqL.of (l3.keep _ _ hp np).1
    have h2 : SqL X.K H3 pb us := SqL.of (l3.keep _ _ hq nq).1
    refine ⟨fun n hn => ⟨vs, us, h1, h2, hn⟩, fun i v u hv hu => ⟨⟨vs, us, v, u, h1, h2, hv, hu⟩, fun v' H4 z => ?_⟩⟩
    obtain ⟨T, x, y, rfl, hT, rfl, hx, hy⟩ := z
    have e1 := hx vs h1
    have e2 := hy us h2
    rw [hv] at e1
    rw [hu] at e2
    cases e1
    cases e2
    exact ⟨T, rfl, hT, rfl⟩
  · simp only [Den] at d1 d2
    obtain ⟨pa, vs, rfl, ⟨hp, np⟩, dn⟩ := d1
    obtain ⟨pb, us, rfl, ⟨hq, nq⟩, dm⟩ := d2
    refine ⟨pa, pb, vs, us, rfl, .inr ⟨SqT.of hp, SqT.of hq, o2 _ H2 ι2 (l1.trans l2) sr2 (it_zip dn dm fun H3 ι3 l3 => ?_)⟩⟩
    have h1 : SqT X.K H3 pa vs := SqT.of (l3.keep _ _ hp np).1
    have h2 : SqT X.K H3 pb us := SqT.of (l3.keep _ _ hq nq).1
    refine ⟨fun n hn => ⟨vs, us, h1, h2, hn⟩, fun i v u hv hu => ⟨⟨vs, us, v, u, h1, h2, hv, hu⟩, fun v' H4 z => ?_⟩⟩
    obtain ⟨T, x, y, rfl, hT, rfl, hx, hy⟩ := z
    have e1 := hx vs h1
    have e2 := hy us h2
    rw [hv] at e1
    rw [hu] at e2
    cases e1
    cases e2
    exact ⟨T, rfl, hT, rfl⟩
end
end SV
set_option linter.all false
set_option Elab.async false
set_option maxRecDepth 100000
set_option maxHeartbeats 4000000
namespace SV
open PySem PySem.Spec PyProof.Rows L2
/-- what is wanted behind a statement -/
def EndP (g : Cfg) (frr : Bool) (D : Ends) (H : Hp) (ι : Io) (p : Ctl × S) : Prop := match p.1 with
  | .nx => ∀ σ' H' ι', Le H ι H' ι' → SR g H' ι' σ' p.2 → D.nx σ' H'
  | .brk => ∀ σ' H' ι', Le H ι H' ι' → SR g H' ι' σ' p.2 → D.bk σ' H'
  | .cnt => ∀ σ' H' ι', Le H ι H' ι' → SR g H' ι' σ' p.2 → D.ct σ' H'
  | .ret d => ∀ v σ' H' ι', Le H ι H' ι' → SR g H' ι' σ' p.2 → Den g H' ι' d v → Nw frr g (fun H1 ι1 => Le H ι H1 ι1 ∧ SR g H1 ι1 σ' p.2) H' ι' d v → D.rt v H'
def tS (g : Cfg) (W : WX) (frr : Bool) (f : S → Out (Ctl × S)) : TS := fun D σ H => ∃ ι s, SR g H ι σ s ∧ OutP (f s) (EndP g frr D H ι) (XC g W H ι σ)
/-- a store into a target -/
def gD (g : Cfg) (W : WX) (f : D → S → Out S) : TG := fun v σ H Q => ∃ ι s d, SR g H ι σ s ∧ Den g H ι d v ∧ OutP (f d s) (fun s' => ∀ σ' H' ι', Le H ι H' ι' → SR g H' ι' σ' s' → Q σ' H') (XC g W H ι σ)
def gsD (g : Cfg) (W : WX) (f : List D → S → Out S) : TGs := fun vs σ H Q => ∃ ι s ds, SR g H ι σ s ∧ DenL g H ι ds vs ∧ OutP (f ds s) (fun s' => ∀ σ' H' ι', Le H ι H' ι' → SR g H' ι' σ' s' → Q σ' H') (XC g W H ι σ)
theorem PG.imp {X : Cx} {e : Expr} {t u : TG} (h : PG X e t) (k : ∀ v σ H Q, u v σ H Q → t v σ H Q) : PG X e u := ⟨fun pins s σ H v uu Q I r q => h.run pins s σ H v uu Q I r (k v σ H Q q)⟩
theorem PGs.imp {X : Cx} {e : List Expr} {t u : TGs} (h : PGs X e t) (k : ∀ v σ H Q, u v σ H Q → t v σ H Q) : PGs X e u := ⟨fun pins s σ H v uu Q I r q => h.run pins s σ H v uu Q I r (k v σ H Q q)⟩
section
variable {X : Cx} {g : Cfg} {c : Tc} {W : WX} {w : SV.W} {x : Str} {i : Nat} {pins : List (Addr × Obj)} {s : Shared} {σ σ' : L2.St} {H H' : Hp} {ι ι' : Io} {st st' : S} {D : Ends}
variable {a b d : Expr} {a' b' d' : Ex} {p pos tpos : Pos} {fra frb frd fr frr : Bool} {ex : Option (Nat × SV.D)}
theorem XC.any {c : Nat} {d : SV.D} {s : S} (h : XC g W H ι σ c d s) : XC g W H ι σ' c d s := h
theorem XC.on (l : Le H ι H' ι') {c : Nat} {d : SV.D} {s : S} (h : XC g W H ι σ c d s) : XC g W H' ι' σ' c d s := (h.mono l)
theorem EndP.on (l : Le H ι H' ι') {q : Ctl × S} (h : EndP g frr D H ι q) : EndP g frr D H' ι' q := by
  obtain ⟨cl, s⟩ := q
  cases cl with
  | nx => exact fun σ' H2 ι2 l2 r => h σ' H2 ι2 (l.trans l2) r
  | brk => exact fun σ' H2 ι2 l2 r => h σ' H2 ι2 (l.trans l2) r
  | cnt => exact fun σ' H2 ι2 l2 r => h σ' H2 ι2 (l.trans l2) r
  | ret d => exact fun v σ' H2 ι2 l2 r dn nw => h v σ' H2 ι2 (l.trans l2) r dn (nw.imp fun H3 ι3 z => ⟨l.trans z.1, z.2⟩)
theorem tS.on (l : Le H ι H' ι') {f : S → Out (Ctl × S)} (sr : SR g H' ι' σ' st) (o : OutP (f st) (EndP g frr D H ι) (XC g W H ι σ)) : tS g W frr f D σ' H' := ⟨ι', st, sr, o.mono (fun _ h => h.on l) fun _ _ _ h => h.on l⟩
theorem EnvDen.set {e : List (Option SV.D)} (h : EnvDen g H ι σ e) {d : SV.D} {v : V} (dn : Den g H ι d v) (i : Nat) : EnvDen g H ι (σ.set i (some v)) (e.set i (some d)) := by
  refine ⟨by simp [h.1], fun j d' q => ?_⟩
  by_cases hj : i = j
  · subst hj
    have hl : i < e.length := by
      have := (List.getElem?_eq_some_iff.mp q).1
      simpa using this
    rw [List.getElem?_set_self hl] at q
    cases q
    exact ⟨v, by rw [List.getElem?_set_self (by rw [h.1]; exact hl)], dn⟩
  · rw [List.getElem?_set_ne hj] at q
    obtain ⟨u, h1, h2⟩ := h.2 j d' q
    exact ⟨u, by rw [List.getElem?_set_ne hj]; exact h1, h2⟩
theorem pg_nameD (G : Gd X g c) (h : slotOf c x = some i) (hx : Loc X.env.scope x) (hf : X.fn x = true ∨ X.env.scope.names.lookup x = some .local) : PG X (.Name x pos) (gD g W (asg w (.name i))) :=
  PG.imp (pg_name G.nd (slot_ok G h).1 hx hf) fun v σ H Q q => by
    obtain ⟨ι, s, d, sr, dn, o⟩ := q
    simp only [asg] at o
    exact o _ H ι (Le.refl _ _) ⟨sr.1.set dn i, sr.2⟩
theorem pgs_nilD : PGs X [] (gsD g W (asgs w .nil)) := PGs.imp pgs_nil fun vs σ H Q q => by
  obtain ⟨ι, s, ds, sr, dn, o⟩ := q
  cases ds with
  | nil =>
    simp only [asgs] at o
    simp only [DenL] at dn
    exact ⟨dn, o σ H ι (Le.refl _ _) sr⟩
  | cons _ _ => exact o.elim
theorem assignEach_one {es : List Expr} {env : Env} (h : noStar a = true) : assignEach (a :: es) env = (false, assign a env) :: assignEach es env := by
  cases a <;> first | rfl | simp [noStar] at h
theorem pgs_consD {t : Tg} {ts : Tgs} {es : List Expr} (h1 : PG X a (gD g W (asg w t))) (h2 : PGs X es (gsD g W (asgs w ts))) (hs : noStar a = true) : PGs X (a :: es) (gsD g W (asgs w (.cons t ts))) :=
  PGs.imp (pgs_cons h1 h2 (by rw [assignEach_one hs]; rfl)) fun vs σ H Q q => by
    obtain ⟨ι, s, ds, sr, dn, o⟩ := q
    cases ds with
    | nil => exact o.elim
    | cons d ds =>
      simp only [asgs] at o
      simp only [DenL] at dn
      obtain ⟨v, r, rfl, d1, d2⟩ := dn
      refine ⟨v, r, rfl, ι, s, d, sr, d1, (OutP.bnd o).mono (fun s' hs' σ' H' ι' l r' => ?_) fun _ _ _ z => z⟩
      exact ⟨ι', s', ds, r', d2.le l, hs'.mono (fun s2 h2 σ2 H2 ι2 l2 r2 => h2 σ2 H2 ι2 (l.trans l2) r2) fun _ _ _ z => z.on l⟩
theorem assignEach_len {env : Env} : ∀ es : List Expr, es.all noStar = true → (assignEach es env).length = es.length ∧ (assignEach es env).findIdx? (·.1) = none
  | [], _ => ⟨rfl, rfl⟩
  | e :: r, h => by
    simp only [List.all_cons, Bool.and_eq_true] at h
    obtain ⟨h1, h2⟩ := assignEach_len (env := env) r h.2
    rw [assignEach_one h.1]
    refine ⟨by simp [h1], ?_⟩
    rw [List.findIdx?_cons]
    simp [h2]
theorem pg_tupD {k : Nat} {ts : Tgs} {es : List Expr} (G : Gd X g c) (h : PGs X es (gsD g W (asgs w ts))) (hs : es.all noStar = true) (hn : es.length = tgN ts) : PG X (.Tuple es k pos) (gD g W (asg w (.tup ts))) := by
  refine ⟨fun pins s σ H v u Q I r q => ?_⟩
  obtain ⟨ι, st, d, sr, dn, o⟩ := q
  simp only [asg] at o
  obtain ⟨xs, hx, o⟩ := OutP.opt.mp (OutP.bnd o)
  obtain ⟨hl, o⟩ := OutP.gd.mp (OutP.bnd o)
  have hl := of_decide_eq_true hl
  obtain ⟨hl1, hl2⟩ := assignEach_len (env := X.env) es hs
  obtain ⟨p, vs, rfl, hp, dm⟩ := dn.seq sr.2 hx
  have hv : vs.length = es.length := by rw [← dm.length, hl, hn]
  rcases hp with hp | hp
  · exact (pg_unl (pos := pos) (k := k) G.calm h hl1 hl2).run pins s σ H (.ref p) u Q I r ⟨p, vs, rfl, SqL.of hp, hv, ι, st, xs, sr, dm, o⟩
  · exact (pg_tup (pos := pos) (k := k) G.calm h hl1 hl2).run pins s σ H (.ref p) u Q I r ⟨p, vs, rfl, SqT.of hp, hv, ι, st, xs, sr, dm, o⟩
theorem ps_exp {e : Expr} {e' : Ex} (he : PE X e (tD g W fra (evE w e'))) (hs : swapsWith e none pos.line X.env = pure false) : PS X (.Expr e pos) (tS g W frr (exS w ex (.exp e'))) :=
  PS.imp (ps_expr he hs) fun D σ H q => by
    obtain ⟨ι, st, sr, o⟩ := q
    simp only [exS] at o
    exact tD.then sr (OutP.bnd o) (fun _ _ _ z => z) fun x s1 v H1 ι1 o1 l1 sr1 d1 _ => o1 σ H1 ι1 l1 sr1
theorem ps_retD {e : Expr} {e' : Ex} (he : PE X e (tD g W frr (evE w e'))) : PS X (.Return (some e) pos) (tS g W frr (exS w ex (.ret e'))) :=
  PS.imp (ps_ret he) fun D σ H q => by
    obtain ⟨ι, st, sr, o⟩ := q
    simp only [exS] at o
    exact tD.then sr (OutP.bnd o) (fun _ _ _ z => z) fun x s1 v H1 ι1 o1 l1 sr1 d1 n1 => o1 v σ H1 ι1 l1 sr1 d1 n1
theorem ps_retND : PS X (.Return none pos) (tS g W frr (exS w ex (.ret (.cst .non)))) :=
  PS.imp ps_retN fun D σ H q => by
    obtain ⟨ι, st, sr, o⟩ := q
    simp only [exS, evE] at o
    exact o .non σ H ι (Le.refl _ _) sr (by simp only [Den]) (Nw.flat (by intro a; constructor <;> (intro z; cases z)))
theorem ps_passD : PS X (.Pass pos) (tS g W frr (exS w ex .pas)) :=
  PS.imp ps_pass fun D σ H q => by
    obtain ⟨ι, st, sr, o⟩ := q
    simp only [exS] at o
    exact o σ H ι (Le.refl _ _) sr
theorem pss_nilD : PSs X [] (tS g W frr (exSs w ex [])) :=
  PSs.imp pss_nil fun D σ H q => by
    obtain ⟨ι, st, sr, o⟩ := q
    simp only [exSs] at o
    exact o σ H ι (Le.refl _ _) sr
theorem OutP.seq {f : Sm} {r : List Sm} (h : OutP (exSs w ex (f :: r) st) (EndP g frr D H ι) (XC g W H ι σ)) :
    OutP (exS w ex f st) (fun p => match p.1 with | .nx => OutP (exSs w ex r p.2) (EndP g frr D H ι) (XC g W H ι σ) | _ => EndP g frr D H ι p) (XC g W H ι σ) := by
  simp only [exSs] at h
  cases e : exS w ex f st with
  | bad => rw [e] at h; exact h
  | exc c d s => rw [e] at h; exact h
  | ok p =>
    rw [e] at h
    obtain ⟨cl, s⟩ := p
    cases cl <;> exact h
theorem pss_consD {f : Sm} {r : List Sm} {s1 : Stmt} {ss : List Stmt} (h1 : PS X s1 (tS g W frr (exS w ex f))) (h2 : PSs X ss (tS g W frr (exSs w ex r))) : PSs X (s1 :: ss) (tS g W frr (exSs w ex (f :: r))) :=
  PSs.imp (pss_cons h1 h2) fun D σ H q => by
    obtain ⟨ι, st, sr, o⟩ := q
    refine ⟨ι, st, sr, (OutP.seq o).mono (fun p hp => ?_) fun _ _ _ z => z⟩
    obtain ⟨cl, s⟩ := p
    cases cl with
    | nx => exact fun σ' H' ι' l r => tS.on l r hp
    | brk => exact hp
    | cnt => exact hp
    | ret d => exact hp
theorem ps_ifD {e : Expr} {e' : Ex} {ba bb : List Stmt} {fa fb : List Sm} (hc : PT X e (tDb g W (bE (evE w e')))) (ha : PSs X ba (tS g W frr (exSs w ex fa))) (hb : PSs X bb (tS g W frr (exSs w ex fb))) : PS X (.If e ba bb pos) (tS g W frr (exS w ex (.ifs e' fa fb))) :=
  PS.imp (ps_if hc ha hb) fun D σ H q => by
    obtain ⟨ι, st, sr, o⟩ := q
    simp only [exS] at o
    have o1 : OutP (bE (evE w e') st) (fun p => OutP (if p.1 = true then exSs w ex fa p.2 else exSs w ex fb p.2) (EndP g frr D H ι) (XC g W H ι σ)) (XC g W H ι σ) := by
      rw [OutP.bE]
      exact (OutP.bnd o).mono (fun p q => (OutP.bnd q).mono (fun _ z => z) fun _ _ _ z => z) fun _ _ _ z => z
    refine tDb.then' sr o1 fun k s' H' ι' p l sr => ?_
    cases k with
    | true => simp only [if_true] at p ⊢; exact tS.on l sr p
    | false => simp only [Bool.false_eq_true, if_false] at p ⊢; exact tS.on l sr p
theorem ps_asgD {e tg : Expr} {e' : Ex} {t : Tg} (he : PE X e (tD g W fra (evE w e'))) (hg : PG X tg (gD g W (asg w t))) (hs : swapsWithSole [tg] e pos.line X.env = pure false) (hw : swappedStores [tg] e X.env = pure none)
    (h1 : noStar tg = true) : PS X (.Assign [tg] e pos) (tS g W frr (exS w ex (.asg t e'))) :=
  PS.imp (ps_asg he hg hs hw (by rw [assignEach_one h1]; rfl)) fun D σ H q => by
    obtain ⟨ι, st, sr, o⟩ := q
    simp only [exS] at o
    refine tD.then sr (OutP.bnd o) (fun _ _ _ z => z) fun x s1 v H1 ι1 o1 l1 sr1 d1 _ => ⟨ι1, s1, x, sr1, d1, (OutP.bnd o1).mono (fun s' hs' σ' H' ι' l r => ?_) fun _ _ _ z => z.on l1⟩
    exact hs' σ' H' ι' (l1.trans l) r
theorem forL_at {f : SV.D → S → Out (Ctl × S)} {xs : List SV.D} {P : Ctl × S → Prop} {E : Nat → SV.D → S → Prop} {i : Nat} {d : SV.D} (e : xs[i]? = some d) (h : OutP (forL f (xs.drop i) st) P E) :
    OutP (f d st) (fun p => match p.1 with | .nx => OutP (forL f (xs.drop (i + 1)) p.2) P E | .cnt => OutP (forL f (xs.drop (i + 1)) p.2) P E | .brk => P (.nx, p.2) | .ret d => P (.ret d, p.2)) E := by
  have hd : xs.drop i = d :: xs.drop (i + 1) := by
    obtain ⟨h1, h2⟩ := List.getElem?_eq_some_iff.mp e
    rw [List.drop_eq_getElem_cons h1, h2]
  rw [hd] at h
  simp only [forL] at h
  cases e : f d st with
  | bad => rw [e] at h; exact h
  | exc c d s => rw [e] at h; exact h
  | ok p =>
    rw [e] at h
    obtain ⟨cl, s⟩ := p
    cases cl <;> exact h
theorem ps_forD {tg it : Expr} {t : Tg} {i' : SV.It} {b : List Stmt} {fb : List Sm} (G : Gd X g c) (hp : PassesOwn (model X.prog X.w) X.A X.env X.xe) (hi : PI X tg it (iD g W (evI w i'))) (hg : PG X tg (gD g W (asg w t))) (hb : PSs X b (tS g W frr (exSs w ex fb)))
    (hs : ∀ x, foldedSetIterable it X.env x = pure x) : PS X (.For tg it b [] pos) (tS g W frr (exS w ex (.for t i' fb))) :=
  PS.imp (ps_for hp G.calm hi hg hb hs) fun D σ H q => by
    obtain ⟨ι, st, sr, o⟩ := q
    simp only [exS] at o
    refine ⟨ι, st, sr, (OutP.bnd o).mono (fun pr hpr J H1 ι1 l1 sr1 hJ => ?_) fun _ _ _ z => z⟩
    obtain ⟨xs, s1⟩ := pr
    dsimp only at hpr sr1 hJ
    refine ⟨fun i m σ' H' => i + m = xs.length ∧ ∃ ι' s', Le H1 ι1 H' ι' ∧ SR g H' ι' σ' s' ∧ OutP (forL (fun d s => do let s ← asg w t d s; exSs w ex fb s) (xs.drop i) s') (EndP g frr D H ι) (XC g W H ι σ), ⟨xs.length, Nat.zero_add _, ι1, s1, Le.refl _ _, sr1, hpr⟩, ?_⟩
    rintro i m σ2 H2 ⟨hm, ι2, s2, l2, sr2, o2⟩
    obtain ⟨hstop, hgo⟩ := hJ H2 ι2 l2
    have l12 := l1.trans l2
    by_cases hi : i < xs.length
    · right
      obtain ⟨d, hd⟩ : ∃ d, xs[i]? = some d := ⟨xs[i], List.getElem?_eq_getElem hi⟩
      obtain ⟨g1, g2⟩ := hgo i d hd
      refine ⟨g1, _, fun σ' H' hN => hN, fun v H3 hy => ?_⟩
      obtain ⟨l3, h3⟩ := g2 v H3 hy
      obtain ⟨r3, dn⟩ := h3 s2.m sr2.2
      have sr3 : SR g H3 ι2 σ2 s2 := ⟨sr2.1.le l3, r3⟩
      have o3 := OutP.bnd (forL_at hd o2)
      have l13 := l12.trans l3
      refine ⟨ι2, s2, d, sr3, dn, o3.mono (fun s4 h4 σ4 H4 ι4 l4 sr4 => ?_) fun _ _ _ z => z.on l13⟩
      have l14 := l13.trans l4
      refine ⟨ι4, s4, sr4, h4.mono (fun p hp => ?_) fun _ _ _ z => z.on l14⟩
      obtain ⟨cl, s5⟩ := p
      cases cl with
      | nx => exact fun σ' H' ι' l r => ⟨m - 1, by omega, by omega, ι', s5, (l2.trans (l3.trans l4)).trans l, r, hp⟩
      | cnt => exact fun σ' H' ι' l r => ⟨m - 1, by omega, by omega, ι', s5, (l2.trans (l3.trans l4)).trans l, r, hp⟩
      | brk => exact fun σ' H' ι' l r => hp σ' H' ι' (l14.trans l) r
      | ret d => exact fun v σ' H' ι' l r dn nw => hp v σ' H' ι' (l14.trans l) r dn (nw.imp fun H3 ι3 z => ⟨l14.trans z.1, z.2⟩)
    · left
      have hi2 : i = xs.length := by omega
      subst hi2
      refine ⟨hstop, ?_⟩
      rw [List.drop_length] at o2
      simp only [forL] at o2
      exact o2 σ2 H2 ι2 l12 sr2
end
end SV
set_option linter.all false
set_option Elab.async false
set_option maxRecDepth 100000
set_option maxHeartbeats 4000000
namespace SV
open PySem PySem.Spec PyProof.Rows L2
section
variable {X : Cx} {g : Cfg} {c : Tc} {W : WX} {w : SV.W} {x : Str} {i : Nat} {pins : List (Addr × Obj)} {s : Shared} {σ σ' : L2.St} {H H' : Hp} {ι ι' : Io} {st st' : S} {D : Ends}
variable {a b d : Expr} {a' b' d' : Ex} {p pos tpos : Pos} {fra frb frd fr frr : Bool} {ex : Option (Nat × SV.D)} {CX : CXT} {k : Nat}
def ipD (op : Operator) : TIp := fun x y H Q => match op with
  | .Add => rI0 (fun i j => .int (i + j)) x y H Q ∨ (∃ i j, x = .str i ∧ y = .str j ∧ i.length + j.length ≤ sizeLine ∧ Q (.str (i ++ j)) H)
  | .Sub => rI0 (fun i j => .int (i - j)) x y H Q
  | _ => False
theorem ip_ok (op : Operator) : PIp X op (ipD op) := by
  intro pins s σ H x y v u Q I rx ry h
  cases op <;> simp only [ipD] at h
  · rcases h with h | h
    · exact iop_add pins s σ H x y v u Q I rx ry h
    · exact iop_add_str pins s σ H x y v u Q I rx ry h
  · exact iop_sub pins s σ H x y v u Q I rx ry h
theorem ps_augD {op : Operator} {e : Expr} {e' : Ex} (G : Gd X g c) (h : slotOf c x = some i) (hx : Loc X.env.scope x) (hf : X.fn x = true ∨ X.env.scope.names.lookup x = some .local) (he : PE X e (tD g W fra (evE w e'))) :
    PS X (.AugAssign (.Name x tpos) op e pos) (tS g W frr (exS w ex (.aug i op e'))) :=
  PS.imp (ps_aug (op := op) G.nd (slot_ok G h).1 hx he (ip_ok op) hf) fun D σ H q => by
    obtain ⟨ι, st, sr, o⟩ := q
    simp only [exS] at o
    split at o
    · rename_i d hd
      obtain ⟨v, hv, dv⟩ := sr.1.2 i d hd
      refine ⟨v, hv, tD.then sr (OutP.bnd o) (fun _ _ _ z => z) fun y s1 u H1 ι1 o1 l1 sr1 d1 nw1 => ?_⟩
      clear nw1
      have o1 := OutP.bnd o1
      have dv := dv.le l1
      unfold augD at o1
      have fin : ∀ (z : SV.D) (r : V), (∀ H ι, Den g H ι z r) → EndP g frr D H ι (.nx, ⟨s1.e.set i (some z), s1.m⟩) → D.nx (σ.set i (some r)) H1 := fun z r hz h => h _ H1 ι1 l1 ⟨sr1.1.set (hz H1 ι1) i, sr1.2⟩
      cases op <;> try exact o1.elim
      · cases d <;> try exact o1.elim
        · cases y <;> try exact o1.elim
          simp only [Den] at dv d1
          exact .inl ⟨_, _, dv, d1, fin _ _ (fun _ _ => by simp only [Den]) o1⟩
        · cases y <;> try exact o1.elim
          simp only [Den] at dv d1
          obtain ⟨hl, o1⟩ := OutP.gd.mp (OutP.bnd o1)
          rw [sizeL_eq] at hl
          exact .inr ⟨_, _, dv, d1, of_decide_eq_true hl, fin _ _ (fun _ _ => by simp only [Den]) o1⟩
      · cases d <;> try exact o1.elim
        cases y <;> try exact o1.elim
        simp only [Den] at dv d1
        exact ⟨_, _, dv, d1, fin _ _ (fun _ _ => by simp only [Den]) o1⟩
    · exact o.elim
theorem ps_whileD {e : Expr} {e' : Ex} {b : List Stmt} {fb : List Sm} (hp : PassesOwn (model X.prog X.w) X.A X.env X.xe) (hc : PT X e (tDb g W (bE (evE w e')))) (hb : PSs X b (tS g W frr (exSs w ex fb))) : PS X (.While e b [] pos) (tS g W frr (exS w ex (.whl e' fb))) :=
  PS.imp (ps_while hp hc hb) fun D σ H q => by
    obtain ⟨ι, st, sr, o⟩ := q
    simp only [exS] at o
    refine ⟨fun m σ' H' => ∃ ι' s', Le H ι H' ι' ∧ SR g H' ι' σ' s' ∧ OutP (whlL (bE (evE w e')) (fun s => exSs w ex fb s) m s') (EndP g frr D H ι) (XC g W H ι σ), ⟨w.fuel, ι, st, Le.refl _ _, sr, o⟩, ?_⟩
    rintro m σ2 H2 ⟨ι2, s2, l2, sr2, o2⟩
    cases m with
    | zero => exact o2.elim
    | succ m =>
      simp only [whlL] at o2
      have o3 : OutP (bE (evE w e') s2) (fun p => if p.1 = true then OutP (exSs w ex fb p.2) (fun q => match q.1 with | .nx => OutP (whlL (bE (evE w e')) (fun s => exSs w ex fb s) m q.2) (EndP g frr D H ι) (XC g W H ι σ) | .cnt => OutP (whlL (bE (evE w e')) (fun s => exSs w ex fb s) m q.2) (EndP g frr D H ι) (XC g W H ι σ) | .brk => EndP g frr D H ι (.nx, q.2) | .ret d => EndP g frr D H ι (.ret d, q.2)) (XC g W H ι σ) else EndP g frr D H ι (.nx, p.2)) (XC g W H ι σ) := by
        cases e1 : bE (evE w e') s2 with
        | bad => rw [e1] at o2; exact o2
        | exc c d s => rw [e1] at o2; exact o2
        | ok p =>
          obtain ⟨k, s3⟩ := p
          rw [e1] at o2
          cases k with
          | false => exact o2
          | true =>
            show OutP (exSs w ex fb s3) _ _
            dsimp only at o2
            cases e4 : exSs w ex fb s3 with
            | bad => rw [e4] at o2; exact o2
            | exc c d s => rw [e4] at o2; exact o2
            | ok q =>
              obtain ⟨cl, s5⟩ := q
              rw [e4] at o2
              cases cl <;> exact o2
      refine tDb.then' sr2 (o3.mono (fun _ z => z) fun _ _ _ z => z.on l2) fun kk s3 H3 ι3 p l3 sr3 => ?_
      have l13 := l2.trans l3
      cases kk with
      | false =>
        simp only [Bool.false_eq_true, if_false] at p ⊢
        exact p σ2 H3 ι3 l13 sr3
      | true =>
        simp only [if_true] at p ⊢
        refine ⟨fun σ' H' => ∃ m', m' < m + 1 ∧ ∃ ι' s', Le H ι H' ι' ∧ SR g H' ι' σ' s' ∧ OutP (whlL (bE (evE w e')) (fun s => exSs w ex fb s) m' s') (EndP g frr D H ι) (XC g W H ι σ), fun σ' H' h => h, ι3, s3, sr3, p.mono (fun q hq => ?_) fun _ _ _ z => z.on l13⟩
        obtain ⟨cl, s5⟩ := q
        cases cl with
        | nx => exact fun σ' H' ι' l r => ⟨m, by omega, ι', s5, l13.trans l, r, hq⟩
        | cnt => exact fun σ' H' ι' l r => ⟨m, by omega, ι', s5, l13.trans l, r, hq⟩
        | brk => exact fun σ' H' ι' l r => hq σ' H' ι' (l13.trans l) r
        | ret d => exact fun v σ' H' ι' l r dn nw => hq v σ' H' ι' (l13.trans l) r dn (nw.imp fun H3 ι3 z => ⟨l13.trans z.1, z.2⟩)
theorem upd_upd {p : Addr} {o u : HO} : upd (upd H p o) p u = upd H p u := by
  funext a
  by_cases h : a = p
  · subst h; rw [upd_same, upd_same]
  · rw [upd_ne h, upd_ne h, upd_ne h]
theorem denF_put {f : Nat} {y : SV.D} {u : V} (hf : f < 15) (dy : Den g H ι y u) : ∀ {fs : List (Nat × SV.D)} {vs : List (Str × V)}, DenF g H ι fs vs → DenF g H ι (fput fs f y) (putF (fname f) u vs)
  | [], vs, h => by simp only [DenF] at h; subst h; simp [fput, putF, DenF, dy]
  | (n, x) :: r, vs, h => by
    simp only [DenF] at h
    obtain ⟨v, t, rfl, a, b⟩ := h
    by_cases hn : n = f
    · subst hn
      simp only [fput, putF, if_true, DenF]
      exact ⟨u, t, rfl, dy, b⟩
    · have hne : fname n ≠ fname f := fun z => hn (fname_inj hf z)
      simp only [fput, putF, if_neg hn, if_neg hne, DenF]
      exact ⟨v, _, rfl, a, denF_put hf dy b⟩
theorem fput_length (fs : List (Nat × SV.D)) (f : Nat) (y : SV.D) : (fput fs f y).length ≤ fs.length + 1 := by
  induction fs with
  | nil => simp [fput]
  | cons p r ih =>
    obtain ⟨n, x⟩ := p
    simp only [fput]
    split <;> simp <;> omega
/-- a place of the store is written -/
theorem Le.wr {m : List MO} {k : Nat} {p : Addr} {o : HO} (r : Rel g H ι m) (e : ι[k]? = some (some p)) : Le H ι (upd H p o) ι :=
  ⟨fun a u h n => ⟨by rw [upd_ne (fun z => n (by subst z; exact List.mem_of_getElem? e))]; exact h, n⟩, fun a h => by
    by_cases z : a = p
    · subst z; rw [upd_same]; exact fun z => nomatch z
    · rw [upd_ne z]; exact h, Nat.le_refl _, fun _ _ => .inl rfl⟩
theorem Rel.wr {m : List MO} {k : Nat} {p : Addr} {o : HO} {mo : MO} (r : Rel g H ι m) (e : ι[k]? = some (some p)) (hm : MDen g (upd H p o) ι p mo) : Rel g (upd H p o) ι (m.set k mo) := by
  have l : Le H ι (upd H p o) ι := Le.wr r e
  refine ⟨by simp [r.len], fun j mo' h => ?_, r.inj⟩
  by_cases hj : k = j
  · subst hj
    have hl : k < m.length := by
      have := (List.getElem?_eq_some_iff.mp h).1
      simpa using this
    rw [List.getElem?_set_self hl] at h
    cases h
    exact .inr ⟨p, e, hm⟩
  · rw [List.getElem?_set_ne hj] at h
    rcases r.at_ j mo' h with z | ⟨a, h1, h2⟩
    · exact .inl z
    · refine .inr ⟨a, h1, h2.le l fun u hu => ?_⟩
      rw [upd_ne (fun z => hj (r.inj k j p e (by rw [← z]; exact h1)))]
      exact hu
theorem ps_fldD {o e : Expr} {o' e' : Ex} {f : Nat} {nm : Str} (T : Fx X g W w CX k) (hm : fname f = nm) (ho : PE X o (tD g W fra (evE w o'))) (he : PE X e (tD g W frb (evE w e'))) (hK : g.K = X.K) (hs : swapsWith e (some (.Attribute o nm tpos)) pos.line X.env = pure false) :
    PS X (.Assign [.Attribute o nm tpos] e pos) (tS g W frr (exS w ex (.asg (.att o' f) e'))) :=
  PS.imp (ps_fld ho he hs) fun D σ H q => by
    obtain ⟨ι, st, sr, oo⟩ := q
    simp only [exS, asg] at oo
    refine tD.then sr (OutP.bnd oo) (fun _ _ _ z => z) fun y s1 v H1 ι1 o1 l1 sr1 d1 nw1 => ?_
    clear nw1
    refine tD.then sr1 (OutP.bnd (OutP.bnd o1)) (fun _ _ _ z => z.mono l1) fun x s2 u H2 ι2 o2 l2 sr2 d2 nw2 => ?_
    clear nw2
    have d1 := d1.le l2
    have l12 := l1.trans l2
    cases x with
    | ref j =>
      dsimp only at o2
      cases hmo : s2.m[j]? with
      | none => rw [hmo] at o2; exact o2.elim
      | some mo =>
        rw [hmo] at o2
        cases mo with
        | obj cl fs =>
          dsimp only at o2
          obtain ⟨hb, o2⟩ := OutP.gd.mp (OutP.bnd o2)
          simp only [Bool.and_eq_true] at hb
          have hl := of_decide_eq_true hb.2
          rcases sr2.2.at_ j _ hmo with ⟨z, _⟩ | ⟨p, hp, dx, fs', h1, h2, h3⟩
          · cases z
          · simp only [Den] at d2
            have e := d2.2 p hp
            subst e
            subst hm
            have hlen : fs'.length = fs.length := by
              have : ∀ {fs : List (Nat × SV.D)} {vs : List (Str × V)}, DenF g H2 ι2 fs vs → vs.length = fs.length := by
                intro fs
                induction fs with
                | nil => intro vs h; simp only [DenF] at h; subst h; rfl
                | cons q r ih => intro vs h; obtain ⟨n, x⟩ := q; simp only [DenF] at h; obtain ⟨v, t, rfl, _, b⟩ := h; simp [ih b]
              exact this h2
            have lw : Le H2 ι2 (upd H2 p (.ins (g.aC cl) dx (putF (fname f) v fs'))) ι2 := Le.wr sr2.2 hp
            refine ⟨p, g.aC cl, dx, fs', rfl, h1, T.cls cl (hasF_lt hb.1).2, T.fld cl f hb.1, by omega, ?_⟩
            refine o2 σ _ ι2 (l12.trans lw) ⟨sr2.1.le lw, sr2.2.wr hp ⟨dx, _, upd_same, (denF_put (hasF_lt hb.1).1 d1 h2).le lw, ?_⟩⟩
            have := fput_length fs f y
            omega
        | _ => exact o2.elim
    | _ => exact o2.elim
end
end SV
set_option linter.all false
set_option Elab.async false
set_option maxRecDepth 100000
set_option maxHeartbeats 4000000
namespace SV
open PySem PySem.Spec PyProof.Rows L2
section
variable {X : Cx} {g : Cfg} {c : Tc} {W : WX} {w : SV.W} {x : Str} {i : Nat} {pins : List (Addr × Obj)} {s : Shared} {σ σ' : L2.St} {H H' : Hp} {ι ι' : Io} {st st' : S} {D : Ends}
variable {a b d : Expr} {a' b' d' : Ex} {p pos tpos : Pos} {fra frb frd fr frr : Bool} {ex : Option (Nat × SV.D)} {CX : CXT} {k : Nat}
def tPut (g : Cfg) : TSet := fun o i v H Q => ∃ ι m x y d m', Rel g H ι m ∧ Den g H ι x o ∧ Den g H ι y i ∧ Den g H ι d v ∧ putD m x y d = .ok m' ∧ ∀ H', Le H ι H' ι → Rel g H' ι m' → Q H'
theorem put_ok (hu : X.A.units + 1 < cLine) : PSet X (tPut g) := by
  intro pins s σ H o i v ov iv u Q I ro ri rv h
  obtain ⟨ι, m, x, y, d, m', r, dx, dy, dd, e, q⟩ := h
  cases x with
  | ref k =>
    simp only [putD] at e
    cases hm : m[k]? with
    | none => rw [hm] at e; cases e
    | some mo =>
      rw [hm] at e
      rcases r.at_ k mo hm with ⟨z, _⟩ | ⟨p, hp, md⟩
      · subst z; cases e
      · have eo : o = .ref p := by simp only [Den] at dx; exact dx.2 p hp
        subst eo
        cases mo with
        | lst ys =>
          cases y with
          | int j =>
            obtain ⟨n, h1, e⟩ := opt_ok e
            cases e
            obtain ⟨vs, h2, h3⟩ := md
            simp only [Den] at dy
            subst dy
            refine set_list pins s σ H (.ref p) (.int j) v ov iv u Q I ro ri rv ⟨p, vs, j, n, rfl, rfl, h2, by rw [← ixOf_N, ← h3.length]; exact h1, ?_⟩
            have lw : Le H ι (upd H p (.lst (vs.set n v))) ι := Le.wr r hp
            exact q _ lw (r.wr hp ⟨_, upd_same, (h3.set n dd).le lw⟩)
          | _ => cases e
        | dct es =>
          obtain ⟨hb, e⟩ := gd_ok e
          cases e
          simp only [Bool.and_eq_true] at hb
          have hd : DctAt g H ι p es := md
          obtain ⟨kvs, h2, h3⟩ := hd.dK hb.1
          have hk := hb.1
          simp only [kindOk, Bool.and_eq_true] at hk
          obtain ⟨key, rfl⟩ := keyK_key hk.1
          rw [den_kV dy] at ri
          cases ro
          have hl : kvs.length < sizeLine := by rw [← denE_length h3, ← sizeL_eq]; exact of_decide_eq_true hb.2
          have lw : Le H ι (upd H p (.dK (putK kvs key v))) ι := Le.wr r hp
          refine d_setItem (H' := upd H p (.dK (putK kvs key v))) hu I (DPut.k h2 hl) ri rv fun s' I' => ⟨_, I', q _ lw (r.wr hp (.inl ⟨_, upd_same, (denE_put h3 dd).le lw⟩))⟩
        | obj c fs => cases e
        | dead => cases e
  | _ => cases e
def noSlice : Expr → Bool
  | .Slice .. => false
  | _ => true
theorem putD_calm {m : List MO} {x y d : SV.D} : ∀ c e s, putD m x y d ≠ .exc c e s := by
  intro c e s
  unfold putD
  split
  · split
    · split
      · exact calm_bind (fun _ _ _ _ z => by cases z) c e s
      · intro z; cases z
    · exact calm_gd (fun _ _ _ z => by cases z) c e s
    · intro z; cases z
  · intro z; cases z
theorem pg_subD (hu : X.A.units + 1 < cLine) (ha : PE X a (tD g W fra (evE w a'))) (hb : PE X b (tD g W frb (evE w b'))) (hs : noSlice b = true) : PG X (.Subscript a b pos) (gD g W (asg w (.sub a' b'))) :=
  PG.imp (pg_sub ha hb (put_ok (g := g) hu) (by cases b <;> first | (intro v; rfl) | simp [noSlice] at hs)) fun v σ H Q q => by
    obtain ⟨ι, st, d, sr, dn, o⟩ := q
    simp only [asg] at o
    refine tD.then sr (OutP.bnd o) (fun _ _ _ z => z) fun x s1 u H1 ι1 o1 l1 sr1 d1 nw1 => ?_
    clear nw1
    refine tD.then sr1 (OutP.bnd o1) (fun _ _ _ z => z.mono l1) fun y s2 u2 H2 ι2 o2 l2 sr2 d2 nw2 => ?_
    clear nw2
    have o2 := OutP.bnd o2
    have l12 := l1.trans l2
    cases e : putD s2.m x y d with
    | bad => rw [e] at o2; exact o2.elim
    | exc c d s => exact absurd e (putD_calm _ _ _)
    | ok m' =>
      rw [e] at o2
      exact ⟨ι2, s2.m, x, y, d, m', sr2.2, d1.le l2, d2, dn.le l12, e, fun H' l r => o2 σ H' ι2 (l12.trans l) ⟨sr2.1.le l, r⟩⟩
theorem ps_parD {x y : Str} {i j : Nat} {a b : Expr} {a' b' : Ex} {px py pt : Pos} {kt k2 pt2} (G : Gd X g c) (hx : slotOf c x = some i) (hy : slotOf c y = some j) (hij : i ≠ j) (lx : X.env.scope.names.lookup x = some .local) (ly : X.env.scope.names.lookup y = some .local)
    (ha : PE X a (tD g W fra (evE w a'))) (hb : PE X b (tD g W frb (evE w b'))) (na : noStar a = true) (nb : noStar b = true)
    (hw : swappedStores [.Tuple [.Name x px, .Name y py] kt pt] (.Tuple [a, b] k2 pt2) X.env = pure (some [x, y])) :
    PS X (.Assign [.Tuple [.Name x px, .Name y py] kt pt] (.Tuple [a, b] k2 pt2) pos) (tS g W frr (exS w ex (.par (.cons (.name i) (.cons (.name j) .nil)) (.cons a' (.cons b' .nil))))) :=
  PS.imp (ps_par G.calm G.nd (slot_ok G hx).1 (slot_ok G hy).1 hij lx ly (pa_cons ha (pa_cons hb pa_nil (starEach_one nb)) (starEach_one na)) hw rfl) fun D σ H q => by
    obtain ⟨ι, st, sr, o⟩ := q
    simp only [exS, evEs] at o
    refine tD.then sr (OutP.bnd (OutP.bnd o)) (fun _ _ _ z => z) fun d1 s1 v H1 ι1 o1 l1 sr1 dn1 nw1 => ?_
    clear nw1
    refine tD.then sr1 (OutP.bnd (OutP.bnd o1)) (fun _ _ _ z => z.mono l1) fun d2 s2 u H2 ι2 o2 l2 sr2 dn2 nw2 => ?_
    clear nw2
    have l12 := l1.trans l2
    refine ⟨v, u, rfl, ?_⟩
    have o3 : EndP g frr D H ι (.nx, ⟨(s2.e.set i (some d1)).set j (some d2), s2.m⟩) := o2
    exact o3 _ H2 ι2 l12 ⟨(sr2.1.set (dn1.le l2) i).set dn2 j, sr2.2⟩
theorem ps_par3D {x y z : Str} {i j l : Nat} {a b d : Expr} {a' b' d' : Ex} {px py pz pt : Pos} {kt k2 pt2} (G : Gd X g c) (hx : slotOf c x = some i) (hy : slotOf c y = some j) (hz : slotOf c z = some l) (hij : i ≠ j) (hil : i ≠ l) (hjl : j ≠ l) (lx : X.env.scope.names.lookup x = some .local) (ly : X.env.scope.names.lookup y = some .local) (lz : X.env.scope.names.lookup z = some .local)
    (ha : PE X a (tD g W fra (evE w a'))) (hb : PE X b (tD g W frb (evE w b'))) (hd : PE X d (tD g W frd (evE w d'))) (na : noStar a = true) (nb : noStar b = true) (nd : noStar d = true)
    (hw : swappedStores [.Tuple [.Name x px, .Name y py, .Name z pz] kt pt] (.Tuple [a, b, d] k2 pt2) X.env = pure (some [x, y, z])) :
    PS X (.Assign [.Tuple [.Name x px, .Name y py, .Name z pz] kt pt] (.Tuple [a, b, d] k2 pt2) pos) (tS g W frr (exS w ex (.par (.cons (.name i) (.cons (.name j) (.cons (.name l) .nil))) (.cons a' (.cons b' (.cons d' .nil)))))) :=
  PS.imp (ps_par3 G.calm G.nd (slot_ok G hx).1 (slot_ok G hy).1 (slot_ok G hz).1 hij hil hjl lx ly lz (pa_cons ha (pa_cons hb (pa_cons hd pa_nil (starEach_one nd)) (starEach_one nb)) (starEach_one na)) hw rfl) fun D σ H q => by
    obtain ⟨ι, st, sr, o⟩ := q
    simp only [exS, evEs] at o
    refine tD.then sr (OutP.bnd (OutP.bnd o)) (fun _ _ _ z => z) fun d1 s1 v H1 ι1 o1 l1 sr1 dn1 nw1 => ?_
    clear nw1
    refine tD.then sr1 (OutP.bnd (OutP.bnd o1)) (fun _ _ _ z => z.mono l1) fun d2 s2 u H2 ι2 o2 l2 sr2 dn2 nw2 => ?_
    clear nw2
    have l12 := l1.trans l2
    refine tD.then sr2 (OutP.bnd (OutP.bnd o2)) (fun _ _ _ z => z.mono l12) fun d3 s3 t H3 ι3 o3 l3 sr3 dn3 nw3 => ?_
    clear nw3
    refine ⟨v, u, t, rfl, ?_⟩
    have o4 : EndP g frr D H ι (.nx, ⟨((s3.e.set i (some d1)).set j (some d2)).set l (some d3), s3.m⟩) := o3
    exact o4 _ H3 ι3 (l12.trans l3) ⟨((sr3.1.set ((dn1.le l2).le l3) i).set (dn2.le l3) j).set dn3 l, sr3.2⟩
end
end SV
set_option linter.all false
set_option Elab.async false
set_option maxRecDepth 100000
set_option maxHeartbeats 4000000
namespace SV
open PySem PySem.Spec PyProof.Rows L2
theorem OutP.noX' {α : Type} {o : Out α} {P : α → Prop} {E E' : Nat → D → S → Prop} (h : OutP (SV.noX o) P E) : OutP o P E' := by
  cases o with
  | ok a => exact h
  | exc c d s => exact h.elim
  | bad => exact h.elim
/-- what is wanted within a comprehension of exceptions: none -/
abbrev W0 : WX := fun _ _ _ _ => False
/-- a store into names alone: the other slots stay -/
def gW (g : Cfg) (own : List Nat) (f : D → S → Out S) : TG := fun v σ H Q => ∃ ι s d, SR g H ι σ s ∧ Den g H ι d v ∧ OutP (f d s) (fun s' => ∀ σ' H' ι', Le H ι H' ι' → SR g H' ι' σ' s' → wipe σ' own = wipe σ own → Q σ' H') (fun _ _ _ => False)
def gsW (g : Cfg) (own : List Nat) (f : List D → S → Out S) : TGs := fun vs σ H Q => ∃ ι s ds, SR g H ι σ s ∧ DenL g H ι ds vs ∧ OutP (f ds s) (fun s' => ∀ σ' H' ι', Le H ι H' ι' → SR g H' ι' σ' s' → wipe σ' own = wipe σ own → Q σ' H') (fun _ _ _ => False)
theorem wipe_get : ∀ {vs : List Nat} {σ : L2.St} {j : Nat}, (wipe σ vs)[j]? = if j ∈ vs then (σ[j]?).map fun _ => none else σ[j]?
  | [], σ, j => by simp [wipe]
  | v :: vs, σ, j => by
    simp only [wipe]
    by_cases h : v = j
    · subst h
      rw [if_pos (List.mem_cons_self ..)]
      by_cases hl : v < σ.length
      · rw [List.getElem?_set_self (by rw [wipe_length]; exact hl), List.getElem?_eq_getElem hl]
        rfl
      · rw [List.getElem?_eq_none (by rw [List.length_set, wipe_length]; omega), List.getElem?_eq_none (by omega)]
        rfl
    · rw [List.getElem?_set_ne h, wipe_get (vs := vs)]
      have : j ∈ v :: vs ↔ j ∈ vs := by simp [Ne.symm h]
      simp only [this]
theorem wipe_set {σ : L2.St} {own : List Nat} {i : Nat} {v : Option V} (h : i ∈ own) : wipe (σ.set i v) own = wipe σ own := by
  apply List.ext_getElem?
  intro j
  rw [wipe_get, wipe_get]
  by_cases hj : j ∈ own
  · rw [if_pos hj, if_pos hj]
    by_cases e : i = j
    · subst e
      by_cases hl : i < σ.length
      · rw [List.getElem?_set_self hl, List.getElem?_eq_getElem hl]; rfl
      · rw [List.getElem?_eq_none (by simp; omega), List.getElem?_eq_none (by omega)]
    · rw [List.getElem?_set_ne e]
  · rw [if_neg hj, if_neg hj, List.getElem?_set_ne (fun e => hj (by rw [← e]; exact h))]
section
variable {X : Cx} {g : Cfg} {c : Tc} {W : WX} {w : SV.W} {x : Str} {i : Nat} {pins : List (Addr × Obj)} {s : Shared} {σ σ' : L2.St} {H H' : Hp} {ι ι' : Io} {st st' : S}
variable {a b d : Expr} {a' b' d' : Ex} {p pos tpos : Pos} {fra frb frd fr : Bool} {own : List Nat} {es : List Expr} {t : Tg} {ts : Tgs}
theorem pg_nameW (G : Gd X g c) (h : slotOf c x = some i) (hi : i ∈ own) (hx : Loc X.env.scope x) (hf : X.fn x = true ∨ X.env.scope.names.lookup x = some .local) : PG X (.Name x pos) (gW g own (asg w (.name i))) :=
  PG.imp (pg_name G.nd (slot_ok G h).1 hx hf) fun v σ H Q q => by
    obtain ⟨ι, s, d, sr, dn, o⟩ := q
    simp only [asg] at o
    exact o _ H ι (Le.refl _ _) ⟨sr.1.set dn i, sr.2⟩ (wipe_set hi)
theorem pgs_nilW : PGs X [] (gsW g own (asgs w .nil)) := PGs.imp pgs_nil fun vs σ H Q q => by
  obtain ⟨ι, s, ds, sr, dn, o⟩ := q
  cases ds with
  | nil =>
    simp only [asgs] at o
    simp only [DenL] at dn
    exact ⟨dn, o σ H ι (Le.refl _ _) sr rfl⟩
  | cons _ _ => exact o.elim
theorem pgs_consW (h1 : PG X a (gW g own (asg w t))) (h2 : PGs X es (gsW g own (asgs w ts))) (hs : noStar a = true) : PGs X (a :: es) (gsW g own (asgs w (.cons t ts))) :=
  PGs.imp (pgs_cons h1 h2 (by rw [assignEach_one hs]; rfl)) fun vs σ H Q q => by
    obtain ⟨ι, s, ds, sr, dn, o⟩ := q
    cases ds with
    | nil => exact o.elim
    | cons d ds =>
      simp only [asgs] at o
      simp only [DenL] at dn
      obtain ⟨v, r, rfl, d1, d2⟩ := dn
      refine ⟨v, r, rfl, ι, s, d, sr, d1, (OutP.bnd o).mono (fun s' hs' σ' H' ι' l r' hw => ?_) fun _ _ _ z => z⟩
      exact ⟨ι', s', ds, r', d2.le l, hs'.mono (fun s2 h2 σ2 H2 ι2 l2 r2 hw2 => h2 σ2 H2 ι2 (l.trans l2) r2 (hw2.trans hw)) fun _ _ _ z => z⟩
theorem pg_tupW {k : Nat} (G : Gd X g c) (h : PGs X es (gsW g own (asgs w ts))) (hs : es.all noStar = true) (hn : es.length = tgN ts) : PG X (.Tuple es k pos) (gW g own (asg w (.tup ts))) := by
  refine ⟨fun pins s σ H v u Q I r q => ?_⟩
  obtain ⟨ι, st, d, sr, dn, o⟩ := q
  simp only [asg] at o
  obtain ⟨xs, hx, o⟩ := OutP.opt.mp (OutP.bnd o)
  obtain ⟨hl, o⟩ := OutP.gd.mp (OutP.bnd o)
  have hl := of_decide_eq_true hl
  obtain ⟨hl1, hl2⟩ := assignEach_len (env := X.env) es hs
  obtain ⟨p, vs, rfl, hp, dm⟩ := dn.seq sr.2 hx
  have hv : vs.length = es.length := by rw [← dm.length, hl, hn]
  rcases hp with hp | hp
  · exact (pg_unl (pos := pos) (k := k) G.calm h hl1 hl2).run pins s σ H (.ref p) u Q I r ⟨p, vs, rfl, SqL.of hp, hv, ι, st, xs, sr, dm, o⟩
  · exact (pg_tup (pos := pos) (k := k) G.calm h hl1 hl2).run pins s σ H (.ref p) u Q I r ⟨p, vs, rfl, SqT.of hp, hv, ι, st, xs, sr, dm, o⟩
/-- tests of a clause: none or one -/
theorem pts_nilD : PTs X [] (tDb g W (evA w .nil)) := ⟨fun pins s σ H Q I q => pts_nil.run pins s σ H Q I (by
  obtain ⟨ι, st, sr, o⟩ := q
  simp only [evA] at o
  exact o H ι (Le.refl _ _) sr)⟩
theorem pts_oneD (h : PT X a (tDb g W (bE (evE w a')))) : PTs X [a] (tDb g W (evA w (.cons a' .nil))) := ⟨fun pins s σ H Q I q => (pts_one h).run pins s σ H Q I (by
  obtain ⟨ι, st, sr, o⟩ := q
  simp only [evA] at o
  refine ⟨ι, st, sr, ?_⟩
  rw [OutP.bE]
  refine (OutP.bnd o).mono (fun p q => ?_) fun _ _ _ z => z
  refine (OutP.bnd q).mono (fun k q => ?_) fun _ _ _ z => z
  cases k with
  | true => exact q
  | false => exact q)⟩
/-- the slots of a block, forgotten -/
theorem foldl_set {v : Nat → Option D} : ∀ {own : List Nat} {e : List (Option D)} {j : Nat}, (own.foldl (fun e i => e.set i (v i)) e)[j]? = if j ∈ own then (e[j]?).map (fun _ => v j) else e[j]?
  | [], e, j => by simp
  | i :: own, e, j => by
    rw [List.foldl_cons, foldl_set (own := own)]
    by_cases h : i = j
    · subst h
      rw [if_pos (List.mem_cons_self ..)]
      by_cases hl : i < e.length
      · rw [List.getElem?_set_self hl, List.getElem?_eq_getElem hl]
        split <;> rfl
      · rw [List.getElem?_eq_none (by simp; omega), List.getElem?_eq_none (by omega)]
        split <;> rfl
    · rw [List.getElem?_set_ne h]
      have : j ∈ i :: own ↔ j ∈ own := by simp [Ne.symm h]
      simp only [this]
theorem foldl_len {v : Nat → Option D} : ∀ {own : List Nat} {e : List (Option D)}, (own.foldl (fun e i => e.set i (v i)) e).length = e.length
  | [], e => rfl
  | i :: own, e => by rw [List.foldl_cons, foldl_len (own := own), List.length_set]
theorem EnvDen.wipeS {s : S} (h : EnvDen g H ι σ s.e) : EnvDen g H ι (wipe σ own) (SV.wipeS own s).e := by
  refine ⟨by rw [wipe_length]; unfold SV.wipeS; rw [foldl_len (v := fun _ => none)]; exact h.1, fun j d q => ?_⟩
  unfold SV.wipeS at q
  rw [foldl_set (v := fun _ => none)] at q
  by_cases hj : j ∈ own
  · rw [if_pos hj] at q
    cases e : s.e[j]? with
    | none => rw [e] at q; cases q
    | some o => rw [e] at q; cases q
  · rw [if_neg hj] at q
    obtain ⟨v, h1, h2⟩ := h.2 j d q
    exact ⟨v, by rw [wipe_get, if_neg hj]; exact h1, h2⟩
theorem wipe_wipe : wipe (wipe σ own) own = wipe σ own := by
  apply List.ext_getElem?
  intro j
  rw [wipe_get]
  by_cases hj : j ∈ own
  · rw [if_pos hj, wipe_get, if_pos hj]; cases σ[j]? <;> rfl
  · rw [if_neg hj]
theorem EnvDen.backS {s0 s1 : S} (h0 : EnvDen g H ι σ s0.e) (h1 : EnvDen g H' ι' (wipe σ own) (SV.wipeS own s1).e) (l : Le H ι H' ι') : EnvDen g H' ι' σ (SV.backS own s0 s1).e := by
  have hl : σ.length = s1.e.length := by
    have := h1.1
    rw [wipe_length] at this
    unfold SV.wipeS at this
    rw [foldl_len (v := fun _ => none)] at this
    exact this
  refine ⟨by unfold SV.backS; rw [foldl_len (v := fun i => (s0.e[i]?).getD none)]; exact hl, fun j d q => ?_⟩
  unfold SV.backS at q
  rw [foldl_set (v := fun i => (s0.e[i]?).getD none)] at q
  by_cases hj : j ∈ own
  · rw [if_pos hj] at q
    cases e : s1.e[j]? with
    | none => rw [e] at q; cases q
    | some o =>
      rw [e] at q
      simp only [Option.map_some, Option.some.injEq] at q
      cases e0 : s0.e[j]? with
      | none => rw [e0] at q; cases q
      | some o0 =>
        rw [e0] at q
        simp only [Option.getD_some] at q
        subst q
        obtain ⟨v, a1, a2⟩ := h0.2 j d e0
        exact ⟨v, a1, a2.le l⟩
  · rw [if_neg hj] at q
    have q2 : (SV.wipeS own s1).e[j]? = some (some d) := by
      unfold SV.wipeS
      rw [foldl_set (v := fun _ => none), if_neg hj]
      exact q
    obtain ⟨v, a1, a2⟩ := h1.2 j d q2
    rw [wipe_get, if_neg hj] at a1
    exact ⟨v, a1, a2⟩
theorem lcL_at {f : D → S → Out S} {xs : List D} {P : S → Prop} {E : Nat → D → S → Prop} {i : Nat} {d : D} (e : xs[i]? = some d) (h : OutP (lcL f (xs.drop i) st) P E) : OutP (f d st) (fun s => OutP (lcL f (xs.drop (i + 1)) s) P E) E := by
  have hd : xs.drop i = d :: xs.drop (i + 1) := by
    obtain ⟨h1, h2⟩ := List.getElem?_eq_some_iff.mp e
    rw [List.drop_eq_getElem_cons h1, h2]
  rw [hd] at h
  simp only [lcL] at h
  cases e : f d st with
  | bad => rw [e] at h; exact h
  | exc c d s => rw [e] at h; exact h
  | ok p => rw [e] at h; exact h
/-- the new list's place, later on -/
theorem placeAt {k : Nat} {p : Addr} {m : List MO} {mo : MO} (l : Le H (ι ++ [some p]) H' ι') (hk : ι.length = k) (r : Rel g H' ι' m) (e : m[k]? = some mo) (hd : mo ≠ .dead) : ι'[k]? = some (some p) ∧ MDen g H' ι' p mo := by
  have h1 := l.same k (by simp; omega)
  rw [List.getElem?_append_right (by omega), ← hk, Nat.sub_self] at h1
  simp only [List.getElem?_cons_zero] at h1
  rcases r.at_ k mo e with ⟨z, _⟩ | ⟨a, h2, h3⟩
  · exact absurd z hd
  · rw [← hk] at h2
    rcases h1 with z | z
    · rw [z] at h2
      cases h2
      rw [← hk]
      exact ⟨z, h3⟩
    · rw [z] at h2; cases h2
/-- a turn of a comprehension -/
def lcF (w : SV.W) (own : List Nat) (t : Tg) (ifs : Exs) (e : Ex) (k : Nat) : D → S → Out S := fun x s => SV.noX (do
  let s ← asg w t x (wipeS own s)
  let (b, s) ← evA w ifs s
  if b then do
    let (y, s) ← evE w e s
    addM k y s
  else .ok s)
theorem lc_imp {e' : Ex} {it' : SV.It} {ifs' : Exs} {fre : Bool} {Q : VK} (q : tD g W false (evE w (.lc e' own t it' ifs')) σ H Q) :
    tLc (iD g W (evI w it')) (gW g own (asg w t)) (tDb g W0 (evA w ifs')) (tD g W0 fre (evE w e')) own σ H Q := by
  obtain ⟨ι, st, sr, o⟩ := q
  simp only [evE] at o
  refine ⟨ι, st, sr, (OutP.bnd o).mono (fun pr hpr J H1 ι1 l1 sr1 hJ p hp => ?_) fun _ _ _ z => z⟩
  obtain ⟨xs, s0⟩ := pr
  dsimp only at hpr sr1 hJ
  have hk : ι1.length = s0.m.length := sr1.2.len
  have lk : Le H1 ι1 (upd H1 p (.lst [])) (ι1 ++ [some p]) := Le.put hp
  have rk := sr1.2.put hp (o := .lst []) (mo := .lst []) fun H' ι' l h => ⟨[], h, by simp [DenL]⟩
  have hpr2 : OutP (lcL (lcF w own t ifs' e' s0.m.length) xs ⟨s0.e, s0.m ++ [.lst []]⟩) (fun s1 => ∀ v H' ι', Le H ι H' ι' → SR g H' ι' σ (backS own s0 s1) → Den g H' ι' (.ref s0.m.length) v → Q v H') (fun _ _ _ => True) :=
    (OutP.bnd hpr).mono (fun s1 h v H' ι' l r dn => h v H' ι' l r dn Nw.no) fun _ _ _ _ => True.intro
  refine ⟨fun i m H' => i + m = xs.length ∧ ∃ ι' s', Le (upd H1 p (.lst [])) (ι1 ++ [some p]) H' ι' ∧ EnvDen g H' ι' (wipe σ own) (wipeS own s').e ∧ Rel g H' ι' s'.m ∧ OutP (lcL (lcF w own t ifs' e' s0.m.length) (xs.drop i) s') (fun s1 => ∀ v H' ι', Le H ι H' ι' → SR g H' ι' σ (backS own s0 s1) → Den g H' ι' (.ref s0.m.length) v → Q v H') (fun _ _ _ => True),
    ⟨xs.length, Nat.zero_add _, _, ⟨s0.e, s0.m ++ [.lst []]⟩, Le.refl _ _, EnvDen.wipeS (s := ⟨s0.e, s0.m ++ [.lst []]⟩) (sr1.1.le lk), rk, by rw [List.drop_zero]; exact hpr2⟩, ?_⟩
  rintro i m H2 ⟨hm, ι2, s2, l2, e2, r2, o2⟩
  have l12 := lk.trans l2
  obtain ⟨hstop, hgo⟩ := hJ H2 ι2 l12
  by_cases hi : i < xs.length
  · right
    obtain ⟨d, hd⟩ : ∃ d, xs[i]? = some d := ⟨xs[i], List.getElem?_eq_getElem hi⟩
    obtain ⟨g1, g2⟩ := hgo i d hd
    refine ⟨g1, _, fun H' hN => ⟨m - 1, by omega, hN⟩, fun v H3 hy => ?_⟩
    obtain ⟨l3, h3⟩ := g2 v H3 hy
    obtain ⟨r3, dn⟩ := h3 s2.m r2
    have o3 := OutP.noX' (E' := fun _ _ _ => False) (lcL_at hd o2)
    refine ⟨ι2, wipeS own s2, d, ⟨e2.le l3, r3⟩, dn, (OutP.bnd o3).mono (fun s4 h4 σ4 H4 ι4 l4 sr4 hw => ⟨hw.trans wipe_wipe, ?_⟩) fun _ _ _ z => z⟩
    have hw2 : wipe σ4 own = wipe σ own := by rw [hw, wipe_wipe]
    refine ⟨ι4, s4, sr4, (OutP.bnd h4).mono (fun pb hb H5 ι5 l5 sr5 => ?_) fun _ _ _ z => z.elim⟩
    obtain ⟨b, s5⟩ := pb
    have l25 := l2.trans (l3.trans (l4.trans l5))
    cases b with
    | false =>
      simp only [Bool.false_eq_true, if_false]
      refine ⟨by omega, ι5, s5, l25, ?_, sr5.2, hb⟩
      rw [← hw2]
      exact sr5.1.wipeS
    | true =>
      simp only [if_true]
      refine ⟨ι5, s5, sr5, (OutP.bnd hb).mono (fun pe he u H6 ι6 l6 sr6 d6 nw6 => ?_) fun _ _ _ z => z.elim⟩
      clear nw6
      obtain ⟨y, s6⟩ := pe
      dsimp only at he sr6 d6
      unfold addM at he
      cases hmk : s6.m[s0.m.length]? with
      | none => rw [hmk] at he; exact he.elim
      | some mo =>
        rw [hmk] at he
        cases mo with
        | lst ys =>
          dsimp only at he
          obtain ⟨hz, he⟩ := OutP.gd.mp (OutP.bnd he)
          have l26 := l25.trans l6
          obtain ⟨h7, vs, h8, h9⟩ := placeAt l26 hk sr6.2 hmk (by intro z; cases z)
          have hz := of_decide_eq_true hz
          rw [sizeL_eq] at hz
          have lw : Le H6 ι6 (upd H6 p (.lst (vs ++ [u]))) ι6 := Le.wr sr6.2 h7
          have r7 := sr6.2.wr (o := .lst (vs ++ [u])) (mo := .lst (ys ++ [y])) h7 ⟨vs ++ [u], upd_same, (h9.append (DenL.cons d6 (by simp [DenL]))).le lw⟩
          refine ⟨vs, h8, by rw [← h9.length]; exact hz, by omega, ι6, _, l26.trans lw, ?_, r7, he⟩
          rw [← hw2]
          exact (EnvDen.wipeS (s := s6) sr6.1).le lw
        | _ => exact he.elim
  · left
    have hi2 : i = xs.length := by omega
    subst hi2
    refine ⟨hstop, ?_⟩
    rw [List.drop_length] at o2
    simp only [lcL] at o2
    refine o2 (.ref p) H2 ι2 (l1.trans l12) ⟨EnvDen.backS sr1.1 e2 l12, r2⟩ ?_
    simp only [Den]
    refine ⟨by have := l2.len; simp at this; omega, fun a e => ?_⟩
    have h1 := l2.same s0.m.length (by simp; omega)
    rw [List.getElem?_append_right (by omega), ← hk, Nat.sub_self] at h1
    simp only [List.getElem?_cons_zero] at h1
    rw [← hk] at e
    rcases h1 with z | z <;> rw [z] at e <;> cases e
    rfl
end
end SV
set_option linter.all false
set_option Elab.async false
set_option maxRecDepth 100000
set_option maxHeartbeats 4000000
namespace SV
open PySem PySem.Spec PyProof.Rows L2
section
variable {X : Cx} {g : Cfg} {c : Tc} {W : WX} {w : SV.W} {x : Str} {i : Nat} {pins : List (Addr × Obj)} {s : Shared} {σ σ' : L2.St} {H H' : Hp} {ι ι' : Io} {st st' : S} {D : Ends}
variable {a b d : Expr} {a' b' d' : Ex} {p pos tpos : Pos} {fra frb frd fr frr : Bool} {ex : Option (Nat × SV.D)}
theorem frz_imp {Q : VK} (q : tD g W false (evE w (.frz a')) σ H Q) : tD g W fr (evE w a') σ H Q := by
  obtain ⟨ι, st, sr, o⟩ := q
  simp only [evE] at o
  refine ⟨ι, st, sr, (OutP.bnd o).mono (fun p hp v H' ι' l sr' dn n => ?_) fun _ _ _ z => z⟩
  obtain ⟨ι2, l2, sr2, d2⟩ := frz_ok sr' dn
  exact hp v H' ι2 (l.trans l2) sr2 d2 Nw.no
/-- name = e: from the statement to its expression -/
theorem asg_imp {e' : Ex} (q : tS g W frr (exS w ex (.asg (.name i) e')) D σ H) : tD g W false (evE w e') σ H (fun v H1 => gName i v σ H1 D.nx) := by
  obtain ⟨ι, st, sr, o⟩ := q
  simp only [exS, asg] at o
  refine ⟨ι, st, sr, (OutP.bnd o).mono (fun p hp v H' ι' l sr' dn _ => ?_) fun _ _ _ z => z⟩
  have hp : EndP g frr D H ι (.nx, ⟨p.2.e.set i (some p.1), p.2.m⟩) := hp
  exact hp _ H' ι' l ⟨sr'.1.set dn i, sr'.2⟩
variable {elt tg iter : Expr} {ifs : List Expr} {scope : Scope} {own : List (Str × Nat)} {wi : TI} {e' : Ex} {t : Tg} {it' : SV.It} {ifs' : Exs} {fre : Bool}
/-- what is asked of a comprehension's parts within its block -/
structure LcOk (X : Cx) (g : Cfg) (W : WX) (w : SV.W) (elt tg iter : Expr) (ifs : List Expr) (scope : Scope) (own : List (Str × Nat)) (e' : Ex) (t : Tg) (it' : SV.It) (ifs' : Exs) : Prop where
  it : PI X tg iter (iD g W (evI w it'))
  ok : BlkOk X.N X.env.scope scope own
  tg : ∀ (s : Shared) (H : Hp) (C : Addr) (cl : List (Str × Addr)) (fp : List Addr), PG (X.blk s H scope (compEnvC scope cl C X.env) fp) tg (gW g (own.map (·.2)) (asg w t))
  ts : ∀ (s : Shared) (H : Hp) (C : Addr) (cl : List (Str × Addr)) (fp : List Addr), PTs (X.blk s H scope (compEnvC scope cl C X.env) fp) ifs (tDb g W0 (evA w ifs'))
  el : ∀ (s : Shared) (H : Hp) (C : Addr) (cl : List (Str × Addr)) (fp : List Addr), PE (X.blk s H scope (compEnvC scope cl C X.env) fp) elt (tD g W0 false (evE w e'))
  fs : ∀ x, foldedSetIterable iter X.env x = pure x
theorem ev_lc (G : Gd X g c) (L : LcOk X g W w elt tg iter ifs scope own e' t it' ifs') : PE X (.ListComp elt [⟨tg, iter, ifs, 0⟩] scope pos) (tD g W false (evE w (.lc e' (own.map (·.2)) t it' ifs'))) :=
  PE.imp (pe_lc G.calm G.nd L.it L.ok L.tg L.ts L.el L.fs) fun σ H Q q => lc_imp q
theorem ps_setLcD {y : Str} {py spos : Pos} (G : Gd X g c) (L : LcOk X g W w elt tg iter ifs scope own e' t it' ifs') (hy : slotOf c y = some i) (hyl : X.env.scope.names.lookup y = some .local)
    (hsw : swapsWith (.ListComp elt [⟨tg, iter, ifs, 0⟩] scope pos) (some (.Name y py)) spos.line X.env = pure true) :
    PS X (.Assign [.Name y py] (.ListComp elt [⟨tg, iter, ifs, 0⟩] scope pos) spos) (tS g W frr (exS w ex (.asg (.name i) (.lc e' (own.map (·.2)) t it' ifs')))) :=
  PS.imp (ps_setLc G.calm G.nd (slot_ok G hy).1 hyl hsw L.it L.ok L.tg L.ts L.el L.fs) fun D σ H q => lc_imp (asg_imp q)
theorem ps_setLcF {y : Str} {py spos : Pos} (G : Gd X g c) (L : LcOk X g W w elt tg iter ifs scope own e' t it' ifs') (hy : slotOf c y = some i) (hyl : X.env.scope.names.lookup y = some .local)
    (hsw : swapsWith (.ListComp elt [⟨tg, iter, ifs, 0⟩] scope pos) (some (.Name y py)) spos.line X.env = pure true) :
    PS X (.Assign [.Name y py] (.ListComp elt [⟨tg, iter, ifs, 0⟩] scope pos) spos) (tS g W frr (exS w ex (.asg (.name i) (.frz (.lc e' (own.map (·.2)) t it' ifs'))))) :=
  PS.imp (ps_setLc G.calm G.nd (slot_ok G hy).1 hyl hsw L.it L.ok L.tg L.ts L.el L.fs) fun D σ H q => lc_imp (frz_imp (asg_imp q))
/-- the block of a comprehension is good -/
theorem Gd.blk {H : Hp} {C : Addr} {cl : List (Str × Addr)} {fp : List Addr} (G : Gd X g c) : Gd (X.blk s H scope (compEnvC scope cl C X.env) fp) g { c with sc := relS' scope c.sc } where
  P := G.P
  ww := G.ww
  K := G.K
  N := G.N
  nd := G.nd
  sc := by
    show relS scope X.env.scope = _
    rw [G.sc]
    rfl
  calm := G.calm
  un := G.un
end
end SV
set_option linter.all false
set_option Elab.async false
set_option maxRecDepth 100000
set_option maxHeartbeats 4000000
namespace SV
open PySem PySem.Spec PyProof.Rows L2
section
variable {P : Program} {wd : World} {K : PySem.W.Frag} {mg : Str → Option Value} {base : Heap} {CX : CXT} {k : Nat} {f : Addr} {name qual : Str} {params : Arguments} {body : List Stmt} {scope : Scope} {dV kV doc pm cdv ct oc : Value} {an od : Option Addr}
  {osl : Array (Option Value)} {N ps : List Str} {g : Cfg} {w : SV.W} {fn : Fn} {frr : Bool}
/-- what is wanted of a def's body's exceptions -/
abbrev WE (E : XK) : WX := fun cls d _ H => E cls d H
theorem start_den {H : Hp} {ι : Io} {ds : List D} {vs : List V} {n : Nat} (dn : DenL g H ι ds vs) (hn : N.length = n) : EnvDen g H ι (L2.start N vs) (ds.map some ++ List.replicate (n - ds.length) none) := by
  have hl := dn.length
  refine ⟨by simp [L2.start, hl, hn], fun i d q => ?_⟩
  by_cases hi : i < ds.length
  · rw [List.getElem?_append_left (by simpa using hi), List.getElem?_map] at q
    cases e : ds[i]? with
    | none => rw [e] at q; cases q
    | some d' =>
      rw [e] at q
      simp only [Option.map_some, Option.some.injEq] at q
      subst q
      obtain ⟨v, hv, dv⟩ := dn.get e
      refine ⟨v, ?_, dv⟩
      unfold L2.start
      rw [List.getElem?_append_left (by simpa [← hl] using hi), List.getElem?_map, hv]
      rfl
  · rw [List.getElem?_append_right (by simpa using hi)] at q
    have := List.mem_of_getElem? q
    simp at this
theorem Nw.cut {H H' : Hp} {ι ι' : Io} {M m : List MO} {d : D} {v : V} (r : Rel g H ι M) (hx : exOk M.length M m = true) (hc : cloD M.length d = true) (nw : Nw frr g (fun H1 ι1 => Le H ι H1 ι1 ∧ Rel g H1 ι1 m) H' ι' d v) :
    Nw frr g (fun H1 ι1 => Le H ι H1 ι1 ∧ Rel g H1 ι1 (m.take M.length)) H' (ι'.take M.length) d v := fun e => by
  obtain ⟨h1, h2⟩ := nw e
  refine ⟨fun xs q => ?_, fun es q => ?_⟩
  · obtain ⟨H1, p, vs, e1, e2, e3, ⟨l, r1⟩, dn⟩ := h1 xs q
    subst q
    simp only [cloD] at hc
    have lc := l.cut l.len
    rw [r.len] at lc
    exact ⟨H1, p, vs, e1, e2, e3, ⟨lc, r.cut r1 l hx⟩, dn.cut _ _ hc⟩
  · obtain ⟨H1, p, vs, e1, e2, e3, ⟨l, r1⟩, dn⟩ := h2 es q
    subst q
    simp only [cloD] at hc
    have lc := l.cut l.len
    rw [r.len] at lc
    exact ⟨H1, p, vs, e1, e2, e3, ⟨lc, r.cut r1 l hx⟩, dn.cut _ _ hc⟩
/-- the body's end from the def's -/
theorem leave_end {H : Hp} {ι : Io} {M : List MO} {Q : VK} {E : XK} {keep : Bool} {o : Out (Ctl × S)} (r : Rel g H ι M)
    (h : OutP (match o with | .ok (.ret d, s) => leave keep M d s.m | .ok (.nx, s) => leave keep M .non s.m | .ok _ => .bad | .exc c d s => leaveX keep M c d s.m | .bad => .bad)
      (fun p => ∀ v H' ι', Le H ι H' ι' → Rel g H' ι' p.2 → Den g H' ι' p.1 v → Nw frr g (fun H1 ι1 => Le H ι H1 ι1 ∧ Rel g H1 ι1 p.2) H' ι' p.1 v → Q v H') (fun c d s => g.xp = true ∧ ∀ cls dd H' ι', Le H ι H' ι' → Rel g H' ι' s.m → EDen g H' ι' c d cls dd → E cls dd H')) (σ : L2.St) :
    OutP o (EndP g frr { nx := fun _ H' => Q .non H', rt := Q } H ι) (XC g (WE E) H ι σ) := by
  have key : ∀ (d : D) (m : List MO) v H' ι', OutP (leave keep M d m) (fun p => ∀ v H' ι', Le H ι H' ι' → Rel g H' ι' p.2 → Den g H' ι' p.1 v → Nw frr g (fun H1 ι1 => Le H ι H1 ι1 ∧ Rel g H1 ι1 p.2) H' ι' p.1 v → Q v H') (fun c d s => g.xp = true ∧ ∀ cls dd H' ι', Le H ι H' ι' → Rel g H' ι' s.m → EDen g H' ι' c d cls dd → E cls dd H') →
      Le H ι H' ι' → Rel g H' ι' m → Den g H' ι' d v → Nw frr g (fun H1 ι1 => Le H ι H1 ι1 ∧ Rel g H1 ι1 m) H' ι' d v → Q v H' := by
    intro d m v H' ι' h l r' dn nw
    unfold leave at h
    split at h
    · exact h v H' ι' l r' dn nw
    · split at h
      · rename_i hc
        simp only [Bool.and_eq_true] at hc
        have lc := l.cut l.len
        rw [r.len] at lc
        exact h v H' _ lc (r.cut r' l hc.1) (dn.cut d v hc.2) (nw.cut r hc.1 hc.2)
      · exact h.elim
  cases o with
  | bad => exact h
  | exc c d s =>
    have h : OutP (leaveX keep M c d s.m) _ _ := h
    unfold leaveX at h
    split at h
    · exact ⟨h.1, fun cls dd σ' H' ι' l sr e => h.2 cls dd H' ι' l sr.2 e⟩
    · split at h
      · rename_i hc
        simp only [Bool.and_eq_true] at hc
        refine ⟨h.1, fun cls dd σ' H' ι' l sr e => ?_⟩
        have lc := l.cut l.len
        rw [r.len] at lc
        exact h.2 cls dd H' _ lc (r.cut sr.2 l hc.1) (e.cut hc.2)
      · exact h.elim
  | ok p =>
    obtain ⟨cl, s⟩ := p
    cases cl with
    | nx => exact fun σ' H' ι' l sr => key .non s.m .non H' ι' h l sr.2 (by simp only [Den]) (Nw.flat (by intro a; constructor <;> (intro z; cases z)))
    | ret d => exact fun v σ' H' ι' l sr dn nw => key d s.m v H' ι' h l sr.2 dn (nw.imp fun H1 ι1 z => ⟨z.1, z.2.2⟩)
    | brk => exact h.elim
    | cnt => exact h.elim
/-- a def of the text keeps its promise -/
theorem fn_D (lk : K.lookup f = some ⟨oc, od, .func (PySem.W.fnOf name qual params body scope dV kV doc pm an cdv ct), osl⟩) (hcd : PySem.W.codeIn K cdv qual = true) (S : FnScope N ps scope) (hns : N.length = fn.ns) (hnp : ps.length = fn.np) (hst : fn.star = false)
    (hb : ∀ us : List Value, us.length = ps.length → bindArgs (PySem.W.fnOf name qual params body scope dV kV doc pm an cdv ct) ⟨us, []⟩ = pure (ps.zip us))
    (hbody : ∀ (A : Around) (outer : List Env) (s : Shared) (H : Hp) (E : XK), Room k (A.deeper (envOfC qual scope s.heap.objs.size f cdv)) → PSs (cxOf CX P wd K mg base N qual scope f cdv A outer s H E) body (tS g (WE E) frr (exSs w none fn.body))) :
    FnR P wd K mg base CX (k + 1) f (spF g frr (fun ds M => runF w fn ds M)) := by
  have hF : FnOk P wd K mg base CX (k + 1) f (PySem.W.fnOf name qual params body scope dV kV doc pm an cdv ct) ps (spF g frr (fun ds M => runF w fn ds M)) := by
    refine fn_of lk hcd S (fun vs H Q E h => ?_) fun A outer s H vs Q E hr h => ⟨_, hbody A outer s H E hr, ?_⟩
    · obtain ⟨ι, ds, M, r, dn, o⟩ := h
      unfold runF argsOf at o
      rw [hst] at o
      simp only [Bool.false_eq_true, if_false] at o
      by_cases hl : ds.length = fn.np
      · rw [← dn.length, hl, hnp]
      · rw [if_neg hl] at o; exact o.elim
    · obtain ⟨ι, ds, M, r, dn, o⟩ := h
      unfold runF argsOf at o
      rw [hst] at o
      simp only [Bool.false_eq_true, if_false] at o
      by_cases hl : ds.length = fn.np
      · rw [if_pos hl] at o
        exact ⟨ι, ⟨ds.map some ++ List.replicate (fn.ns - ds.length) none, M⟩, ⟨start_den dn hns, r⟩, leave_end (M := M) r o _⟩
      · rw [if_neg hl] at o; exact o.elim
  exact (FnOk.raw hF (Binds.all hb) .nil).imp fun vs H Q E h => by rw [List.append_nil]; exact h
/-- a def with a star parameter -/
theorem fn_DS {pv : Str} (lk : K.lookup f = some ⟨oc, od, .func (PySem.W.fnOf name qual params body scope dV kV doc pm an cdv ct), osl⟩) (hcd : PySem.W.codeIn K cdv qual = true) (S : FnScope N (ps ++ [pv]) scope) (hns : N.length = fn.ns) (hnp : ps.length + 1 = fn.np) (hst : fn.star = true) (hCX : StX.CXUp CX)
    (hb : ∀ us rest : List Value, us.length = ps.length → bindArgs (PySem.W.fnOf name qual params body scope dV kV doc pm an cdv ct) ⟨us ++ rest, []⟩ = (newTuple rest >>= fun t => pure (ps.zip us ++ [(pv, t)])))
    (hbody : ∀ (A : Around) (outer : List Env) (s : Shared) (H : Hp) (E : XK), Room k (A.deeper (envOfC qual scope s.heap.objs.size f cdv)) → PSs (cxOf CX P wd K mg base N qual scope f cdv A outer s H E) body (tS g (WE E) frr (exSs w none fn.body))) :
    FnR P wd K mg base CX (k + 1) f (spF g frr (fun ds M => runF w fn ds M)) := by
  have hF := StX.fn_star (sp := spF g frr (fun ds M => runF w { fn with star := false } ds M)) lk hcd S hCX hb fun A outer s H vs Q E hr h => ⟨_, hbody A outer s H E hr, by
    obtain ⟨ι, ds, M, r, dn, o⟩ := h
    unfold runF argsOf at o
    simp only [Bool.false_eq_true, if_false] at o
    by_cases hl : ds.length = fn.np
    · rw [if_pos hl] at o
      exact ⟨ι, ⟨ds.map some ++ List.replicate (fn.ns - ds.length) none, M⟩, ⟨start_den dn hns, r⟩, leave_end (M := M) r o _⟩
    · rw [if_neg hl] at o; exact o.elim⟩
  refine hF.imp fun vs H Q E h => ?_
  obtain ⟨ι, ds, M, r, dn, o⟩ := h
  unfold runF argsOf at o
  rw [hst] at o
  simp only [if_true] at o
  by_cases hl : fn.np ≤ ds.length + 1 ∧ ds.length ≤ sizeL
  · rw [if_pos hl] at o
    have hlen := dn.length
    have hz := hl.2
    rw [sizeL_eq] at hz
    refine ⟨vs.take ps.length, vs.drop ps.length, (List.take_append_drop _ _).symm, by rw [List.length_take]; omega, by rw [List.length_drop]; omega, fun p hp => ?_⟩
    have l0 : Le H ι (upd H p (.tup (vs.drop ps.length))) ι := Le.new hp
    have e1 : fn.np - 1 = ps.length := by omega
    rw [e1] at o
    refine ⟨ι, ds.take ps.length ++ [.tup (ds.drop ps.length)], M, r.new hp, DenL.append ((dn.take _).le l0) (DenL.cons (Den.newT r hp (dn.drop _)) (by simp [DenL])), ?_⟩
    unfold runF argsOf
    simp only [Bool.false_eq_true, if_false]
    have e2 : (ds.take ps.length ++ [D.tup (ds.drop ps.length)]).length = fn.np := by
      rw [List.length_append, List.length_take]; simp; omega
    rw [if_pos e2]
    exact o.mono (fun q h v H' ι' l r' d nw => h v H' ι' (l0.trans l) r' d (nw.imp fun H1 ι1 z => ⟨l0.trans z.1, z.2⟩)) fun c d s h => ⟨h.1, fun cls dd H' ι' l r' e => h.2 cls dd H' ι' (l0.trans l) r' e⟩
  · rw [if_neg hl] at o; exact o.elim
end
end SV
set_option linter.all false
set_option Elab.async false
set_option maxRecDepth 100000
set_option maxHeartbeats 4000000
namespace SV
open PySem PySem.Spec PyProof.Rows L2
section
variable {X : Cx} {g : Cfg} {c : Tc} {W : WX} {w : SV.W} {H : Hp} {ι : Io} {m : List MO} {fr : Bool}
/-- a built-in by values: what it gives -/
def Op1n (g : Cfg) (r : List V → Hp → VK → Prop) (fr : Bool) (f : List MO → List D → Out D) : Prop :=
  ∀ (H : Hp) (ι : Io) (m : List MO) (xs : List D) (vs : List V) (z : D) (Q : VK), Rel g H ι m → DenL g H ι xs vs → f m xs = .ok z →
    (∀ w H' ι', Le H ι H' ι' → Rel g H' ι' m → Den g H' ι' z w → Nw fr g (fun H1 ι1 => Le H ι H1 ι1 ∧ Rel g H1 ι1 m) H' ι' z w → Q w H') → r vs H Q
theorem ca_of {cv : Value} {r : List V → Hp → VK → Prop} {f : List MO → List D → Out D} (o : CallR X cv r) (k : Op1n g r fr f) (hc : ∀ m xs c d s, f m xs ≠ .exc c d s) : CaX X g W fr (fun us => call cv us) (fun xs s => do
    let z ← f s.m xs
    .ok (z, s)) := by
  intro pins s σ H ι xs vs us st Q I sr dn rv q
  have q := OutP.bnd q
  cases e : f st.m xs with
  | bad => rw [e] at q; exact q.elim
  | exc c d t => exact absurd e (hc _ _ _ _ _)
  | ok z =>
    rw [e] at q
    exact o pins s σ H vs us Q I rv (k H ι st.m xs vs z Q sr.2 dn e fun w H' ι' l r d n => q w H' ι' l (sr.le l r) d (n.imp fun H1 ι1 z => ⟨z.1, sr.le z.1 z.2⟩))
theorem denL1 {x : D} {vs : List V} (h : DenL g H ι [x] vs) : ∃ v, vs = [v] ∧ Den g H ι x v := by
  simp only [DenL] at h
  obtain ⟨v, t, rfl, a, rfl⟩ := h
  exact ⟨v, rfl, a⟩
theorem denL2 {x y : D} {vs : List V} (h : DenL g H ι [x, y] vs) : ∃ v u, vs = [v, u] ∧ Den g H ι x v ∧ Den g H ι y u := by
  simp only [DenL] at h
  obtain ⟨v, t, rfl, a, u, t2, rfl, b, rfl⟩ := h
  exact ⟨v, u, rfl, a, b⟩
theorem intL_den : ∀ {ys : List D} {is : List Int} {vs : List V}, intL ys = some is → DenL g H ι ys vs → vs = is.map V.int
  | [], is, vs, h, dn => by simp [intL] at h; subst h; simp only [DenL] at dn; subst dn; rfl
  | y :: r, is, vs, h, dn => by
    simp only [DenL] at dn
    obtain ⟨v, t, rfl, a, b⟩ := dn
    cases y with
    | int i =>
      simp only [intL] at h
      cases e : intL r with
      | none => rw [e] at h; cases h
      | some js =>
        rw [e] at h
        cases h
        simp only [Den] at a
        subst a
        rw [intL_den e b]
        rfl
    | _ => simp [intL] at h
theorem foldMin : ∀ (r : List Int) (i m : Int), m ∈ i :: r → (∀ y, y ∈ i :: r → m ≤ y) → r.foldl (fun a b => if b < a then b else a) i = m
  | [], i, m, h, _ => by simp at h; simp [h]
  | j :: r, i, m, h, hm => by
    rw [List.foldl_cons]
    apply foldMin r
    · have h1 := hm i (by simp)
      have h2 := hm j (by simp)
      simp only [List.mem_cons] at h ⊢
      rcases h with h | h | h
      · left; split <;> omega
      · left; split <;> omega
      · exact .inr h
    · intro y hy
      simp only [List.mem_cons] at hy
      rcases hy with h | h
      · have h1 := hm i (by simp)
        have h2 := hm j (by simp)
        subst h
        split <;> omega
      · exact hm y (by simp [h])
theorem foldMax : ∀ (r : List Int) (i m : Int), m ∈ i :: r → (∀ y, y ∈ i :: r → y ≤ m) → r.foldl (fun a b => if a < b then b else a) i = m
  | [], i, m, h, _ => by simp at h; simp [h]
  | j :: r, i, m, h, hm => by
    rw [List.foldl_cons]
    apply foldMax r
    · have h1 := hm i (by simp)
      have h2 := hm j (by simp)
      simp only [List.mem_cons] at h ⊢
      rcases h with h | h | h
      · left; split <;> omega
      · left; split <;> omega
      · exact .inr h
    · intro y hy
      simp only [List.mem_cons] at hy
      rcases hy with h | h
      · have h1 := hm i (by simp)
        have h2 := hm j (by simp)
        subst h
        split <;> omega
      · exact hm y (by simp [h])
theorem qiN {z : D} {b : Int} {Q : VK} (r : Rel g H ι m) (h : ∀ w H' ι', Le H ι H' ι' → Rel g H' ι' m → Den g H' ι' z w → Nw fr g (fun H1 ι1 => Le H ι H1 ι1 ∧ Rel g H1 ι1 m) H' ι' z w → Q w H') (e : z = .int b) : Q (.int b) H := qi r h e
theorem bi_abs : CaX X g W fr (fun us => call (.builtin "abs") us) (fun xs s => do let z ← biD s.m .abs xs; .ok (z, s)) :=
  ca_of (f := fun m xs => biD m .abs xs) call_abs (fun H ι m xs vs z Q r dn e k => by
    have e : biAbs xs = .ok z := e
    unfold biAbs at e
    split at e
    · cases e
      obtain ⟨v, rfl, d⟩ := denL1 dn
      simp only [Den] at d
      subst d
      exact ⟨_, rfl, qi r k rfl⟩
    · cases e) (fun m xs c d s => by
    show biAbs xs ≠ _
    unfold biAbs
    split <;> (intro z; cases z))
theorem bi_min2 (hc : X.calm = true) : CaX X g W fr (fun us => call (.builtin "min") us) (fun xs s => do let z ← biD s.m .min2 xs; .ok (z, s)) :=
  ca_of (f := fun m xs => biD m .min2 xs) (call_min2 hc) (fun H ι m xs vs z Q r dn e k => by
    have e : biMin2 xs = .ok z := e
    unfold biMin2 at e
    split at e
    · cases e
      obtain ⟨v, u, rfl, d1, d2⟩ := denL2 dn
      simp only [Den] at d1 d2
      subst d1 d2
      exact ⟨_, _, rfl, qi r k rfl⟩
    · cases e) (fun m xs c d s => by
    show biMin2 xs ≠ _
    unfold biMin2
    split <;> (intro z; cases z))
theorem bi_max2 (hc : X.calm = true) : CaX X g W fr (fun us => call (.builtin "max") us) (fun xs s => do let z ← biD s.m .max2 xs; .ok (z, s)) :=
  ca_of (f := fun m xs => biD m .max2 xs) (call_max2 hc) (fun H ι m xs vs z Q r dn e k => by
    have e : biMax2 xs = .ok z := e
    unfold biMax2 at e
    split at e
    · cases e
      obtain ⟨v, u, rfl, d1, d2⟩ := denL2 dn
      simp only [Den] at d1 d2
      subst d1 d2
      exact ⟨_, _, rfl, qi r k rfl⟩
    · cases e) (fun m xs c d s => by
    show biMax2 xs ≠ _
    unfold biMax2
    split <;> (intro z; cases z))
theorem intsOf_den {x : D} {v : V} {is : List Int} (r : Rel g H ι m) (d : Den g H ι x v) (e : intsOf m x = some is) : ∃ a, v = .ref a ∧ SqL g.K H a (is.map V.int) := by
  unfold intsOf at e
  split at e
  · rename_i ys hy
    obtain ⟨a, vs, rfl, ha, dn⟩ := d.list r hy
    rw [intL_den e dn] at ha
    exact ⟨a, rfl, SqL.of ha⟩
  · cases e
theorem bi_min1 (hK : g.K = X.K) (hc : X.calm = true) : CaX X g W fr (fun us => call (.builtin "min") us) (fun xs s => do let z ← biD s.m .min1 xs; .ok (z, s)) :=
  ca_of (f := fun m xs => biD m .min1 xs) (cr_min hc) (fun H ι m xs vs z Q r dn e k => by
    have e : biMin1 m xs = .ok z := e
    unfold biMin1 at e
    split at e
    · split at e
      · rename_i i is h
        cases e
        obtain ⟨v, rfl, d⟩ := denL1 dn
        obtain ⟨a, rfl, ha⟩ := intsOf_den r d h
        rw [hK] at ha
        refine ⟨a, _, rfl, ha, by simp, fun mm h1 h2 => qi r k ?_⟩
        rw [foldMin _ _ _ h1 h2]
      · cases e
    · cases e) (fun m xs c d s => by
    show biMin1 m xs ≠ _
    unfold biMin1
    split
    · split <;> (intro z; cases z)
    · intro z; cases z)
theorem bi_max1 (hK : g.K = X.K) (hc : X.calm = true) : CaX X g W fr (fun us => call (.builtin "max") us) (fun xs s => do let z ← biD s.m .max1 xs; .ok (z, s)) :=
  ca_of (f := fun m xs => biD m .max1 xs) (cr_max hc) (fun H ι m xs vs z Q r dn e k => by
    have e : biMax1 m xs = .ok z := e
    unfold biMax1 at e
    split at e
    · split at e
      · rename_i i is h
        cases e
        obtain ⟨v, rfl, d⟩ := denL1 dn
        obtain ⟨a, rfl, ha⟩ := intsOf_den r d h
        rw [hK] at ha
        refine ⟨a, _, rfl, ha, by simp, fun mm h1 h2 => qi r k ?_⟩
        rw [foldMax _ _ _ h1 h2]
      · cases e
    · cases e) (fun m xs c d s => by
    show biMax1 m xs ≠ _
    unfold biMax1
    split
    · split <;> (intro z; cases z)
    · intro z; cases z)
end
end SV
namespace SV
open PySem PySem.Spec PyProof.Rows L2
section
variable {X : Cx} {g : Cfg} {c : Tc} {W : WX} {w : SV.W} {H : Hp} {ι : Io} {m : List MO} {fr : Bool}
theorem bi_int : CaX X g W fr (fun us => call (.type "int") us) (fun xs s => do let z ← (match xs with | [.int i] => Out.ok (D.int i) | [.bl b] => .ok (.int (if b then 1 else 0)) | _ => .bad); .ok (z, s)) :=
  ca_of (f := fun _ xs => (match xs with | [.int i] => Out.ok (D.int i) | [.bl b] => .ok (.int (if b then 1 else 0)) | _ => .bad)) call_int1 (fun H ι m xs vs z Q r dn e k => by
    dsimp only at e
    split at e
    · cases e
      obtain ⟨v, rfl, d⟩ := denL1 dn
      simp only [Den] at d
      subst d
      exact .inl ⟨_, rfl, qi r k rfl⟩
    · cases e
      obtain ⟨v, rfl, d⟩ := denL1 dn
      simp only [Den] at d
      subst d
      exact .inr ⟨_, rfl, qi r k rfl⟩
    · cases e) (fun m xs c d s => by
    split <;> (intro z; cases z))
theorem bi_tuple (hK : g.K = X.K) : CaX X g W fr (fun us => call (.type "tuple") us) (fun xs s => do let z ← biD s.m .tuple xs; .ok (z, s)) :=
  ca_of (f := fun m xs => biD m .tuple xs) call_tuple_of (fun H ι m xs vs z Q r dn e k => by
    have e : biTuple m xs = .ok z := e
    rcases xs with _ | ⟨x, _ | ⟨y, t⟩⟩
    · cases e
    · have e : (do .ok (.tup (← opt (seqOf m x))) : Out D) = .ok z := e
      obtain ⟨ys, h, e⟩ := opt_ok e
      cases e
      obtain ⟨v, rfl, d⟩ := denL1 dn
      obtain ⟨p, ws, rfl, hp, dw⟩ := d.seq r h
      refine ⟨p, ws, rfl, ?_⟩
      rcases hp with hp | hp
      · exact .inl ⟨SqL.of hp, fun l hl => k _ _ ι (Le.new hl) (r.new hl) (Den.newT r hl dw) (Nw.flat (by intro a; constructor <;> (intro z; cases z)))⟩
      · refine .inr ⟨SqT.of hp, k _ _ ι (Le.refl _ _) r ?_ (Nw.flat (by intro a; constructor <;> (intro z; cases z)))⟩
        cases x with
        | tup ts =>
          simp only [seqOf, Option.some.injEq] at h
          subst h
          exact d
        | lst ts =>
          simp only [Den] at d
          obtain ⟨a, us, ea, ⟨h1, _⟩, _⟩ := d
          cases ea
          rw [hp] at h1
          cases h1
        | ref j =>
          exfalso
          simp only [seqOf] at h
          split at h
          · rename_i ls hm
            rcases r.at_ j _ hm with ⟨z, _⟩ | ⟨a, ha, us, h1, _⟩
            · cases z
            · simp only [Den] at d
              have := d.2 a ha
              cases this
              rw [hp] at h1
              cases h1
          · cases h
        | _ => cases h
    · cases e) (fun m xs c d s => by
    show biTuple m xs ≠ _
    unfold biTuple
    split
    · exact calm_bind (fun _ _ _ _ z => by cases z) c d s
    · intro z; cases z)
end
end SV
set_option linter.all false
set_option Elab.async false
set_option maxRecDepth 100000
set_option maxHeartbeats 4000000
namespace SV
open PySem PySem.Spec PyProof.Rows L2
theorem CallR.or {X : Cx} {f : Value} {r r' : List V → Hp → VK → Prop} (h : CallR X f r) (h' : CallR X f r') : CallR X f (fun xs H Q => r xs H Q ∨ r' xs H Q) := by
  intro pins s σ H xs us Q I rx q
  rcases q with q | q
  · exact h pins s σ H xs us Q I rx q
  · exact h' pins s σ H xs us Q I rx q
section
variable {X : Cx} {g : Cfg} {c : Tc} {W : WX} {w : SV.W} {H : Hp} {ι : Io} {m : List MO} {fr : Bool}
theorem calm_if {α : Type} {b : Bool} {f : Out α} (h : ∀ c d s, f ≠ .exc c d s) : ∀ c d s, (do gd b; f) ≠ .exc c d s := calm_gd h
/-- len of texts, lists, tuples, dicts -/
theorem bi_len : CaX X g W fr (fun us => call (.builtin "len") us) (fun xs s => do let z ← biD s.m .len xs; .ok (z, s)) :=
  ca_of (f := fun m xs => biD m .len xs) (CallR.or call_len call_lenD) (fun H ι m xs vs z Q r dn e k => by
    have e : biLen m xs = .ok z := e
    unfold biLen at e
    split at e
    · rename_i s
      obtain ⟨h1, e⟩ := gd_ok e
      cases e
      obtain ⟨v, rfl, d⟩ := denL1 dn
      simp only [Den] at d
      subst d
      have h1 := of_decide_eq_true h1
      rw [sizeL_eq] at h1
      exact .inl ⟨_, _, rfl, ⟨h1, rfl⟩, qi r k rfl⟩
    · rename_i x _
      obtain ⟨v, rfl, d⟩ := denL1 dn
      split at e
      · rename_i es he
        obtain ⟨h1, e⟩ := gd_ok e
        cases e
        obtain ⟨a, rfl, h2⟩ := d.dctAt r he
        obtain ⟨kvs, h3, h4⟩ := h2.dK h1
        exact .inr ⟨a, kvs, rfl, h3, qi r k (by rw [denE_length h4])⟩
      · obtain ⟨ys, h, e⟩ := opt_ok e
        cases e
        obtain ⟨p, ws, rfl, hp, dw⟩ := d.seq r h
        rcases hp with hp | hp
        · exact .inl ⟨_, _, rfl, .inl ⟨ws, SqL.of hp, rfl⟩, qi r k (by rw [dw.length])⟩
        · exact .inl ⟨_, _, rfl, .inr ⟨ws, SqT.of hp, rfl⟩, qi r k (by rw [dw.length])⟩
    · cases e) (fun m xs c d s => by
    show biLen m xs ≠ _
    unfold biLen
    split
    · exact calm_gd (fun _ _ _ z => by cases z) c d s
    · split
      · exact calm_gd (fun _ _ _ z => by cases z) c d s
      · exact calm_bind (fun _ _ _ _ z => by cases z) c d s
    · intro z; cases z)
/-- list(list or tuple) -/
theorem bi_list : CaX X g W fr (fun us => call (.type "list") us) (fun xs s => do let z ← biD s.m .list xs; .ok (z, s)) :=
  ca_of (f := fun m xs => biD m .list xs) call_list_of (fun H ι m xs vs z Q r dn e k => by
    have e : biList m xs = .ok z := e
    unfold biList at e
    split at e
    · rename_i x
      obtain ⟨v, rfl, d⟩ := denL1 dn
      obtain ⟨ys, h, e⟩ := opt_ok e
      cases e
      obtain ⟨p, ws, rfl, hp, dw⟩ := d.seq r h
      refine ⟨p, ws, rfl, ?_, fun l hl => k _ _ ι (Le.new hl) (r.new hl) (Den.newL r hl dw) (Nw.newL hl r dw)⟩
      rcases hp with hp | hp
      · exact .inl (SqL.of hp)
      · exact .inr (SqT.of hp)
    · cases e) (fun m xs c d s => by
    show biList m xs ≠ _
    unfold biList
    split
    · exact calm_bind (fun _ _ _ _ z => by cases z) c d s
    · intro z; cases z)
end
end SV
set_option linter.all false
set_option Elab.async false
set_option maxRecDepth 100000
set_option maxHeartbeats 4000000
namespace SV
open PySem PySem.Spec PyProof.Rows L2
def typM : Bm → String
  | .get2 => "dict" | .items => "dict" | .values => "dict" | .split => "str" | .join => "str" | _ => "list"
/-- a method by values -/
def MtD (g : Cfg) (fr : Bool) (r : V → List V → Hp → VK → Prop) (f : List MO → D → List D → Out (D × List MO)) : Prop :=
  ∀ (H : Hp) (ι : Io) (m : List MO) (x : D) (xs : List D) (v : V) (vs : List V) (z : D) (m' : List MO) (Q : VK), Rel g H ι m → Den g H ι x v → DenL g H ι xs vs → f m x xs = .ok (z, m') →
    (∀ w H' ι', Le H ι H' ι' → Rel g H' ι' m' → Den g H' ι' z w → Nw fr g (fun H1 ι1 => Le H ι H1 ι1 ∧ Rel g H1 ι1 m') H' ι' z w → Q w H') → r v vs H Q
section
variable {X : Cx} {g : Cfg} {c : Tc} {W : WX} {w : SV.W} {x : Str} {i : Nat} {H : Hp} {ι : Io} {m : List MO} {fr : Bool}
variable {a b d e : Expr} {a' b' d' : Ex} {es : List Expr} {es' : Exs} {p apos pos : Pos} {fra frb frd : Bool}
theorem kindM_tyV {b : Bm} {x : D} {v : V} (r : Rel g H ι m) (dn : Den g H ι x v) (h : kindM m b x = true) : tyV g.K (typM b) v H := by
  have hl : (match rslv m x with | .lst _ => true | _ => false) = true → tyV g.K "list" v H := by
    intro h
    split at h
    · rename_i xs hx
      obtain ⟨a, vs, rfl, ha, _⟩ := dn.list r hx
      exact .inl ⟨rfl, _, SqL.of ha⟩
    · cases h
  have hd : (match dctOf m x with | some es => kindOk es (.int 0) | none => false) = true → tyV g.K "dict" v H := by
    intro h
    split at h
    · rename_i es hx
      obtain ⟨a, rfl, ha⟩ := dn.dctAt r hx
      obtain ⟨kvs, h1, _⟩ := ha.dK h
      exact .inr (.inr (.inl ⟨rfl, .inl ⟨kvs, h1⟩⟩))
    · cases h
  have hs : ∀ b, kindM m b x = true → (b = .split ∨ b = .join) → tyV g.K "str" v H := by
    intro b h hb
    cases x <;> first | (rcases hb with rfl | rfl <;> cases h; done) | skip
    simp only [Den] at dn
    subst dn
    rfl
  cases b with
  | append => exact hl h
  | extend => exact hl h
  | pop0 => exact hl h
  | pop1 => exact hl h
  | count => exact hl h
  | index => exact hl h
  | get2 => exact hd h
  | items => exact hd h
  | values => exact hd h
  | split => exact hs _ h (.inl rfl)
  | join => exact hs _ h (.inr rfl)
theorem bmt_imp {b : Bm} {r : V → List V → Hp → VK → Prop} (hk : MtD g fr r (fun m x xs => bmD m b x xs)) (hc : ∀ m x xs c d s, bmD m b x xs ≠ .exc c d s) (hK : g.K = X.K) {σ : L2.St} {Q : VK}
    (q : tD g W fr (evE w (.bmt b a' es')) σ H Q) : tBM X.K (typM b) r (tD g W fra (evE w a')) (tDs g W (evEs w es')) σ H Q := by
  obtain ⟨ι, s, sr, o⟩ := q
  simp only [evE] at o
  refine tD.then sr (OutP.bnd o) (fun _ _ _ h => h) fun x s1 v H1 ι1 o1 l1 sr1 d1 _ => ?_
  obtain ⟨h1, o1⟩ := OutP.gd.mp (OutP.bnd o1)
  refine ⟨hK ▸ kindM_tyV sr1.2 d1 h1, ?_⟩
  refine tDs.then sr1 (OutP.bnd o1) (fun _ _ _ h => h.mono l1) fun xs s2 vs H2 ι2 o2 l2 sr2 d2 => ?_
  dsimp only at o2
  have o2 := OutP.bnd o2
  cases e : bmD s2.m b x xs with
  | bad => rw [e] at o2; exact o2.elim
  | exc c d t => exact absurd e (hc _ _ _ _ _ _)
  | ok zm =>
    obtain ⟨z, m'⟩ := zm
    rw [e] at o2
    refine hk H2 ι2 s2.m x xs v vs z m' Q sr2.2 (d1.le l2) d2 e fun w H' ι' l r dn n => o2 w H' ι' ((l1.trans l2).trans l) ⟨sr2.1.le l, r⟩ dn (n.imp fun H3 ι3 z => ⟨(l1.trans l2).trans z.1, sr2.1.le z.1, z.2⟩)
/-- o.m(e, ..), a built-in type's method -/
theorem ev_bmt {b : Bm} {r : V → List V → Hp → VK → Prop} {name : Str} {id : String} (G : Gd X g c) (pa : PlainAttrs (typM b)) (slot : Slot (typM b) name id) (hty : typeOf (.builtin id) = pure (.type "method_descriptor")) (hm : MtR X id r) (hk : MtD g fr r (fun m x xs => bmD m b x xs)) (hc : ∀ m x xs c d s, bmD m b x xs ≠ .exc c d s)
    (hab : ab0 a = true) (ha : PE X a (tD g W fra (evE w a'))) (hes : PA X (e :: es) (tDs g W (evEs w es'))) (h1 : (e :: es).all noStar = true) (hl : (e :: es).length < 29) (hline : (apos.endLine == pos.line) = true) :
    PE X (.Call (.Attribute a name apos) (e :: es) [] pos) (tD g W fr (evE w (.bmt b a' es'))) := by
  have h2 := h1
  simp only [List.all_cons, Bool.and_eq_true] at h2
  exact PE.imp (pe_bm pa slot hty hm ha hes (ab_ok hab) (few_ok h1 hl) hline (starEach_one h2.1) (any_plain es h2.2)) fun σ H Q q => bmt_imp hk hc G.K q
theorem ev_bmt0 {b : Bm} {r : V → List V → Hp → VK → Prop} {name : Str} {id : String} (G : Gd X g c) (pa : PlainAttrs (typM b)) (slot : Slot (typM b) name id) (hty : typeOf (.builtin id) = pure (.type "method_descriptor")) (hm : MtR X id r) (hk : MtD g fr r (fun m x xs => bmD m b x xs)) (hc : ∀ m x xs c d s, bmD m b x xs ≠ .exc c d s)
    (hab : ab0 a = true) (ha : PE X a (tD g W fra (evE w a'))) (hline : (apos.endLine == pos.line) = true) :
    PE X (.Call (.Attribute a name apos) [] [] pos) (tD g W fr (evE w (.bmt b a' .nil))) :=
  PE.imp (pe_bm0 pa slot hty hm ha (ab_ok hab) hline) fun σ H Q q => by
    obtain ⟨ι, s, sr, o⟩ := q
    simp only [evE, evEs] at o
    refine tD.then sr (OutP.bnd o) (fun _ _ _ h => h) fun x s1 v H1 ι1 o1 l1 sr1 d1 _ => ?_
    obtain ⟨h1, o1⟩ := OutP.gd.mp (OutP.bnd o1)
    refine ⟨G.K ▸ kindM_tyV sr1.2 d1 h1, ?_⟩
    have o2 := OutP.bnd o1
    have o2 : OutP (bmD s1.m b x [] >>= fun p => Out.ok (p.1, (⟨s1.e, p.2⟩ : S))) _ _ := o2
    have o2 := OutP.bnd o2
    cases e : bmD s1.m b x [] with
    | bad => rw [e] at o2; exact o2.elim
    | exc c d t => exact absurd e (hc _ _ _ _ _ _)
    | ok zm =>
      obtain ⟨z, m'⟩ := zm
      rw [e] at o2
      refine hk H1 ι1 s1.m x [] v [] z m' Q sr1.2 d1 (by simp only [DenL]) e fun w H' ι' l r dn n => o2 w H' ι' (l1.trans l) ⟨sr1.1.le l, r⟩ dn (n.imp fun H3 ι3 z => ⟨l1.trans z.1, sr1.1.le z.1, z.2⟩)
end
end SV
set_option linter.all false
set_option Elab.async false
set_option maxRecDepth 100000
set_option maxHeartbeats 4000000
namespace SV
open PySem PySem.Spec PyProof.Rows L2
section
variable {X : Cx} {g : Cfg} {c : Tc} {W : WX} {w : SV.W} {x : Str} {i : Nat} {H H' : Hp} {ι ι' : Io} {m : List MO} {fr : Bool}
theorem Den.refAt {k : Nat} {v : V} {mo : MO} (r : Rel g H ι m) (dn : Den g H ι (.ref k) v) (hk : m[k]? = some mo) (hd : mo ≠ .dead) : ∃ a, v = .ref a ∧ ι[k]? = some (some a) ∧ MDen g H ι a mo := by
  rcases r.at_ k mo hk with ⟨z, _⟩ | ⟨a, ha, md⟩
  · exact absurd z hd
  · simp only [Den] at dn
    exact ⟨a, dn.2 a ha, ha, md⟩
theorem nwN {R : Hp → Io → Prop} {v : V} : Nw fr g R H' ι' .non v := Nw.flat (by intro a; constructor <;> (intro z; cases z))
theorem DenL.nil : DenL g H ι [] [] := by simp only [DenL]
theorem denN : Den g H ι .non .non := by simp only [Den]
/-- a list of the store is written -/
theorem wr_list {k : Nat} {a : Addr} {xs : List D} {vs : List V} (r : Rel g H ι m) (e : ι[k]? = some (some a)) (d : DenL g H ι xs vs) : Le H ι (upd H a (.lst vs)) ι ∧ Rel g (upd H a (.lst vs)) ι (m.set k (.lst xs)) := by
  have lw : Le H ι (upd H a (.lst vs)) ι := Le.wr r e
  exact ⟨lw, r.wr e ⟨vs, upd_same, d.le lw⟩⟩
theorem calmB {b : Bm} (h : ∀ m x xs c d s, bmD m b x xs ≠ .exc c d s) : ∀ m x xs c d s, bmD m b x xs ≠ .exc c d s := h
theorem mt_D_append : MtD g fr rAppend (fun m x xs => bmD m .append x xs) := by
  intro H ι m x xs v vs z m' Q r dx dn e k
  rcases xs with _ | ⟨y, _ | ⟨_, _⟩⟩ <;> try (cases e; done)
  obtain ⟨u, rfl, dy⟩ := denL1 dn
  cases x <;> try (cases e; done)
  rename_i kk
  have e : (match m[kk]? with | some (.lst ys) => (do gd (decide (ys.length < sizeL)); .ok (.non, m.set kk (.lst (ys ++ [y]))) : Out (D × List MO)) | _ => .bad) = .ok (z, m') := e
  split at e
  · rename_i ys hk
    obtain ⟨h1, e⟩ := gd_ok e
    cases e
    obtain ⟨a, rfl, ha, ws, h2, h3⟩ := dx.refAt r hk (by intro z; cases z)
    have h1 := of_decide_eq_true h1
    rw [sizeL_eq] at h1
    obtain ⟨lw, rw'⟩ := wr_list r ha (h3.append (DenL.cons dy DenL.nil))
    exact ⟨a, ws, u, rfl, rfl, h2, by rw [← h3.length]; exact h1, k _ _ ι lw rw' denN nwN⟩
  · cases e
theorem calm_append : ∀ m x xs c d s, bmD m .append x xs ≠ .exc c d s := by
  intro m x xs c d s
  rcases xs with _ | ⟨y, _ | ⟨_, _⟩⟩
  · intro z; cases z
  · cases x <;> try (intro z; cases z; done)
    rename_i k
    show (match m[k]? with | some (.lst ys) => (do gd (decide (ys.length < sizeL)); .ok (.non, m.set k (.lst (ys ++ [y]))) : Out (D × List MO)) | _ => .bad) ≠ _
    split
    · exact calm_gd (fun _ _ _ z => by cases z) c d s
    · intro z; cases z
  · intro z; cases z
theorem mt_D_extend : MtD g fr rExtend (fun m x xs => bmD m .extend x xs) := by
  intro H ι m x xs v vs z m' Q r dx dn e k
  rcases xs with _ | ⟨y, _ | ⟨_, _⟩⟩ <;> try (cases e; done)
  obtain ⟨u, rfl, dy⟩ := denL1 dn
  cases x <;> try (cases e; done)
  rename_i kk
  have e : (match m[kk]?, rslv m y with | some (.lst ys), .lst zs => (do gd (decide (ys.length + zs.length ≤ sizeL)); .ok (.non, m.set kk (.lst (ys ++ zs))) : Out (D × List MO)) | _, _ => .bad) = .ok (z, m') := e
  split at e
  · rename_i ys zs hk hy
    obtain ⟨h1, e⟩ := gd_ok e
    cases e
    obtain ⟨a, rfl, ha, ws, h2, h3⟩ := dx.refAt r hk (by intro z; cases z)
    obtain ⟨b, us, rfl, hb, dz⟩ := dy.list r hy
    have h1 := of_decide_eq_true h1
    rw [sizeL_eq] at h1
    obtain ⟨lw, rw'⟩ := wr_list r ha (h3.append dz)
    exact ⟨a, b, ws, us, rfl, rfl, h2, hb, by rw [← h3.length, ← dz.length]; exact h1, k _ _ ι lw rw' denN nwN⟩
  · cases e
theorem calm_extend : ∀ m x xs c d s, bmD m .extend x xs ≠ .exc c d s := by
  intro m x xs c d s
  rcases xs with _ | ⟨y, _ | ⟨_, _⟩⟩
  · intro z; cases z
  · cases x <;> try (intro z; cases z; done)
    rename_i k
    show (match m[k]?, rslv m y with | some (.lst ys), .lst zs => (do gd (decide (ys.length + zs.length ≤ sizeL)); .ok (.non, m.set k (.lst (ys ++ zs))) : Out (D × List MO)) | _, _ => .bad) ≠ _
    split
    · exact calm_gd (fun _ _ _ z => by cases z) c d s
    · intro z; cases z
  · intro z; cases z
theorem mt_D_pop1 : MtD g false rPopAt (fun m x xs => bmD m .pop1 x xs) := by
  intro H ι m x xs v vs z m' Q r dx dn e k
  rcases xs with _ | ⟨y, _ | ⟨_, _⟩⟩
  · cases e
  · cases y <;> try (cases e; done)
    rename_i j
    obtain ⟨u, rfl, dy⟩ := denL1 dn
    simp only [Den] at dy
    subst dy
    cases x <;> try (cases e; done)
    rename_i kk
    have e : (match m[kk]? with | some (.lst ys) => (do gd (decide (-(2 ^ 62) ≤ j ∧ j < 2 ^ 62)); let n ← opt (ixOf j ys.length); let y ← opt ys[n]?; .ok (y, m.set kk (.lst (ys.eraseIdx n))) : Out (D × List MO)) | _ => .bad) = .ok (z, m') := e
    split at e
    · rename_i ys hk
      obtain ⟨h1, e⟩ := gd_ok e
      obtain ⟨n, h2, e⟩ := opt_ok e
      obtain ⟨y, h3, e⟩ := opt_ok e
      cases e
      obtain ⟨a, rfl, ha, ws, h4, h5⟩ := dx.refAt r hk (by intro z; cases z)
      have h1 := of_decide_eq_true h1
      rw [ixOf_N, h5.length] at h2
      obtain ⟨h6, h7, _, _⟩ := ixN_seq h2
      obtain ⟨v, h8, h9⟩ := h5.get h3
      obtain ⟨lw, rw'⟩ := wr_list r ha (h5.erase n)
      exact ⟨a, ws, j, n, v, rfl, rfl, h4, by omega, by omega, h6, h8, k _ _ ι lw rw' (h9.le lw) Nw.no⟩
    · cases e
  · cases y <;> cases e
theorem calm_pop1 : ∀ m x xs c d s, bmD m .pop1 x xs ≠ .exc c d s := by
  intro m x xs c d s
  rcases xs with _ | ⟨y, _ | ⟨_, _⟩⟩
  · intro z; cases z
  · cases y <;> try (intro z; cases z; done)
    rename_i j
    cases x <;> try (intro z; cases z; done)
    rename_i k
    show (match m[k]? with | some (.lst ys) => (do gd (decide (-(2 ^ 62) ≤ j ∧ j < 2 ^ 62)); let n ← opt (ixOf j ys.length); let y ← opt ys[n]?; .ok (y, m.set k (.lst (ys.eraseIdx n))) : Out (D × List MO)) | _ => .bad) ≠ _
    split
    · exact calm_gd (calm_bind fun _ => calm_bind fun _ _ _ _ z => by cases z) c d s
    · intro z; cases z
  · cases y <;> (intro z; cases z)
theorem mt_D_pop0 : MtD g false rPop (fun m x xs => bmD m .pop0 x xs) := by
  intro H ι m x xs v vs z m' Q r dx dn e k
  rcases xs with _ | ⟨y, t⟩
  · simp only [DenL] at dn
    subst dn
    cases x <;> try (cases e; done)
    rename_i kk
    have e : (match m[kk]? with | some (.lst ys) => (match ys.getLast? with | some y => .ok (y, m.set kk (.lst ys.dropLast)) | none => .bad : Out (D × List MO)) | _ => .bad) = .ok (z, m') := e
    split at e
    · rename_i ys hk
      split at e
      · rename_i y hy
        cases e
        obtain ⟨a, rfl, ha, ws, h4, h5⟩ := dx.refAt r hk (by intro z; cases z)
        rw [List.getLast?_eq_getElem?] at hy
        obtain ⟨v, h8, h9⟩ := h5.get hy
        have h10 : DenL g H ι ys.dropLast ws.dropLast := by
          rw [List.dropLast_eq_take, List.dropLast_eq_take, ← h5.length]
          exact h5.take _
        obtain ⟨lw, rw'⟩ := wr_list r ha h10
        exact ⟨a, ws, v, rfl, rfl, h4, by rw [← h5.length]; exact h8, k _ _ ι lw rw' (h9.le lw) Nw.no⟩
      · cases e
    · cases e
  · cases e
theorem calm_pop0 : ∀ m x xs c d s, bmD m .pop0 x xs ≠ .exc c d s := by
  intro m x xs c d s
  rcases xs with _ | ⟨y, t⟩
  · cases x <;> try (intro z; cases z; done)
    rename_i k
    show (match m[k]? with | some (.lst ys) => (match ys.getLast? with | some y => .ok (y, m.set k (.lst ys.dropLast)) | none => .bad : Out (D × List MO)) | _ => .bad) ≠ _
    split
    · split <;> (intro z; cases z)
    · intro z; cases z
  · intro z; cases z
theorem strL_den : ∀ {ys : List D} {ss : List Str} {vs : List V}, strL ys = some ss → DenL g H ι ys vs → vs = ss.map V.str
  | [], ss, vs, h, dn => by simp [strL] at h; subst h; simp only [DenL] at dn; subst dn; rfl
  | y :: r, ss, vs, h, dn => by
    simp only [DenL] at dn
    obtain ⟨v, t, rfl, a, b⟩ := dn
    cases y with
    | str i =>
      simp only [strL] at h
      cases e : strL r with
      | none => rw [e] at h; cases h
      | some js =>
        rw [e] at h
        cases h
        simp only [Den] at a
        subst a
        rw [strL_den e b]
        rfl
    | _ => simp [strL] at h
theorem mt_D_join (hK : g.K = X.K) : MtD g fr (fun x xs H Q => ∃ a p, ∃ ys : List Str, x = .str a ∧ xs = [.ref p] ∧ (SqL X.K H p (ys.map V.str) ∨ SqT X.K H p (ys.map V.str)) ∧ (ys.map (·.length)).sum + ys.length * a.length ≤ 16777216 ∧ Q (.str (Txt.join a ys)) H) (fun m x xs => bmD m .join x xs) := by
  intro H ι m x xs v vs z m' Q r dx dn e k
  rcases xs with _ | ⟨y, _ | ⟨_, _⟩⟩ <;> try (cases e; done)
  obtain ⟨u, rfl, dy⟩ := denL1 dn
  cases x <;> try (cases e; done)
  rename_i sep
  have e : (do let ss ← opt (strL (← opt (seqOf m y))); gd (decide ((ss.map (·.length)).sum + ss.length * sep.length ≤ sizeL)); .ok (.str (Str.join sep ss), m) : Out (D × List MO)) = .ok (z, m') := e
  obtain ⟨ys, h1, e⟩ := opt_ok e
  obtain ⟨ss, h2, e⟩ := opt_ok e
  obtain ⟨h3, e⟩ := gd_ok e
  cases e
  simp only [Den] at dx
  subst dx
  obtain ⟨p, ws, rfl, hp, dw⟩ := dy.seq r h1
  have := strL_den h2 dw
  subst this
  refine ⟨sep, p, ss, rfl, rfl, ?_, of_decide_eq_true h3, ?_⟩
  · rcases hp with hp | hp
    · exact .inl (SqL.of hp)
    · exact .inr (SqT.of hp)
  · have : Txt.join sep ss = Str.join sep ss := StrLaws.glued_eq_join sep ss
    rw [this]
    exact k _ _ ι (Le.refl _ _) r (by simp only [Den]) (Nw.flat (by intro a; constructor <;> (intro z; cases z)))
theorem calm_join : ∀ m x xs c d s, bmD m .join x xs ≠ .exc c d s := by
  intro m x xs c d s
  rcases xs with _ | ⟨y, _ | ⟨_, _⟩⟩
  · intro z; cases z
  · cases x <;> try (intro z; cases z; done)
    rename_i sep
    show (do let ss ← opt (strL (← opt (seqOf m y))); gd (decide ((ss.map (·.length)).sum + ss.length * sep.length ≤ sizeL)); .ok (.str (Str.join sep ss), m) : Out (D × List MO)) ≠ _
    exact calm_bind (fun _ => calm_bind fun _ => calm_gd fun _ _ _ z => by cases z) c d s
  · intro z; cases z
def rCntD (K : PySem.W.Frag) : V → List V → Hp → VK → Prop := fun x xs H Q => ∃ (a : Addr) (y : V) (d : PyData) (ds : List PyData), x = V.ref a ∧ xs = [y] ∧ Dp K H (V.ref a) (.list ds) ∧ Dp K H y d ∧ PyData.canLayAll0 ds = true ∧ d.canLay0 = true ∧ d.depth ≤ 60 ∧
  Q (.int ((ds.countP fun z => PyData.eqv z d : Nat) : Int)) H
theorem mt_countD (hu : X.A.units + 65 < cLine) : MtR X "list.count" (rCntD X.K) := by
  intro pins s σ H x xs v us Q I rx rxs h
  obtain ⟨a, y, d, ds, rfl, rfl, hl, hy, c1, c2, c3, q⟩ := h
  cases rx
  cases rxs with
  | cons ry rt =>
    rename_i uy ut
    cases rt
    obtain ⟨bs, r1⟩ := Dp.reads I d y uy hy ry
    have hr : X.A.units + 1 + min (PyData.depthAll ds) d.depth < cLine := by
      have : min (PyData.depthAll ds) d.depth ≤ 60 := Nat.le_trans (Nat.min_le_right _ _) c3
      omega
    cases hl with
    | lst hs ha =>
      obtain ⟨its, rv, pl, hlen⟩ := I.list hs
      obtain ⟨as, h4⟩ := Dp.readsAll I ds _ its ha rv
      exact SeqAt.count_list_data (vs := its.toArray) pl.isList (by simpa using h4) r1 (PyData.plainAll_of_canLay0 _ c1) (PyData.plain_of_canLay0 _ c2) hr ⟨.int _, H, I.tok _, ⟨_, rfl⟩, q⟩
theorem countP_pd {x : D} (hx : okD 60 x = true) : ∀ {ys : List D}, ys.all (okD 60) = true → ((pds ys).countP fun y => PyData.eqv y (pd x)) = ys.countP fun y => eqB y x
  | [], _ => rfl
  | y :: r, h => by
    simp only [List.all_cons, Bool.and_eq_true] at h
    simp only [pds, List.countP_cons, countP_pd hx h.2, eqB_pd 60 60 y x h.1 hx]
theorem mt_D_count (hK : g.K = X.K) : MtD g fr (rCntD X.K) (fun m x xs => bmD m .count x xs) := by
  intro H ι m x xs v vs z m' Q r dx dn e k
  rcases xs with _ | ⟨y, _ | ⟨_, _⟩⟩ <;> try (cases e; done)
  obtain ⟨u, rfl, dy⟩ := denL1 dn
  have e : (match rslv m x with | .lst ys => (do .ok (.int (← opt (countD (rslv m y) ys)), m) : Out (D × List MO)) | _ => .bad) = .ok (z, m') := e
  split at e
  · rename_i ys hy
    obtain ⟨n, h2, e⟩ := opt_ok e
    cases e
    unfold countD at h2
    split at h2
    · rename_i h3
      simp only [Bool.and_eq_true] at h3
      simp only [Option.some.injEq] at h2
      subst h2
      obtain ⟨d1, d2, d3⟩ := okD_top r h3.1 dy
      obtain ⟨a, ws, rfl, ha, dw⟩ := dx.list r hy
      obtain ⟨e1, e2, e3⟩ := okD_dps 60 ys ws h3.2 dw
      refine ⟨a, u, _, pds ys, rfl, rfl, hK ▸ Dp.lst (SqL.of ha) e1, hK ▸ d1, e2, d2, d3, ?_⟩
      rw [countP_pd h3.1 h3.2]
      exact k _ _ ι (Le.refl _ _) r (by simp only [Den]) (Nw.flat (by intro a; constructor <;> (intro z; cases z)))
    · cases h2
  · cases e
theorem calm_count : ∀ m x xs c d s, bmD m .count x xs ≠ .exc c d s := by
  intro m x xs c d s
  rcases xs with _ | ⟨y, _ | ⟨_, _⟩⟩
  · intro z; cases z
  · show (match rslv m x with | .lst ys => (do .ok (.int (← opt (countD (rslv m y) ys)), m) : Out (D × List MO)) | _ => .bad) ≠ _
    split
    · exact calm_bind (fun _ _ _ _ z => by cases z) c d s
    · intro z; cases z
  · intro z; cases z
/-- the first place -/
theorem findIdx_pd {x : D} (hx : okD 60 x = true) : ∀ {ys : List D} {j : Nat}, ys.all (okD 60) = true → (ys.findIdx? fun y => eqB y x) = some j → (∃ z, (pds ys)[j]? = some z ∧ PyData.eqv z (pd x) = true) ∧ ∀ (n : Nat) z, n < j → (pds ys)[n]? = some z → PyData.eqv z (pd x) = false
  | [], j, _, h => by simp at h
  | y :: r, j, hy, h => by
    simp only [List.all_cons, Bool.and_eq_true] at hy
    have e1 : PyData.eqv (pd y) (pd x) = eqB y x := eqB_pd 60 60 y x hy.1 hx
    rw [List.findIdx?_cons] at h
    cases hb : eqB y x with
    | true =>
      rw [hb] at h
      simp only [if_true, Option.some.injEq] at h
      subst h
      exact ⟨⟨_, rfl, e1.trans hb⟩, fun n z hn => absurd hn (Nat.not_lt_zero _)⟩
    | false =>
      rw [hb] at h
      simp only [Bool.false_eq_true, if_false, Option.map_eq_some_iff] at h
      obtain ⟨j', h1, rfl⟩ := h
      obtain ⟨⟨z, h2, h3⟩, h4⟩ := findIdx_pd hx hy.2 h1
      refine ⟨⟨z, by simpa [pds] using h2, h3⟩, fun n z hn hz => ?_⟩
      cases n with
      | zero => simp only [pds, List.getElem?_cons_zero, Option.some.injEq] at hz; rw [← hz, e1, hb]
      | succ n => exact h4 n z (by omega) (by simpa [pds] using hz)
theorem mt_D_index (hK : g.K = X.K) : MtD g fr (rIndexD X.K) (fun m x xs => bmD m .index x xs) := by
  intro H ι m x xs v vs z m' Q r dx dn e k
  rcases xs with _ | ⟨y, _ | ⟨_, _⟩⟩ <;> try (cases e; done)
  obtain ⟨u, rfl, dy⟩ := denL1 dn
  have e : (match rslv m x with | .lst ys => (do .ok (.int (← opt (indexD (rslv m y) ys)), m) : Out (D × List MO)) | _ => .bad) = .ok (z, m') := e
  split at e
  · rename_i ys hy
    obtain ⟨n, h2, e⟩ := opt_ok e
    cases e
    unfold indexD at h2
    split at h2
    · rename_i h3
      simp only [Bool.and_eq_true] at h3
      obtain ⟨d1, d2, d3⟩ := okD_top r h3.1 dy
      obtain ⟨a, ws, rfl, ha, dw⟩ := dx.list r hy
      obtain ⟨e1, e2, e3⟩ := okD_dps 60 ys ws h3.2 dw
      obtain ⟨⟨z, h4, h5⟩, h6⟩ := findIdx_pd h3.1 h3.2 h2
      have s1 : SeqAt.shaped (.list (pds ys)) = true := by
        unfold SeqAt.shaped
        simp only [PyData.canLay0, PyData.depth, e2, Bool.true_and]
        exact decide_eq_true (by omega)
      exact ⟨a, u, _, pds ys, n, z, rfl, rfl, hK ▸ Dp.lst (SqL.of ha) e1, hK ▸ d1, s1, sh_of d2 d3, h4, h5, h6, k _ _ ι (Le.refl _ _) r (by simp only [Den]) (Nw.flat (by intro a; constructor <;> (intro z; cases z)))⟩
    · cases h2
  · cases e
theorem calm_index : ∀ m x xs c d s, bmD m .index x xs ≠ .exc c d s := by
  intro m x xs c d s
  rcases xs with _ | ⟨y, _ | ⟨_, _⟩⟩
  · intro z; cases z
  · show (match rslv m x with | .lst ys => (do .ok (.int (← opt (indexD (rslv m y) ys)), m) : Out (D × List MO)) | _ => .bad) ≠ _
    split
    · exact calm_bind (fun _ _ _ _ z => by cases z) c d s
    · intro z; cases z
  · intro z; cases z
end
end SV
set_option linter.all false
set_option Elab.async false
set_option maxRecDepth 100000
set_option maxHeartbeats 4000000
namespace SV
open PySem PySem.Spec PyProof.Rows L2
section
variable {X : Cx} {g : Cfg} {c : Tc} {W : WX} {w : SV.W} {x : Str} {i : Nat} {H H' : Hp} {ι ι' : Io} {m : List MO} {fr : Bool} {CX : CXT} {k : Nat}
variable {a b d e : Expr} {a' b' d' : Ex} {es : List Expr} {es' : Exs} {p tp apos pos : Pos} {fra frb frd : Bool}
theorem kitBB : ([none, some .int, some .bool, some .str, some .tuple, some .list, some .dict] : List (Option Ty)).all (fun a => ([.int, .bool, .str, .tuple, .list, .dict] : List Ty).all fun t => decide (kitB (tyN a) (tyN (some t)) = some (decide (a = some t ∨ (a = some .bool ∧ t = .int))))) = true := by decide +kernel
theorem kit_bb {K : PySem.W.Frag} {a : Option Ty} {t : Ty} (ha : ∀ c, a ≠ some (.own c)) (ht : ∀ c, t ≠ .own c) : PySem.W.kitOne K (.type (tyN a)) (.type (tyN (some t))) = some (decide (a = some t ∨ (a = some .bool ∧ t = .int))) := by
  have h := kitBB
  rw [List.all_eq_true] at h
  have h1 := h a (by
    rcases a with _ | a
    · simp
    · cases a <;> first | (simp; done) | exact absurd rfl (ha _))
  rw [List.all_eq_true] at h1
  have h2 := h1 t (by cases t <;> first | (simp; done) | exact absurd rfl (ht _))
  exact kit_ty (of_decide_eq_true h2)
/-- a value's type, by its kind -/
theorem kind_ty (T : Fx X g W w CX k) (hK : g.K = X.K) {x : D} {v : V} (r : Rel g H ι m) (dn : Den g H ι x v) {q : Option Ty ⊕ Nat} (h : kindD m x = some q) :
    (∃ a, q = .inl a ∧ (∀ c, a ≠ some (.own c)) ∧ TyX X.K H v (.type (tyN a))) ∨ ∃ cl, q = .inr cl ∧ cl < 9 ∧ TyX X.K H v (.ref (g.aC cl)) := by
  have own : ∀ (a : Addr) (cl : Nat) dx fs, cl < 9 → H a = some (.ins (g.aC cl) dx fs) → TyX X.K H (.ref a) (.ref (g.aC cl)) := fun a cl dx fs hc e => by
    have I := T.ins cl hc
    exact .base (.ins e (T.cls cl hc) I.ha I.hn I.htk I.hm)
  cases x with
  | non => simp only [kindD, Option.some.injEq] at h; simp only [Den] at dn; subst h dn; exact .inl ⟨none, rfl, (by intro c z; cases z), .base .non⟩
  | bl b => simp only [kindD, Option.some.injEq] at h; simp only [Den] at dn; subst h dn; exact .inl ⟨_, rfl, (by intro c z; cases z), .base (.bl b)⟩
  | int b => simp only [kindD, Option.some.injEq] at h; simp only [Den] at dn; subst h dn; exact .inl ⟨_, rfl, (by intro c z; cases z), .base (.int b)⟩
  | str b => simp only [kindD, Option.some.injEq] at h; simp only [Den] at dn; subst h dn; exact .inl ⟨_, rfl, (by intro c z; cases z), .base (.str b)⟩
  | tup xs =>
    simp only [kindD, Option.some.injEq] at h; subst h
    simp only [Den] at dn
    obtain ⟨a, vs, rfl, ⟨ha, _⟩, _⟩ := dn
    exact .inl ⟨_, rfl, (by intro c z; cases z), .base (.tup ha)⟩
  | lst xs =>
    simp only [kindD, Option.some.injEq] at h; subst h
    simp only [Den] at dn
    obtain ⟨a, vs, rfl, ⟨ha, _⟩, _⟩ := dn
    exact .inl ⟨_, rfl, (by intro c z; cases z), .base (.lst ha)⟩
  | dct es =>
    simp only [kindD] at h
    split at h
    · rename_i hk
      cases h
      obtain ⟨a, rfl, ha⟩ := dn.dctAt r (es := es) (by simp only [dctOf])
      obtain ⟨kvs, h1, _⟩ := ha.dK hk
      exact .inl ⟨_, rfl, (by intro c z; cases z), .base (.dK h1)⟩
    · cases h
  | ins cl xs =>
    simp only [kindD, Option.some.injEq] at h; subst h
    have d2 := dn
    simp only [Den] at dn
    obtain ⟨a, dx, vs, ns, rfl, ⟨ha, _⟩, hf, _, _⟩ := dn
    have hc : cl < 9 := by
      unfold flds at hf
      split at hf <;> first | omega | cases hf
    exact .inr ⟨cl, rfl, hc, own a cl _ _ hc ha⟩
  | ref j =>
    simp only [kindD] at h
    split at h
    · rename_i ys hm
      cases h
      obtain ⟨a, rfl, _, vs, ha, _⟩ := dn.refAt r hm (by intro z; cases z)
      exact .inl ⟨_, rfl, (by intro c z; cases z), .base (.lst ha)⟩
    · rename_i es hm
      split at h
      · rename_i hk
        cases h
        obtain ⟨a, rfl, _, ha⟩ := dn.refAt r hm (by intro z; cases z)
        obtain ⟨kvs, h1, _⟩ := DctAt.dK ha hk
        exact .inl ⟨_, rfl, (by intro c z; cases z), .base (.dK h1)⟩
      · cases h
    · rename_i cl fs hm
      split at h
      · rename_i hc
        cases h
        obtain ⟨a, rfl, _, dx, fs', ha, hF, hl⟩ := dn.refAt r hm (by intro z; cases z)
        exact .inr ⟨cl, rfl, hc, own a cl _ _ hc ha⟩
      · cases h
    · cases h
  | _ => cases h
/-- isinstance(e, T), T a built-in type or an own class -/
theorem ev_isi {t : Ty} {cv : V} {u : Value} {y : Str} (G : Gd X g c) (T : Fx X g W w CX k) (hx : isGlob c "isinstance" = true) (ha : PE X a (tD g W fra (evE w a'))) (h1 : noStar a = true) (hb : PE X b (tC cv)) (hs : noStar b = true) (hcv : ClsV cv u)
    (h : (∃ n, t = .own n ∧ n ∈ g.asks ∧ u = .ref (g.aC n)) ∨ ((∀ n, t ≠ .own n) ∧ u = .type (tyN (some t)))) :
    PE X (.Call (.Name "isinstance" p) [a, b] [] pos) (tD g W fr (evE w (.isi a' t))) := by
  obtain ⟨hg, _⟩ := glob_ok G hx
  refine PE.imp (pe_callB call_isi hg (T.blt "isinstance" (by decide +kernel)) (by decide +kernel) (pa_cons ha (pa_cons hb pa_nil (starEach_one hs)) (starEach_one h1)) (by decide) (by decide) (starEach_one h1) (any_plain [b] (by simp [hs]))) fun σ H Q q => ?_
  obtain ⟨ι, s, sr, o⟩ := q
  simp only [evE] at o
  refine tD.then sr (OutP.bnd o) (fun _ _ _ h => h) fun x s1 v H1 ι1 o1 l1 sr1 d1 _ => ?_
  have o1 := OutP.bnd o1
  cases e : isiD s1.m x t with
  | bad => rw [e] at o1; exact o1.elim
  | exc c d s =>
    exfalso
    unfold isiD at e
    split at e <;> first | (split at e <;> cases e) | cases e
  | ok bb =>
    rw [e] at o1
    have fin : Q (.bl bb) H1 := o1 _ H1 ι1 l1 sr1 (by simp only [Den]) (Nw.flat (by intro a; constructor <;> (intro z; cases z)))
    unfold isiD at e
    cases hk : kindD s1.m x with
    | none => rw [hk] at e; cases e
    | some q =>
      rw [hk] at e
      rcases kind_ty T G.K sr1.2 d1 hk with ⟨a, rfl, na, ty⟩ | ⟨cl, rfl, hc, ty⟩
      · rcases h with ⟨n, rfl, hn, rfl⟩ | ⟨ht, rfl⟩
        · dsimp only at e
          split at e
          · cases e
            exact ⟨v, cv, _, _, false, rfl, hcv, ty, (T.isi n hn).kb a na, fin⟩
          · cases e
        · have e : Out.ok (decide (a = some t ∨ (a = some .bool ∧ t = .int))) = .ok bb := by
            cases t <;> first | exact e | exact absurd rfl (ht _)
          cases e
          exact ⟨v, cv, _, _, _, rfl, hcv, ty, kit_bb na ht, fin⟩
      · rcases h with ⟨n, rfl, hn, rfl⟩ | ⟨ht, rfl⟩
        · dsimp only at e
          split at e
          · rename_i hh
            cases e
            exact ⟨v, cv, _, _, _, rfl, hcv, ty, (T.isi n hn).ko cl hc hh, fin⟩
          · cases e
        · have e : Out.ok false = .ok bb := by
            cases t <;> first | exact e | exact absurd rfl (ht _)
          cases e
          exact ⟨v, cv, _, _, _, rfl, hcv, ty, (T.ins cl hc).kb t ht, fin⟩
/-- a class's name as a value -/
theorem pe_own {n : Nat} {y : Str} (G : Gd X g c) (T : Fx X g W w CX k) (hx : isGlob c y = true) (hn : n ∈ g.asks) (hy : tGet tCls y = some n) : PE X (.Name y p) (tC (.ref (g.aC n))) := by
  obtain ⟨hg, ho⟩ := glob_ok G hx
  exact pe_glob hg ((T.isi n hn).mg y hy) rfl (okN_d ho).1
theorem pe_bty {y : Str} {id : String} (G : Gd X g c) (hx : isGlob c y = true) (hm : X.mg y = none) (hv : bootBuiltins y = some (.type id)) : PE X (.Name y p) (tC (.ty id)) := by
  obtain ⟨hg, ho⟩ := glob_ok G hx
  exact pe_bltn hg hm hv rfl (okN_d ho).2.2 (okN_d ho).1
theorem ev_isiO {n : Nat} {y : Str} (G : Gd X g c) (T : Fx X g W w CX k) (hx : isGlob c "isinstance" = true) (ha : PE X a (tD g W fra (evE w a'))) (h1 : noStar a = true) (hy : isGlob c y = true) (hn : n ∈ g.asks) (hy2 : tGet tCls y = some n) :
    PE X (.Call (.Name "isinstance" p) [a, .Name y tp] [] pos) (tD g W fr (evE w (.isi a' (.own n)))) :=
  ev_isi (y := y) G T hx ha h1 (pe_own G T hy hn hy2) rfl (.own _) (.inl ⟨n, rfl, hn, rfl⟩)
theorem ev_isiB {t : Ty} {y : Str} (G : Gd X g c) (T : Fx X g W w CX k) (hx : isGlob c "isinstance" = true) (ha : PE X a (tD g W fra (evE w a'))) (h1 : noStar a = true) (hy : isGlob c y = true) (hm : X.mg y = none) (ht : ∀ n, t ≠ .own n) (hv : bootBuiltins y = some (.type (tyN (some t)))) :
    PE X (.Call (.Name "isinstance" p) [a, .Name y tp] [] pos) (tD g W fr (evE w (.isi a' t))) :=
  ev_isi (y := y) G T hx ha h1 (pe_bty G hy hm hv) rfl (.ty _) (.inr ⟨ht, rfl⟩)
/-- constants of the text -/
theorem ev_gint {y : Str} {n : Int} (G : Gd X g c) (T : Fx X g W w CX k) (hx : isGlob c y = true) (hn : (y, n) ∈ g.cnI) : PE X (.Name y p) (tD g W fr (evE w (.cst (.int n)))) := by
  obtain ⟨hg, ho⟩ := glob_ok G hx
  obtain ⟨t, ht⟩ := T.cI y n hn
  exact PE.imp (pe_glob (v := .int n) hg ht ⟨_, rfl⟩ (okN_d ho).1) fun σ H Q q => cst_imp (fun _ _ => by simp only [Den]) (by intro a; constructor <;> (intro z; cases z)) q
theorem ev_gstr {y : Str} {n : Str} (G : Gd X g c) (T : Fx X g W w CX k) (hx : isGlob c y = true) (hn : (y, n) ∈ g.cnS) : PE X (.Name y p) (tD g W fr (evE w (.cst (.str n)))) := by
  obtain ⟨hg, ho⟩ := glob_ok G hx
  obtain ⟨t, ht⟩ := T.cS y n hn
  exact PE.imp (pe_glob (v := .str n) hg ht ⟨_, rfl⟩ (okN_d ho).1) fun σ H Q q => cst_imp (fun _ _ => by simp only [Den]) (by intro a; constructor <;> (intro z; cases z)) q
end
end SV
set_option linter.all false
set_option Elab.async false
set_option maxRecDepth 100000
set_option maxHeartbeats 4000000
namespace SV
open PySem PySem.Spec PyProof.Rows L2
theorem wipe_sub {σ : L2.St} {own own1 : List Nat} (h : ∀ i ∈ own1, i ∈ own) : wipe (wipe σ own1) own = wipe σ own := by
  apply List.ext_getElem?
  intro j
  rw [wipe_get, wipe_get, wipe_get]
  by_cases hj : j ∈ own
  · rw [if_pos hj, if_pos hj]
    split <;> cases σ[j]? <;> rfl
  · rw [if_neg hj, if_neg hj, if_neg fun z => hj (h j z)]
theorem wipeS_sub {s : S} {own own1 : List Nat} (h : ∀ i ∈ own1, i ∈ own) : wipeS own (wipeS own1 s) = wipeS own s := by
  unfold wipeS
  congr 1
  apply List.ext_getElem?
  intro j
  rw [foldl_set (v := fun _ => none), foldl_set (v := fun _ => none), foldl_set (v := fun _ => none)]
  by_cases hj : j ∈ own
  · rw [if_pos hj, if_pos hj]
    split <;> cases s.e[j]? <;> rfl
  · rw [if_neg hj, if_neg hj, if_neg fun z => hj (h j z)]
section
variable {X : Cx} {g : Cfg} {c : Tc} {W : WX} {w : SV.W} {x : Str} {i : Nat} {pins : List (Addr × Obj)} {s : Shared} {σ σ' : L2.St} {H H' : Hp} {ι ι' : Io} {st st' : S}
variable {a b d : Expr} {a' b' d' : Ex} {p pos tpos : Pos} {fra frb frd fr frr : Bool} {own own1 : List Nat} {es : List Expr} {t t1 : Tg} {ts : Tgs} {ex : Option (Nat × SV.D)}
/-- the inner loop's turn -/
def lcI (w : SV.W) (own1 : List Nat) (t1 : Tg) (e : Ex) (k : Nat) : D → S → Out S := fun x s => do
  let s ← asg w t1 x (wipeS own1 s)
  let (y, s) ← evE w e s
  addM k y s
def lcF2 (w : SV.W) (own own1 : List Nat) (t t1 : Tg) (it1 : SV.It) (e : Ex) (k : Nat) : D → S → Out S := fun x s => SV.noX (do
  let s ← asg w t x (wipeS own s)
  let (xs1, s) ← evI w it1 s
  lcL (lcI w own1 t1 e k) xs1 s)
theorem lc2_imp {e' : Ex} {it' it1' : SV.It} {fre : Bool} {Q : VK} (hsub : ∀ i ∈ own1, i ∈ own) (q : tD g W false (evE w (.lc2 e' own own1 t it' t1 it1')) σ H Q) :
    tLc2 (iD g W (evI w it')) (gW g own (asg w t)) (tDb g W0 (evA w .nil)) (iD g W0 (evI w it1')) (gW g own1 (asg w t1)) (tDb g W0 (evA w .nil)) (tD g W0 fre (evE w e')) own own1 σ H Q := by
  obtain ⟨ι, st, sr, o⟩ := q
  simp only [evE] at o
  refine ⟨ι, st, sr, (OutP.bnd o).mono (fun pr hpr J H1 ι1 l1 sr1 hJ p hp => ?_) fun _ _ _ z => z⟩
  obtain ⟨xs, s0⟩ := pr
  dsimp only at hpr sr1 hJ
  have hk : ι1.length = s0.m.length := sr1.2.len
  have lk : Le H1 ι1 (upd H1 p (.lst [])) (ι1 ++ [some p]) := Le.put hp
  have rk := sr1.2.put hp (o := .lst []) (mo := .lst []) fun H' ι' l h => ⟨[], h, by simp [DenL]⟩
  have hpr2 : OutP (lcL (lcF2 w own own1 t t1 it1' e' s0.m.length) xs ⟨s0.e, s0.m ++ [.lst []]⟩) (fun s1 => ∀ v H' ι', Le H ι H' ι' → SR g H' ι' σ (backS own s0 s1) → Den g H' ι' (.ref s0.m.length) v → Q v H') (fun _ _ _ => True) :=
    (OutP.bnd hpr).mono (fun s1 h v H' ι' l r dn => h v H' ι' l r dn Nw.no) fun _ _ _ _ => True.intro
  refine ⟨fun i m H' => i + m = xs.length ∧ ∃ ι' s', Le (upd H1 p (.lst [])) (ι1 ++ [some p]) H' ι' ∧ EnvDen g H' ι' (wipe σ own) (wipeS own s').e ∧ Rel g H' ι' s'.m ∧ OutP (lcL (lcF2 w own own1 t t1 it1' e' s0.m.length) (xs.drop i) s') (fun s1 => ∀ v H' ι', Le H ι H' ι' → SR g H' ι' σ (backS own s0 s1) → Den g H' ι' (.ref s0.m.length) v → Q v H') (fun _ _ _ => True),
    ⟨xs.length, Nat.zero_add _, _, ⟨s0.e, s0.m ++ [.lst []]⟩, Le.refl _ _, EnvDen.wipeS (s := ⟨s0.e, s0.m ++ [.lst []]⟩) (sr1.1.le lk), rk, by rw [List.drop_zero]; exact hpr2⟩, ?_⟩
  rintro i m H2 ⟨hm, ι2, s2, l2, e2, r2, o2⟩
  have l12 := lk.trans l2
  obtain ⟨hstop, hgo⟩ := hJ H2 ι2 l12
  by_cases hi : i < xs.length
  · right
    obtain ⟨d, hd⟩ : ∃ d, xs[i]? = some d := ⟨xs[i], List.getElem?_eq_getElem hi⟩
    obtain ⟨g1, g2⟩ := hgo i d hd
    refine ⟨g1, _, fun H' hN => ⟨m - 1, by omega, hN⟩, fun v H3 hy => ?_⟩
    obtain ⟨l3, h3⟩ := g2 v H3 hy
    obtain ⟨r3, dn⟩ := h3 s2.m r2
    have o3 := OutP.noX' (E' := fun _ _ _ => False) (lcL_at hd o2)
    refine ⟨ι2, wipeS own s2, d, ⟨e2.le l3, r3⟩, dn, (OutP.bnd o3).mono (fun s4 h4 σ4 H4 ι4 l4 sr4 hw => ⟨hw.trans wipe_wipe, ?_⟩) fun _ _ _ z => z⟩
    have hw2 : wipe σ4 own = wipe σ own := by rw [hw, wipe_wipe]
    -- no test
    refine ⟨ι4, s4, sr4, ?_⟩
    simp only [evA]
    refine fun H5 ι5 l5 sr5 => ?_
    simp only [if_true]
    refine ⟨ι5, s4, sr5, (OutP.bnd h4).mono (fun pj hj J1 H6 ι6 l6 sr6 hJ1 => ?_) fun _ _ _ z => z.elim⟩
    obtain ⟨ys, s6⟩ := pj
    dsimp only at hj sr6 hJ1
    have l26 := l2.trans (l3.trans (l4.trans (l5.trans l6)))
    refine ⟨fun j k H' => j + k = ys.length ∧ ∃ ι' s', Le H6 ι6 H' ι' ∧ EnvDen g H' ι' (wipe σ4 own1) (wipeS own1 s').e ∧ Rel g H' ι' s'.m ∧ OutP (lcL (lcI w own1 t1 e' s0.m.length) (ys.drop j) s') (fun s => OutP (lcL (lcF2 w own own1 t t1 it1' e' s0.m.length) (xs.drop (i + 1)) s) (fun s1 => ∀ v H' ι', Le H ι H' ι' → SR g H' ι' σ (backS own s0 s1) → Den g H' ι' (.ref s0.m.length) v → Q v H') (fun _ _ _ => True)) (fun _ _ _ => False),
      ⟨ys.length, Nat.zero_add _, ι6, s6, Le.refl _ _, EnvDen.wipeS sr6.1, sr6.2, by rw [List.drop_zero]; exact hj⟩, ?_⟩
    rintro j k H7 ⟨hm7, ι7, s7, l7, e7, r7, o7⟩
    obtain ⟨hstop1, hgo1⟩ := hJ1 H7 ι7 l7
    by_cases hj' : j < ys.length
    · right
      obtain ⟨y, hy'⟩ : ∃ d, ys[j]? = some d := ⟨ys[j], List.getElem?_eq_getElem hj'⟩
      obtain ⟨g3, g4⟩ := hgo1 j y hy'
      refine ⟨g3, _, fun H' hN => ⟨k - 1, by omega, hN⟩, fun v H8 hy8 => ?_⟩
      obtain ⟨l8, h8⟩ := g4 v H8 hy8
      obtain ⟨r8, dn8⟩ := h8 s7.m r7
      have o8 := lcL_at hy' o7
      refine ⟨ι7, wipeS own1 s7, y, ⟨e7.le l8, r8⟩, dn8, (OutP.bnd o8).mono (fun s9 h9 σ9 H9 ι9 l9 sr9 hw9 => ⟨hw9.trans wipe_wipe, ?_⟩) fun _ _ _ z => z⟩
      have hw10 : wipe σ9 own1 = wipe σ4 own1 := by rw [hw9, wipe_wipe]
      refine ⟨ι9, s9, sr9, ?_⟩
      simp only [evA]
      refine fun H10 ι10 l10 sr10 => ?_
      simp only [if_true]
      refine ⟨ι10, s9, sr10, (OutP.bnd h9).mono (fun pe he u H11 ι11 l11 sr11 d11 nw11 => ?_) fun _ _ _ z => z.elim⟩
      clear nw11
      obtain ⟨z, s11⟩ := pe
      dsimp only at he sr11 d11
      unfold addM at he
      cases hmk : s11.m[s0.m.length]? with
      | none => rw [hmk] at he; exact he.elim
      | some mo =>
        rw [hmk] at he
        cases mo with
        | lst zs =>
          dsimp only at he
          obtain ⟨hz, he⟩ := OutP.gd.mp (OutP.bnd he)
          have l71 := l7.trans (l8.trans (l9.trans (l10.trans l11)))
          have l21 := l26.trans l71
          obtain ⟨h7, vs, h12, h13⟩ := placeAt l21 hk sr11.2 hmk (by intro z; cases z)
          have hz := of_decide_eq_true hz
          rw [sizeL_eq] at hz
          have lw : Le H11 ι11 (upd H11 p (.lst (vs ++ [u]))) ι11 := Le.wr sr11.2 h7
          have r14 := sr11.2.wr (o := .lst (vs ++ [u])) (mo := .lst (zs ++ [z])) h7 ⟨vs ++ [u], upd_same, (h13.append (DenL.cons d11 DenL.nil)).le lw⟩
          refine ⟨vs, h12, by rw [← h13.length]; exact hz, by omega, ι11, _, l71.trans lw, ?_, r14, he⟩
          rw [← hw10]
          exact (EnvDen.wipeS (s := s11) sr11.1).le lw
        | _ => exact he.elim
    · left
      have hj2 : j = ys.length := by omega
      subst hj2
      rw [List.drop_length] at o7
      simp only [lcL] at o7
      refine ⟨hstop1, by omega, ι7, s7, l26.trans l7, ?_, r7, o7⟩
      have := EnvDen.wipeS (own := own) (s := wipeS own1 s7) e7
      rw [wipe_sub hsub, wipeS_sub hsub, hw2] at this
      exact this
  · left
    have hi2 : i = xs.length := by omega
    subst hi2
    refine ⟨hstop, ?_⟩
    rw [List.drop_length] at o2
    simp only [lcL] at o2
    refine o2 (.ref p) H2 ι2 (l1.trans l12) ⟨EnvDen.backS sr1.1 e2 l12, r2⟩ ?_
    simp only [Den]
    refine ⟨by have := l2.len; simp at this; omega, fun a e => ?_⟩
    have h1 := l2.same s0.m.length (by simp; omega)
    rw [List.getElem?_append_right (by omega), ← hk, Nat.sub_self] at h1
    simp only [List.getElem?_cons_zero] at h1
    rw [← hk] at e
    rcases h1 with z | z <;> rw [z] at e <;> cases e
    rfl
variable {elt tg iter tg1 iter1 : Expr} {scope : Scope} {ow : List (Str × Nat)} {e' : Ex} {it' it1' : SV.It}
structure Lc2Ok (X : Cx) (g : Cfg) (W : WX) (w : SV.W) (elt tg iter tg1 iter1 : Expr) (scope : Scope) (ow : List (Str × Nat)) (own1 : List Nat) (e' : Ex) (t : Tg) (it' : SV.It) (t1 : Tg) (it1' : SV.It) : Prop where
  it : PI X tg iter (iD g W (evI w it'))
  ok : BlkOk X.N X.env.scope scope ow
  hv : ∀ i ∈ own1, i ∈ ow.map (·.2)
  tg : ∀ (s : Shared) (H : Hp) (C : Addr) (cl : List (Str × Addr)) (fp : List Addr), PG (X.blk s H scope (compEnvC scope cl C X.env) fp) tg (gW g (ow.map (·.2)) (asg w t))
  it1 : ∀ (s : Shared) (H : Hp) (C : Addr) (cl : List (Str × Addr)) (fp : List Addr), PI (X.blk s H scope (compEnvC scope cl C X.env) fp) tg1 iter1 (iD g W0 (evI w it1'))
  tg1 : ∀ (s : Shared) (H : Hp) (C : Addr) (cl : List (Str × Addr)) (fp : List Addr), PG (X.blk s H scope (compEnvC scope cl C X.env) fp) tg1 (gW g own1 (asg w t1))
  el : ∀ (s : Shared) (H : Hp) (C : Addr) (cl : List (Str × Addr)) (fp : List Addr), PE (X.blk s H scope (compEnvC scope cl C X.env) fp) elt (tD g W0 false (evE w e'))
  fs : ∀ x, foldedSetIterable iter X.env x = pure x
  fs1 : ∀ env x, foldedSetIterable iter1 env x = pure x
theorem ev_lc2 (G : Gd X g c) (L : Lc2Ok X g W w elt tg iter tg1 iter1 scope ow own1 e' t it' t1 it1') : PE X (.ListComp elt [⟨tg, iter, [], 0⟩, ⟨tg1, iter1, [], 0⟩] scope pos) (tD g W false (evE w (.lc2 e' (ow.map (·.2)) own1 t it' t1 it1'))) :=
  PE.imp (pe_lc2 G.calm G.nd L.it L.ok L.hv L.tg (fun _ _ _ _ _ => pts_nilD) L.it1 L.tg1 (fun _ _ _ _ _ => pts_nilD) L.el L.fs L.fs1) fun σ H Q q => lc2_imp L.hv q
theorem ps_setLc2D {y : Str} {py spos : Pos} (G : Gd X g c) (L : Lc2Ok X g W w elt tg iter tg1 iter1 scope ow own1 e' t it' t1 it1') (hy : slotOf c y = some i) (hyl : X.env.scope.names.lookup y = some .local)
    (hsw : swapsWith (.ListComp elt [⟨tg, iter, [], 0⟩, ⟨tg1, iter1, [], 0⟩] scope pos) (some (.Name y py)) spos.line X.env = pure true) :
    PS X (.Assign [.Name y py] (.ListComp elt [⟨tg, iter, [], 0⟩, ⟨tg1, iter1, [], 0⟩] scope pos) spos) (tS g W frr (exS w ex (.asg (.name i) (.lc2 e' (ow.map (·.2)) own1 t it' t1 it1')))) :=
  PS.imp (ps_setLc2 G.calm G.nd (slot_ok G hy).1 hyl hsw L.it L.ok L.hv L.tg (fun _ _ _ _ _ => pts_nilD) L.it1 L.tg1 (fun _ _ _ _ _ => pts_nilD) L.el L.fs L.fs1) fun D σ H q => lc2_imp L.hv (asg_imp q)
theorem ps_setLc2F {y : Str} {py spos : Pos} (G : Gd X g c) (L : Lc2Ok X g W w elt tg iter tg1 iter1 scope ow own1 e' t it' t1 it1') (hy : slotOf c y = some i) (hyl : X.env.scope.names.lookup y = some .local)
    (hsw : swapsWith (.ListComp elt [⟨tg, iter, [], 0⟩, ⟨tg1, iter1, [], 0⟩] scope pos) (some (.Name y py)) spos.line X.env = pure true) :
    PS X (.Assign [.Name y py] (.ListComp elt [⟨tg, iter, [], 0⟩, ⟨tg1, iter1, [], 0⟩] scope pos) spos) (tS g W frr (exS w ex (.asg (.name i) (.frz (.lc2 e' (ow.map (·.2)) own1 t it' t1 it1'))))) :=
  PS.imp (ps_setLc2 G.calm G.nd (slot_ok G hy).1 hyl hsw L.it L.ok L.hv L.tg (fun _ _ _ _ _ => pts_nilD) L.it1 L.tg1 (fun _ _ _ _ _ => pts_nilD) L.el L.fs L.fs1) fun D σ H q => lc2_imp L.hv (frz_imp (asg_imp q))
end
end SV
set_option linter.all false
set_option Elab.async false
set_option maxRecDepth 100000
set_option maxHeartbeats 4000000
namespace SV
open PySem PySem.Spec PyProof.Rows L2
section
variable {X : Cx} {g : Cfg} {c : Tc} {W : WX} {w : SV.W} {x : Str} {i : Nat} {pins : List (Addr × Obj)} {s : Shared} {σ : L2.St} {H : Hp} {ι : Io} {st : S} {CX : CXT} {k : Nat} {f : Addr}
variable {a b d : Expr} {a' b' d' : Ex} {es : List Expr} {es' : Exs} {p pos : Pos} {fra frb frd fr : Bool} {fa fb fd : S → Out (D × S)} {cal : List D → List MO → Out (D × List MO)}
/-- a callee within a built-in function -/
theorem run_in1 (F : FnR X.prog X.w X.K X.mg X.base CX k f (spF g fr cal)) (hr : Room (k + 1) X.A) (px : PassX CX X W) (I : Inv X pins σ H s) (sr : SR g H ι σ st) {us : List Value} {vs : List V} {ds : List D} {Q : VK} (r : Vals vs us) (dn : DenL g H ι ds vs)
    (q : OutP (SV.inS st (cal ds st.m)) (fun p => ∀ v H' ι', Le H ι H' ι' → SR g H' ι' σ p.2 → Den g H' ι' p.1 v → Nw fr g (fun H1 ι1 => Le H ι H1 ι1 ∧ SR g H1 ι1 σ p.2) H' ι' p.1 v → Q v H') (XC g W H ι σ)) :
    codeAny (model X.prog X.w) X.A.in1 (.call (.ref f) ⟨us, []⟩) (fun r s' => match r with | .ok (.ret v) => EP X pins σ Q v s' | .ok _ => False | .error e => X.xe e s') s := by
  rw [OutP.inS] at q
  have h : spF g fr cal vs H Q (fun cls d H' => W cls d σ H') := ⟨ι, ds, st.m, sr.2, dn, q.mono (fun p hp v H' ι' l r dn nw => hp v H' ι' l ⟨sr.1.le l, r⟩ dn (nw.imp fun H1 ι1 z => ⟨z.1, sr.1.le z.1, z.2⟩)) fun c d s z => ⟨z.1, fun cls dd H' ι' l r e => z.2 cls dd σ H' ι' l ⟨sr.1.le l, r⟩ e⟩⟩
  refine codeAny_mono (F X.A.in1 X.stack s H us vs Q _ hr.in1 I.env0.in1 r h) fun r s' hq => ?_
  cases r with
  | error e => exact px pins σ H s _ e s' I hq fun _ _ _ z => z
  | ok fl =>
    cases fl with
    | ret u => exact I.after hq
    | next => exact False.elim hq
    | brk => exact False.elim hq
    | cont => exact False.elim hq
/-- an instance in the heap, for the machine's own rules -/
theorem Inv.inst {C : Addr} {p dx : Addr} {fs : List (Str × V)} (I : Inv X pins σ H s) (e : H p = some (.ins C dx fs)) : ∃ ox od, PySem.W.InstAt s.heap p ox C od := by
  obtain ⟨mA, O, _⟩ := ins_get I.hok e
  obtain ⟨od, J, _⟩ := O.look
  exact ⟨_, _, J⟩
/-- a special method of an own instance -/
theorem spc (T : Fx X g W w CX k) {m : Nat} (h1 : 1 ≤ m) (h5 : m ≤ 5) {x : D} {v : V} {xs : List D} {P : D × S → Prop} {E : Nat → D → S → Prop} (r : Rel g H ι st.m) (dn : Den g H ι x v) (q : OutP (callM w x m xs st) P E) :
    ∃ p cl f dx fs, v = .ref p ∧ H p = some (.ins (g.aC cl) dx fs) ∧ SpcIn X.K (g.aC cl) m (g.aF f) ∧ FnR X.prog X.w X.K X.mg X.base CX k (g.aF f) (spF g (freshB f) (w.call f)) ∧ OutP (SV.inS st (w.call f (x :: xs) st.m)) P E := by
  unfold callM at q
  split at q
  · rename_i cl hcl
    split at q
    · rename_i f hf
      obtain ⟨hc9, _, _, _, hS⟩ := T.mth cl m f hf
      obtain ⟨p, rfl, dx, fs, ea⟩ := dn.insAt r hcl
      exact ⟨p, cl, f, dx, fs, rfl, ea, hS h1 h5, fn_or T q, q⟩
    · exact q.elim
  · exact q.elim
theorem post_off {o : Out (D × S)} {fr' : Bool} {Q : VK} (q : OutP o (fun p => ∀ v H' ι', Le H ι H' ι' → SR g H' ι' σ p.2 → Den g H' ι' p.1 v → Q v H') (XC g W H ι σ)) :
    OutP o (fun p => ∀ v H' ι', Le H ι H' ι' → SR g H' ι' σ p.2 → Den g H' ι' p.1 v → Nw fr' g (fun H1 ι1 => Le H ι H1 ι1 ∧ SR g H1 ι1 σ p.2) H' ι' p.1 v → Q v H') (XC g W H ι σ) :=
  q.mono (fun p hp v H' ι' l r d _ => hp v H' ι' l r d) fun _ _ _ z => z
theorem post_no {o : Out (D × S)} {Q : VK} (q : OutP o (fun p => ∀ v H' ι', Le H ι H' ι' → SR g H' ι' σ p.2 → Den g H' ι' p.1 v → Nw false g (fun H1 ι1 => Le H ι H1 ι1 ∧ SR g H1 ι1 σ p.2) H' ι' p.1 v → Q v H') (XC g W H ι σ)) :
    OutP o (fun p => ∀ v H' ι', Le H ι H' ι' → SR g H' ι' σ p.2 → Den g H' ι' p.1 v → Q v H') (XC g W H ι σ) :=
  q.mono (fun p hp v H' ι' l r d => hp v H' ι' l r d Nw.no) fun _ _ _ z => z
/-- -x -/
theorem neg_X (T : Fx X g W w CX k) : UnX X g W (unaryOp .USub) (negF w) := by
  intro pins s σ H ι x v vv st Q I sr dn rv q
  have own : ∀ (o : OutP (callM w x 2 [] st) (fun p => ∀ v H' ι', Le H ι H' ι' → SR g H' ι' σ p.2 → Den g H' ι' p.1 v → Q v H') (XC g W H ι σ)), wpAny (model X.prog X.w) X.A (unaryOp .USub vv) (EP X pins σ Q) X.xe s := by
    intro o
    obtain ⟨p, cl, f, dx, fs, rfl, ea, S, F, o⟩ := spc T (m := 2) (by omega) (by omega) sr.2 dn o
    cases rv
    obtain ⟨ox, od, J⟩ := Inv.inst I ea
    obtain ⟨m, hF⟩ := I.fr
    exact PySem.W.ksp_neg hF I.ok.mod.kin J S.at_ S.fi (wpAny_call (run_sp (us := [.ref p]) (vs := [.ref p]) F (T.room.mono (by omega)) T.px I sr (.cons rfl .nil) (DenL.cons dn DenL.nil) (post_off o)))
  cases x with
  | int n =>
    simp only [Den] at dn
    subst dn
    exact un_neg pins s σ H _ _ Q I rv ⟨n, rfl, q _ H ι (Le.refl _ _) sr (by simp only [Den])⟩
  | _ => exact own q
theorem ev_neg (T : Fx X g W w CX k) (ha : PE X a (tD g W fra (evE w a'))) : PE X (.UnaryOp .USub a pos) (tD g W false (evE w (.neg a'))) :=
  PE.imp (ev_unX (neg_X T) ha) fun σ H Q q => by simpa only [evE] using q
theorem cmpBack {u : Value} {v : V} {s' : Shared} {R : Value → Shared → Prop} (rv : RelV v u) (h : R u s') : PySem.W.CmpBack R u s' := by
  cases v with
  | non => cases rv; exact h
  | bl b => cases rv; exact h
  | int i => obtain ⟨t, rfl⟩ := rv; exact h
  | str i => obtain ⟨t, rfl⟩ := rv; exact h
  | byt i => obtain ⟨t, rfl⟩ := rv; exact h
  | flt i => obtain ⟨t, rfl⟩ := rv; exact h
  | ref a => cases rv; exact h
  | ty n => cases rv; exact h
/-- x >> y -/
theorem rsh_X (T : Fx X g W w CX k) : OpX X g W false (binaryOp .RShift) (binF w .RShift) := by
  intro pins s σ H ι x y v u vv uu st Q I sr dx dy rv ru q
  unfold binF at q
  rw [if_pos rfl] at q
  split at q
  · rename_i hcc
    have hcx : ∃ cl, clsOf st.m x = some cl := by
      unfold callM at q
      split at q
      · rename_i cl hcl; exact ⟨cl, hcl⟩
      · exact q.elim
    obtain ⟨cl', hcl'⟩ := hcx
    obtain ⟨p', e1, dx1, fs1, ea1⟩ := dx.insAt sr.2 hcl'
    obtain ⟨p2, e2, dx2, fs2, ea2⟩ := dy.insAt sr.2 (hcc ▸ hcl')
    obtain ⟨p, cl, f, dxx, fs, e3, ea, S, F, o⟩ := spc T (m := 5) (by omega) (by omega) sr.2 dx q
    subst e1 e2
    cases e3
    rw [ea1] at ea
    have hC : g.aC cl' = g.aC cl := by
      injection ea with ea
      injection ea with ea
    cases rv
    cases ru
    obtain ⟨ox, od, J⟩ := Inv.inst I ea1
    obtain ⟨ox2, od2, J2⟩ := Inv.inst I ea2
    rw [← hC] at S
    obtain ⟨m, hF⟩ := I.fr
    refine PySem.W.binop_K (op := .RShift) hF I.ok.mod.kin J J2.type S.sf S.at_ S.fi (wpAny_mono (wpAny_call (run_sp (us := [.ref p', .ref p2]) (vs := [.ref p', .ref p2]) F (T.room.mono (by omega)) T.px I sr (.cons rfl (.cons rfl .nil)) (DenL.cons dx (DenL.cons dy DenL.nil)) (post_off (post_no o)))) (fun u s' hu => ?_) fun _ _ z => z)
    obtain ⟨v, H', I', rv, hq⟩ := hu
    exact cmpBack rv ⟨v, H', I', rv, hq⟩
  · exact q.elim
theorem ev_rsh (T : Fx X g W w CX k) (ha : PE X a (tD g W fra (evE w a'))) (hb : PE X b (tD g W frb (evE w b'))) : PE X (.BinOp a .RShift b pos) (tD g W false (evE w (.bin .RShift a' b'))) :=
  PE.imp (ev_binX (rsh_X T) ha hb) fun σ H Q q => by simpa only [evE] using q
/-- x[y] -/
def IxX (X : Cx) (g : Cfg) (W : WX) (fr : Bool) (f : D → D → S → Out (D × S)) : Prop :=
  ∀ (value slice : Expr) (pins : List (Addr × Obj)) (s : Shared) (σ : L2.St) (H : Hp) (ι : Io) (x y : D) (v u : V) (vv uu : Value) (st : S) (Q : VK), Inv X pins σ H s → SR g H ι σ st → Den g H ι x v → Den g H ι y u → RelV v vv → RelV u uu →
    (∀ o i, subscripted slice false o i = operate [o, i] (getItem o i)) → (∀ o i, subscripted slice true o i = runValue (.builtin "lifetime.subscript" ⟨[o, i], []⟩)) →
    OutP (f x y st) (fun p => ∀ v H' ι', Le H ι H' ι' → SR g H' ι' σ p.2 → Den g H' ι' p.1 v → Nw fr g (fun H1 ι1 => Le H ι H1 ι1 ∧ SR g H1 ι1 σ p.2) H' ι' p.1 v → Q v H') (XC g W H ι σ) →
    wpAny (model X.prog X.w) X.A (subscriptTail value slice vv uu) (EP X pins σ Q) X.xe s
theorem subD_calm {m : List MO} {x y : D} : ∀ c d s, subD m x y ≠ .exc c d s := by
  intro c d s
  unfold subD
  split
  · exact calm_gd (fun c d s => calm_opt c d s) c d s
  · unfold subSq
    split
    · exact calm_gd (calm_bind fun _ => calm_bind fun _ _ _ _ z => by cases z) c d s
    · exact calm_bind (fun _ => calm_bind fun _ => calm_opt) c d s
    · intro z; cases z
theorem sub_X (G : Gd X g c) (T : Fx X g W w CX k) : IxX X g W false (subF w) := by
  intro value slice pins s σ H ι x y v u vv uu st Q I sr dx dy rv ru hs hl q
  unfold subF at q
  split at q
  · obtain ⟨p, cl, f, dxx, fs, rfl, ea, S, F, o⟩ := spc T (m := 4) (by omega) (by omega) sr.2 dx q
    cases rv
    obtain ⟨ox, od, J⟩ := Inv.inst I ea
    obtain ⟨m, hF⟩ := I.fr
    exact PySem.W.sub_K hF I.ok.mod.kin J S.at_ S.fn S.fi (wpAny_call (run_in1 (us := [.ref p, uu]) (vs := [.ref p, u]) F (T.room.mono (by omega)) T.px I sr (.cons rfl (.cons ru .nil)) (DenL.cons dx (DenL.cons dy DenL.nil)) (post_off (post_no o)))) (hl _ _)
  · have q := OutP.bnd q
    cases e : subD st.m x y with
    | bad => rw [e] at q; exact q.elim
    | exc c d t => exact absurd e (subD_calm _ _ _)
    | ok z =>
      rw [e] at q
      have hu := G.un
      exact sub_S (g := g) G.K (by omega) value slice pins s σ H v u vv uu Q I rv ru ⟨ι, st.m, x, y, z, sr.2, dx, dy, e, fun w H' ι' l r d n => q w H' ι' l ⟨sr.1.le l, r⟩ d Nw.no⟩ (hs _ _)
theorem ev_sub (G : Gd X g c) (T : Fx X g W w CX k) (ha : PE X a (tD g W fra (evE w a'))) (hb : PE X b (tD g W frb (evE w b'))) (hs : ∀ o i, subscripted b false o i = operate [o, i] (getItem o i)) (hl : ∀ o i, subscripted b true o i = runValue (.builtin "lifetime.subscript" ⟨[o, i], []⟩)) :
    PE X (.Subscript a b pos) (tD g W false (evE w (.sub a' b'))) := by
  refine ⟨fun pins s σ H Q I q => ?_⟩
  obtain ⟨ι, st, sr, o⟩ := q
  simp only [evE] at o
  refine Subscript_ (runD ha I sr (OutP.bnd o) (fun _ _ _ z => z) fun v vv s1 H1 ι1 x st1 I1 r1 l1 sr1 d1 o1 => ?_)
  refine runD hb I1 sr1 (OutP.bnd o1) (fun _ _ _ z => z.mono l1) fun u uu s2 H2 ι2 y st2 I2 r2 l2 sr2 d2 o2 => ?_
  exact sub_X G T a b pins s2 σ H2 ι2 x y v u vv uu st2 Q I2 sr2 (d1.le l2) d2 r1 r2 hs hl (OutP.on (l1.trans l2) o2)
/-- len -/
theorem len_X (T : Fx X g W w CX k) : CaX X g W fr (fun us => call (.builtin "len") us) (bifF w .len) := by
  intro pins s σ H ι xs vs us st Q I sr dn r q
  rcases xs with _ | ⟨x, _ | ⟨y, t⟩⟩
  · exact bi_len pins s σ H ι [] vs us st Q I sr dn r q
  · have q : OutP (lenF w x st) _ _ := q
    unfold lenF at q
    split at q
    · have q := OutP.bnd q
      obtain ⟨v, rfl, dx⟩ := denL1 dn
      cases r with
      | cons rv rt =>
        cases rt
        obtain ⟨p, cl, f, dxx, fs, rfl, ea, S, F, o⟩ := spc T (m := 3) (by omega) (by omega) sr.2 dx q
        cases rv
        obtain ⟨ox, od, J⟩ := Inv.inst I ea
        obtain ⟨m, hF⟩ := I.fr
        refine PySem.W.len_K hF I.ok.mod.kin J S.at_ S.fi (wpAny_mono (wpAny_call (run_in1 (Q := fun v H' => ∃ n : Int, v = .int n ∧ (0 ≤ n ∧ n < 2 ^ 63) ∧ Q (.int n) H') (us := [.ref p]) (vs := [.ref p]) F (T.room.mono (by omega)) T.px I sr (.cons rfl .nil) (DenL.cons dx DenL.nil) (post_off (o.mono (fun pz hz v H' ι' l r d => ?_) fun _ _ _ z => z)))) (fun u s' hu => ?_) fun _ _ z => z)
        · obtain ⟨z, st'⟩ := pz
          dsimp only at hz r d
          cases z with
          | int n =>
            dsimp only at hz
            obtain ⟨h1, hz⟩ := OutP.gd.mp (OutP.bnd hz)
            have h1 := of_decide_eq_true h1
            simp only [Den] at d
            refine ⟨n, d, ⟨h1.1, by omega⟩, hz _ H' ι' l r (by simp only [Den]) (Nw.flat (by intro a; constructor <;> (intro z; cases z)))⟩
          | _ => exact hz.elim
        · obtain ⟨v, H', I', rv, n, rfl, hn, hq⟩ := hu
          obtain ⟨t, rfl⟩ := rv
          exact ⟨hn, ⟨.int n, H', I'.tok _, ⟨_, rfl⟩, hq⟩⟩
    · exact bi_len pins s σ H ι [x] vs us st Q I sr dn r q
  · exact bi_len pins s σ H ι (x :: y :: t) vs us st Q I sr dn r q
end
end SV
set_option linter.all false
set_option Elab.async false
set_option maxRecDepth 100000
set_option maxHeartbeats 4000000
namespace SV
open PySem PySem.Spec PyProof.Rows L2
section
variable {X : Cx} {g : Cfg} {c : Tc} {W : WX} {w : SV.W} {x : Str} {i : Nat} {pins : List (Addr × Obj)} {s : Shared} {σ : L2.St} {H : Hp} {ι : Io} {st : S} {CX : CXT} {k : Nat} {f : Addr}
variable {a b d e : Expr} {a' b' d' : Ex} {es rest : List Expr} {es' : Exs} {p pos : Pos} {fra frb frd fr : Bool} {fa fb fd : S → Out (D × S)}
theorem cmp_S (G : Gd X g c) : ∀ op, OpR X (compareOp op) (rS g false fun m x y => cmpD m op x y)
  | .Eq => rS_or (eq_Sd G.K (by have := G.un; omega)) (eq_Sx G.K (by have := G.un; omega)) fun m x y z h => by
      have h : (match eqD (rslv m x) (rslv m y) with | some b => .ok (.bl b) | none => do .ok (.bl (← opt (eqX (rslv m x) (rslv m y)))) : Out D) = .ok z := h
      split at h
      · rename_i b hb
        cases h
        left
        unfold eqSd
        rw [hb]
        rfl
      · rename_i hb
        right
        obtain ⟨b, h1, h⟩ := opt_ok h
        cases h
        unfold eqX at h1
        unfold eqSx
        split at h1
        · split at h1
          · rename_i h2
            clear h
            cases h1
            rename_i e1 e2
            try rw [e1, e2]
            try dsimp only
            rw [if_pos h2]
          · cases h1
        · split at h1
          · rename_i h2
            clear h
            cases h1
            rename_i e1 e2
            try rw [e1, e2]
            try dsimp only
            rw [if_pos h2]
          · cases h1
        · cases h1
  | .NotEq => ne_Sd G.K (by have := G.un; omega)
  | .Lt => lt_S
  | .Gt => gt_S
  | .LtE => le_S
  | .GtE => ge_S
  | .Is => is_S
  | .IsNot => isnot_S
  | .In => in_S G.K (by have := G.un; omega)
  | .NotIn => notIn_S G.K (by have := G.un; omega)
theorem cmp_calm2 (op : CmpOp) : Calm2 (fun m x y => cmpD m op x y) := cmp_calm op
theorem cmp_X (G : Gd X g c) (op : CmpOp) : OpX X g W false (compareOp op) (cmpF w op) := by
  intro pins s σ H ι x y v u vv uu st Q I sr dx dy rv ru q
  unfold cmpF at q
  split at q
  · exact q.elim
  · exact opX_of (W := W) (cmp_S G op) (cmp_calm2 op) pins s σ H ι x y v u vv uu st Q I sr dx dy rv ru q
theorem ev_cmp {op : CmpOp} (G : Gd X g c) (ha : PE X a (tD g W fra (evE w a'))) (hb : PE X b (tD g W frb (evE w b'))) (hm : behindInMarks op b = false) : PE X (.Compare a [op] [b] pos) (tD g W false (evE w (.cmp op a' b'))) :=
  PE.imp (ev_cmpX (cmp_X (w := w) G op) ha hb hm) fun σ H Q q => by simpa only [evE] using q
theorem pt_cmp {op : CmpOp} (G : Gd X g c) (ha : PE X a (tD g W fra (evE w a'))) (hb : PE X b (tD g W frb (evE w b'))) (hm : behindInMarks op b = false) : PT X (.Compare a [op] [b] pos) (tDb g W (bE (evE w (.cmp op a' b')))) :=
  PT.imp (pt_cmpX (cmp_X (w := w) G op) ha hb hm) fun σ H Q q => by
    obtain ⟨ι, st, sr, o⟩ := q
    exact ⟨ι, st, sr, by simpa only [bE, evE] using o⟩
/-- within a chain of comparisons: by data alone -/
theorem cmpD_X (G : Gd X g c) (op : CmpOp) : OpX X g W false (compareOp op) (calmF fun m x y => cmpD m op x y) := opX_of (cmp_S G op) (cmp_calm2 op)
theorem chn_eq {o1 o2 : CmpOp} : evE w (.chn o1 o2 a' b' d') = chnF (calmF fun m x y => cmpD m o1 x y) (calmF fun m x y => cmpD m o2 x y) (evE w a') (evE w b') (evE w d') := by
  funext s
  simp only [evE, chnF, calmF]
  cases evE w a' s with
  | ok p =>
    obtain ⟨x, s1⟩ := p
    show (evE w b' s1 >>= _) = (evE w b' s1 >>= _)
    cases evE w b' s1 with
    | ok q =>
      obtain ⟨y, s2⟩ := q
      show (cmpD s2.m o1 x y >>= fun z => asBool z >>= _) = ((cmpD s2.m o1 x y >>= fun z => Out.ok (z, s2)) >>= _)
      cases cmpD s2.m o1 x y <;> rfl
    | exc c d t => rfl
    | bad => rfl
  | exc c d t => rfl
  | bad => rfl
theorem ev_chn {o1 o2 : CmpOp} (G : Gd X g c) (ha : PE X a (tD g W fra (evE w a'))) (hb : PE X b (tD g W frb (evE w b'))) (hd : PE X d (tD g W frd (evE w d'))) (hm : lastMarks [o1, o2] [b, d] = false) :
    PE X (.Compare a [o1, o2] [b, d] pos) (tD g W false (evE w (.chn o1 o2 a' b' d'))) := by
  rw [chn_eq]
  exact ev_chnX (cmpD_X G o1) (cmpD_X G o2) ha hb hd hm
theorem pt_chn {o1 o2 : CmpOp} (G : Gd X g c) (ha : PE X a (tD g W fra (evE w a'))) (hb : PE X b (tD g W frb (evE w b'))) (hd : PE X d (tD g W frd (evE w d'))) (hm : lastMarks [o1, o2] [b, d] = false) :
    PT X (.Compare a [o1, o2] [b, d] pos) (tDb g W (bE (evE w (.chn o1 o2 a' b' d')))) := by
  rw [chn_eq]
  exact pt_chnX (cmpD_X G o1) (cmpD_X G o2) ha hb hd hm
theorem and_eq : evE w (.and a' b') = andF (evE w a') (evE w b') := by funext s; simp only [evE, andF]
theorem or_eq : evE w (.or a' b') = orF (evE w a') (evE w b') := by funext s; simp only [evE, orF]
theorem not_eq : evE w (.not a') = notF (evE w a') := by funext s; simp only [evE, notF]
theorem ite_eq : evE w (.ite a' b' d') = iteF (evE w a') (evE w b') (evE w d') := by funext s; simp only [evE, iteF]
theorem ev_and2 (ha : PE X a (tD g W fra (evE w a'))) (hb : PE X (.BoolOp .And (b :: rest) pos) (tD g W frb (evE w b'))) : PE X (.BoolOp .And (a :: b :: rest) pos) (tD g W false (evE w (.and a' b'))) := by
  rw [and_eq]; exact ev_and ha hb
theorem ev_or2 (ha : PE X a (tD g W fra (evE w a'))) (hb : PE X (.BoolOp .Or (b :: rest) pos) (tD g W frb (evE w b'))) : PE X (.BoolOp .Or (a :: b :: rest) pos) (tD g W false (evE w (.or a' b'))) := by
  rw [or_eq]; exact ev_or ha hb
theorem ev_bool1 {op : BoolOp} (ha : PE X a (tD g W fr fa)) : PE X (.BoolOp op [a] pos) (tD g W fr fa) := pe_one ha
theorem ev_not2 (ha : PE X a (tD g W fra (evE w a'))) : PE X (.UnaryOp .Not a pos) (tD g W false (evE w (.not a'))) := by
  rw [not_eq]; exact ev_not ha
theorem ev_ite2 (hc : PT X e (tDb g W (bE (evE w d')))) (ha : PE X a (tD g W fr (evE w a'))) (hb : PE X b (tD g W fr (evE w b'))) : PE X (.IfExp e a b pos) (tD g W fr (evE w (.ite d' a' b'))) := by
  rw [ite_eq]; exact ev_ite hc ha hb
theorem pw_and2 (ha : PT X a (tDb g W (bE (evE w a')))) (hb : PW X (.BoolOp .And (b :: rest) pos) (tDb g W (bE (evE w b')))) : PW X (.BoolOp .And (a :: b :: rest) pos) (tDb g W (bE (evE w (.and a' b')))) := by
  rw [and_eq]; exact pw_andD ha hb
theorem pw_or2 (ha : PT X a (tDb g W (bE (evE w a')))) (hb : PW X (.BoolOp .Or (b :: rest) pos) (tDb g W (bE (evE w b')))) : PW X (.BoolOp .Or (a :: b :: rest) pos) (tDb g W (bE (evE w (.or a' b')))) := by
  rw [or_eq]; exact pw_orD ha hb
theorem pw_and1D (ha : PT X a (tDb g W (bE fa))) : PW X (.BoolOp .And [a] pos) (tDb g W (bE fa)) := pw_and1 ha
theorem pw_or1D (ha : PT X a (tDb g W (bE fa))) : PW X (.BoolOp .Or [a] pos) (tDb g W (bE fa)) := pw_or1 ha
theorem pt_not2 (ha : PT X a (tDb g W (bE (evE w a')))) : PT X (.UnaryOp .Not a pos) (tDb g W (bE (evE w (.not a')))) := by
  rw [not_eq]; exact pt_notD ha
theorem pt_ite2 (hc : PT X e (tDb g W (bE (evE w d')))) (ha : PT X a (tDb g W (bE (evE w a')))) (hb : PT X b (tDb g W (bE (evE w b')))) : PT X (.IfExp e a b pos) (tDb g W (bE (evE w (.ite d' a' b')))) := by
  rw [ite_eq]; exact pt_iteD hc ha hb
end
end SV
set_option linter.all false
set_option Elab.async false
set_option maxRecDepth 100000
set_option maxHeartbeats 4000000
namespace SV
open PySem PySem.Spec PyProof.Rows L2
section
variable {X : Cx} {g : Cfg} {c : Tc} {W : WX} {w : SV.W} {x : Str} {i : Nat} {pins : List (Addr × Obj)} {s : Shared} {σ : L2.St} {H : Hp} {ι : Io} {st : S} {CX : CXT} {k : Nat} {f : Nat}
variable {a b d e : Expr} {a' b' d' : Ex} {es rest : List Expr} {es' : Exs} {p pos sp_ : Pos} {fra frb frd fr frr : Bool} {fa fb fd : S → Out (D × S)} {ex : Option (Nat × SV.D)}
theorem Fx.blk {s : Shared} {H : Hp} {scope : Scope} {cenv : Env} {fp : List Addr} (T : Fx X g W w CX k) : Fx (X.blk s H scope cenv fp) g W0 w CX k where
  room := T.room
  px := fun pins σ H s E e s' I h q => T.pxF H s e s' (T.mono H s E _ e s' h q)
  pxF := T.pxF
  cls := T.cls
  fld := T.fld
  kcon := T.kcon
  fn := T.fn
  gfn := T.gfn
  gcl := T.gcl
  mono := T.mono
  own := PassesOwn.never
  mth := T.mth
  ins := T.ins
  isi := fun t ht => ⟨(T.isi t ht).mg, (T.isi t ht).kb, (T.isi t ht).ko⟩
  cI := T.cI
  cS := T.cS
  cv := T.cv
  blt := T.blt
theorem CaX.wk {fr fr' : Bool} {h : List Value → Sem Value} {F : List D → S → Out (D × S)} (c : CaX X g W fr' h F) (k : fr = true → fr' = true) : CaX X g W fr h F := by
  intro pins s σ H ι xs vs us st Q I sr dn r q
  exact c pins s σ H ι xs vs us st Q I sr dn r (q.mono (fun p hp v H' ι' l r dn nw => hp v H' ι' l r dn (nw.wk k)) fun _ _ _ z => z)
/-- a def keeps its promise, also where SV makes nothing of it -/
theorem fn_all (T : Fx X g W w CX k) (i : Nat) : FnR X.prog X.w X.K X.mg X.base CX k (g.aF i) (spF g (freshB i) (w.call i)) := by
  rcases T.fn i with h | h
  · intro A outer s H us vs Q E _ _ _ q
    obtain ⟨ι, ds, M, _, _, o⟩ := q
    rw [h] at o
    exact o.elim
  · exact h
theorem ca_def (T : Fx X g W w CX k) (hfr : fr = true → freshB f = true) : CaX X g W fr (fun us => call (.ref (g.aF f)) us) (fun xs s => SV.inS s (w.call f xs s.m)) := (ca_fn (fn_all T f) (T.room.mono (by omega)) T.px).wk hfr
theorem cal_eq : evE w (.cal f es') = appF (evEs w es') (fun xs s => SV.inS s (w.call f xs s.m)) := by funext s; simp only [evE, appF]
theorem ctr_eq : evE w (.ctr f es') = appF (evEs w es') (makeD w f) := by funext s; simp only [evE, appF]
theorem bif_eq {b : Bi} : evE w (.bif b es') = appF (evEs w es') (bifF w b) := by funext s; simp only [evE, appF]
/-- f(..), a def of the text -/
theorem ev_cal (G : Gd X g c) (T : Fx X g W w CX k) (hx : isGlob c x = true) (hf : (x, f) ∈ g.fns) (hfr : fr = true → freshB f = true) (ha : PA X (a :: es) (tDs g W (evEs w es'))) (h1 : (a :: es).all noStar = true) :
    PE X (.Call (.Name x p) (a :: es) [] pos) (tD g W fr (evE w (.cal f es'))) := by
  rw [cal_eq]
  exact ev_call1 G hx (T.gfn x f hf).1 (T.gfn x f hf).2 (ca_def T hfr) ha h1
theorem ev_cal0 (G : Gd X g c) (T : Fx X g W w CX k) (hx : isGlob c x = true) (hf : (x, f) ∈ g.fns) (hfr : fr = true → freshB f = true) :
    PE X (.Call (.Name x p) [] [] pos) (tD g W fr (evE w (.cal f .nil))) := by
  rw [cal_eq]
  exact ev_call0 G hx (T.gfn x f hf).1 (T.gfn x f hf).2 (ca_def T hfr)
theorem ca_ctr (T : Fx X g W w CX k) (hf : (x, f) ∈ g.clss) : CaX X g W false (fun us => call (.ref (g.aC f)) us) (makeD w f) :=
  ca_cls (T.gcl x f hf).1 (T.gcl x f hf).2.2.2 (fn_all T _) (T.room.mono (by omega)) T.px
/-- C(..) -/
theorem ev_ctr (G : Gd X g c) (T : Fx X g W w CX k) (hx : isGlob c x = true) (hf : (x, f) ∈ g.clss) (ha : PA X (a :: es) (tDs g W (evEs w es'))) (h1 : (a :: es).all noStar = true) :
    PE X (.Call (.Name x p) (a :: es) [] pos) (tD g W false (evE w (.ctr f es'))) := by
  rw [ctr_eq]
  exact ev_call1 G hx (T.gcl x f hf).2.1 (T.gcl x f hf).2.2.1 (ca_ctr T hf) ha h1
theorem ev_ctr0 (G : Gd X g c) (T : Fx X g W w CX k) (hx : isGlob c x = true) (hf : (x, f) ∈ g.clss) :
    PE X (.Call (.Name x p) [] [] pos) (tD g W false (evE w (.ctr f .nil))) := by
  rw [ctr_eq]
  exact ev_call0 G hx (T.gcl x f hf).2.1 (T.gcl x f hf).2.2.1 (ca_ctr T hf)
theorem ev_ctrS (G : Gd X g c) (T : Fx X g W w CX k) (hx : isGlob c x = true) (hf : (x, f) ∈ g.clss) (ha : PE X a (tD g W fra (evE w a'))) :
    PE X (.Call (.Name x p) [.Starred a sp_] [] pos) (tD g W false (evE w (.ctr f (.star a' .nil)))) := by
  rw [ctr_eq]
  exact ev_callS G hx (T.gcl x f hf).2.1 (T.gcl x f hf).2.2.1 (ca_ctr T hf) ha
/-- built-in functions, built-in types -/
theorem ev_bifB {b : Bi} {id : String} (G : Gd X g c) (hx : isGlob c x = true) (hm : X.mg x = none) (hv : bootBuiltins x = some (.builtin id)) (hC : CaX X g W fr (fun us => call (.builtin id) us) (bifF w b)) (ha : PA X (a :: es) (tDs g W (evEs w es'))) (h1 : (a :: es).all noStar = true) :
    PE X (.Call (.Name x p) (a :: es) [] pos) (tD g W fr (evE w (.bif b es'))) := by
  rw [bif_eq]
  exact ev_callB G hx hm hv hC ha h1
theorem ev_bifT {b : Bi} {id : String} (G : Gd X g c) (hx : isGlob c x = true) (hm : X.mg x = none) (hv : bootBuiltins x = some (.type id)) (hC : CaX X g W fr (fun us => call (.type id) us) (bifF w b)) (ha : PA X (a :: es) (tDs g W (evEs w es'))) (h1 : (a :: es).all noStar = true) :
    PE X (.Call (.Name x p) (a :: es) [] pos) (tD g W fr (evE w (.bif b es'))) := by
  rw [bif_eq]
  exact ev_callTy G hx hm hv hC ha h1
theorem bi_F {b : Bi} {h : List Value → Sem Value} (hb : b ≠ .len) (k : CaX X g W fr h (fun xs s => do let z ← biD s.m b xs; .ok (z, s))) : CaX X g W fr h (bifF w b) := by
  have e : bifF w b = (fun xs s => do let z ← biD s.m b xs; .ok (z, s)) := by
    funext xs s
    cases b <;> first | exact absurd rfl hb | rfl
  rw [e]
  exact k
/-- int(an int or a bool) alone -/
theorem bi_intF : CaX X g W fr (fun us => call (.type "int") us) (fun xs s => do let z ← (match xs with | [.int i] => Out.ok (D.int i) | [.bl b] => .ok (.int (if b then 1 else 0)) | _ => .bad); .ok (z, s)) := bi_int
/-- a statement that raises, where nothing is said of exceptions -/
theorem ps_rse0 {st : Stmt} {cl : Nat} (hx : g.xp = false) : PS X st (tS g W frr (exS w ex (.rse cl a'))) :=
  PS.imp ps_never fun D σ H q => by
    obtain ⟨ι, st, sr, o⟩ := q
    simp only [exS] at o
    cases e : evE w a' st with
    | bad => rw [e] at o; exact o.elim
    | exc c d t => rw [e] at o; have := o.1; rw [hx] at this; cases this
    | ok p =>
      rw [e] at o
      have := o.1
      rw [hx] at this
      cases this
theorem ps_forE {tg it : Expr} {t : Tg} {i' : SV.It} {bd : List Stmt} {fb : List Sm} (G : Gd X g c) (T : Fx X g W w CX k) (hi : PI X tg it (iD g W (evI w i'))) (hg : PG X tg (gD g W (asg w t))) (hb : PSs X bd (tS g W frr (exSs w ex fb)))
    (hs : ∀ x, foldedSetIterable it X.env x = pure x) : PS X (.For tg it bd [] pos) (tS g W frr (exS w ex (.for t i' fb))) := ps_forD G T.own hi hg hb hs
end
end SV
set_option linter.all false
set_option Elab.async false
set_option maxRecDepth 100000
set_option maxHeartbeats 4000000
namespace SV
open PySem PySem.Spec PyProof.Rows L2
section
variable {X : Cx} {g : Cfg} {c : Tc} {W : WX} {w : SV.W} {x : Str} {i : Nat} {H : Hp} {ι : Io} {m : List MO} {fr : Bool} {k : Nat}
theorem natOf_digits : ∀ (l : List Nat) (a n : Nat), natOf l a = some n → NumText.AllDigits l ∧ l.foldl (fun n c => n * 10 + (c - 48)) a = n
  | [], a, n, h => by simp only [natOf, Option.some.injEq] at h; subst h; exact ⟨fun c hc => (List.not_mem_nil hc).elim, rfl⟩
  | c :: r, a, n, h => by
    simp only [natOf, digVal] at h
    split at h
    · rename_i k hk
      split at hk
      · rename_i hc
        simp only [Option.some.injEq] at hk
        subst hk
        obtain ⟨h1, h2⟩ := natOf_digits r _ n h
        refine ⟨fun d hd => ?_, h2⟩
        rcases List.mem_cons.mp hd with rfl | hd
        · exact hc
        · exact h1 d hd
      · cases hk
    · cases h
theorem intOf_text {s : Str} {n : Int} (hl : s.length ≤ 600) (h : intOf s = some n) : PySem.intText? s = some n := by
  unfold intOf at h
  split at h
  · cases h
  · rename_i r hr
    split at h
    · cases h
    · rename_i hne
      split at h
      · rename_i k h1
        cases h
        obtain ⟨h2, h3⟩ := natOf_digits _ _ _ h1
        rw [PySem.intText_neg hr h2 (by intro e; rw [e] at hne; exact hne rfl) (by omega)]
        rw [← h3]
        rfl
      · cases h
  · rename_i hne _
    split at h
    · rename_i k h1
      cases h
      obtain ⟨h2, h3⟩ := natOf_digits _ _ _ h1
      rw [PySem.intText_digits h2 (by intro e; exact hne e) (by omega)]
      rw [← h3]
      rfl
    · cases h
theorem bi_intS : CaX X g W fr (fun us => call (.type "int") us) (bifF w .int) :=
  bi_F (by intro z; cases z) (ca_of (f := fun m xs => biD m .int xs) (CallR.or call_int1 call_int_str) (fun H ι m xs vs z Q r dn e k => by
    have e : biInt xs = .ok z := e
    unfold biInt at e
    split at e
    · cases e
      obtain ⟨v, rfl, d⟩ := denL1 dn
      simp only [Den] at d
      subst d
      exact .inl (.inl ⟨_, rfl, qi r k rfl⟩)
    · cases e
      obtain ⟨v, rfl, d⟩ := denL1 dn
      simp only [Den] at d
      subst d
      exact .inl (.inr ⟨_, rfl, qi r k rfl⟩)
    · obtain ⟨h1, e⟩ := gd_ok e
      obtain ⟨n, h2, e⟩ := opt_ok e
      cases e
      have h1 := of_decide_eq_true h1
      obtain ⟨v, rfl, d⟩ := denL1 dn
      simp only [Den] at d
      subst d
      exact .inr ⟨_, n, rfl, intOf_text h1 h2, by omega, qi r k rfl⟩
    · cases e) (fun m xs c d s => by
    show biInt xs ≠ _
    unfold biInt
    split
    · intro z; cases z
    · intro z; cases z
    · exact calm_gd (calm_bind fun _ _ _ _ z => by cases z) c d s
    · intro z; cases z))
theorem log_lt {n k : Nat} (hk : 0 < k) (h : n < 2 ^ k) : n.log2 < k := by
  by_cases h0 : n = 0
  · subst h0; simpa using hk
  · exact (Nat.log2_lt h0).mpr h
theorem bi_str : CaX X g W fr (fun us => call (.type "str") us) (bifF w .str) :=
  bi_F (by intro z; cases z) (ca_of (f := fun m xs => biD m .str xs) call_str_int (fun H ι m xs vs z Q r dn e k => by
    have e : biStr xs = .ok z := e
    unfold biStr at e
    split at e
    · obtain ⟨h1, e⟩ := gd_ok e
      cases e
      have h1 := of_decide_eq_true h1
      obtain ⟨v, rfl, d⟩ := denL1 dn
      simp only [Den] at d
      subst d
      exact ⟨_, rfl, Nat.lt_of_lt_of_le (log_lt (by decide) h1) (by decide), qs r k rfl⟩
    · cases e) (fun m xs c d s => by
    show biStr xs ≠ _
    unfold biStr
    split
    · exact calm_gd (fun _ _ _ z => by cases z) c d s
    · intro z; cases z))
end
end SV
set_option linter.all false
set_option Elab.async false
set_option maxRecDepth 100000
set_option maxHeartbeats 4000000
namespace SV
open PySem PySem.Spec PyProof.Rows L2
/-- what a law's text has -/
structure Gt (g : Cfg) (fns : List (Str × Nat)) (clss : List (Str × Nat)) (asks : List Nat) (cnI : List (Str × Int)) (cnS : List (Str × Str)) : Prop where
  fns : g.fns = fns
  clss : g.clss = clss
  asks : g.asks = asks
  cnI : g.cnI = cnI
  cnS : g.cnS = cnS
  xp : g.xp = false
theorem mem_of {α : Type} [DecidableEq α] {l k : List α} {x : α} (e : l = k) (h : decide (x ∈ k) = true) : x ∈ l := by subst e; exact of_decide_eq_true h
/-- own names of a block by slot -/
def ownL (N : List Str) (sc : Scope) : List (Str × Nat) := sc.names.filterMap fun (n, k) => if k == .local || k == .cell then (ixIn n N).map fun i => (n, i) else none
section
variable {X : Cx} {g : Cfg} {c : Tc} {W : WX} {w : SV.W} {x : Str} {i : Nat} {pins : List (Addr × Obj)} {s : Shared} {σ : L2.St} {H : Hp} {ι : Io} {st : S} {CX : CXT} {k : Nat} {f : Nat}
variable {a b d e : Expr} {a' b' d' : Ex} {es rest : List Expr} {es' : Exs} {p pos sp_ : Pos} {fra frb frd fr frr : Bool} {fa fb fd : S → Out (D × S)} {ex : Option (Nat × SV.D)}
theorem loc_G (G : Gd X g c) (h : (c.sc.names.lookup x == some .local) = true) : X.env.scope.names.lookup x = some .local := by rw [G.sc]; exact eq_of_beq h
theorem Loc_G (G : Gd X g c) (h : (c.sc.names.lookup x == some .local || c.sc.names.lookup x == some .cell) = true) : L2.Loc X.env.scope x := by
  unfold L2.Loc
  rw [G.sc]
  rcases Bool.or_eq_true_iff.mp h with h | h
  · exact .inl (eq_of_beq h)
  · exact .inr (eq_of_beq h)
theorem blk_G {scope : Scope} {own : List (Str × Nat)} (G : Gd X g c) (h : blkC c.N c.sc scope own = true) : BlkOk X.N X.env.scope scope own := by
  rw [G.sc, G.N]
  exact blkOk_by h
theorem ev_fld2 {f : Nat} {m : Str} (G : Gd X g c) (T : Fx X g W w CX k) (hm : fname f = m) (hab : ab0 a = true) (ha : PE X a (tD g W fra (evE w a'))) : PE X (.Attribute a m pos) (tD g W false (evE w (.fld a' f))) :=
  PE.imp (ev_fld G T hm hab ha) fun σ H Q q => by simpa only [evE] using q
theorem ev_appC (T : Fx X g W w CX k) (ha : PE X a (tD g W fra (evE w a'))) (hes : PA X (b :: es) (tDs g W (evEs w es'))) (h1 : (b :: es).all noStar = true)
    (ht : eval (.Call a (b :: es) [] pos) X.env = (do callWith pos (← eval a X.env) [] (backTo pos (starEach (b :: es) X.env)) (backToKw pos (keywordEach [] X.env))) := by rfl) :
    PE X (.Call a (b :: es) [] pos) (tD g W false (evE w (.app a' es'))) := ev_app T ha hes h1 ht
variable {elt tg iter tg1 iter1 : Expr} {ifs : List Expr} {scope : Scope} {own own1 : List Nat} {e' : Ex} {t t1 : Tg} {it' it1' : SV.It} {ifs' : Exs}
theorem blkI {P : Cx → Prop} (G : Gd X g c) (T : Fx X g W w CX k) (h : ∀ X', Gd X' g { c with sc := relS' scope c.sc } → Fx X' g W0 w CX k → (∀ x, X'.fn x = (scope.names.lookup x == some .cell)) → P X') :
    ∀ (s : Shared) (H : Hp) (C : Addr) (cl : List (Str × Addr)) (fp : List Addr), P (X.blk s H scope (compEnvC scope cl C X.env) fp) := fun _ _ _ _ _ => h _ G.blk T.blk (fun _ => rfl)
theorem ev_lcA (G : Gd X g c) (T : Fx X g W w CX k) (ho : ((ownL c.N scope).map (·.2) == own) = true) (hb : blkC c.N c.sc scope (ownL c.N scope) = true)
    (it : PI X tg iter (iD g W (evI w it'))) (hg : ∀ X' : Cx, Gd X' g { c with sc := relS' scope c.sc } → Fx X' g W0 w CX k → (∀ x, X'.fn x = (scope.names.lookup x == some .cell)) → PG X' tg (gW g own (asg w t)))
    (ts : ∀ X' : Cx, Gd X' g { c with sc := relS' scope c.sc } → Fx X' g W0 w CX k → (∀ x, X'.fn x = (scope.names.lookup x == some .cell)) → PTs X' ifs (tDb g W0 (evA w ifs')))
    (el : ∀ X' : Cx, Gd X' g { c with sc := relS' scope c.sc } → Fx X' g W0 w CX k → (∀ x, X'.fn x = (scope.names.lookup x == some .cell)) → PE X' elt (tD g W0 false (evE w e'))) (fs : ∀ x, foldedSetIterable iter X.env x = pure x) :
    PE X (.ListComp elt [⟨tg, iter, ifs, 0⟩] scope pos) (tD g W false (evE w (.lc e' own t it' ifs'))) := by
  have ho := eq_of_beq ho
  subst ho
  exact ev_lc G ⟨it, blk_G G hb, blkI G T hg, blkI G T ts, blkI G T el, fs⟩
theorem ps_setLcA {y : Str} {py spos : Pos} (G : Gd X g c) (T : Fx X g W w CX k) (hy : slotOf c y = some i) (hyl : (c.sc.names.lookup y == some .local) = true) (hsw : swapsWith (.ListComp elt [⟨tg, iter, ifs, 0⟩] scope pos) (some (.Name y py)) spos.line X.env = pure true)
    (ho : ((ownL c.N scope).map (·.2) == own) = true) (hb : blkC c.N c.sc scope (ownL c.N scope) = true)
    (it : PI X tg iter (iD g W (evI w it'))) (hg : ∀ X' : Cx, Gd X' g { c with sc := relS' scope c.sc } → Fx X' g W0 w CX k → (∀ x, X'.fn x = (scope.names.lookup x == some .cell)) → PG X' tg (gW g own (asg w t)))
    (ts : ∀ X' : Cx, Gd X' g { c with sc := relS' scope c.sc } → Fx X' g W0 w CX k → (∀ x, X'.fn x = (scope.names.lookup x == some .cell)) → PTs X' ifs (tDb g W0 (evA w ifs')))
    (el : ∀ X' : Cx, Gd X' g { c with sc := relS' scope c.sc } → Fx X' g W0 w CX k → (∀ x, X'.fn x = (scope.names.lookup x == some .cell)) → PE X' elt (tD g W0 false (evE w e'))) (fs : ∀ x, foldedSetIterable iter X.env x = pure x) :
    PS X (.Assign [.Name y py] (.ListComp elt [⟨tg, iter, ifs, 0⟩] scope pos) spos) (tS g W frr (exS w ex (.asg (.name i) (.frz (.lc e' own t it' ifs'))))) := by
  have ho := eq_of_beq ho
  subst ho
  exact ps_setLcF G ⟨it, blk_G G hb, blkI G T hg, blkI G T ts, blkI G T el, fs⟩ hy (loc_G G hyl) hsw
theorem ps_setLcB {y : Str} {py spos : Pos} (G : Gd X g c) (T : Fx X g W w CX k) (hy : slotOf c y = some i) (hyl : (c.sc.names.lookup y == some .local) = true) (hsw : swapsWith (.ListComp elt [⟨tg, iter, ifs, 0⟩] scope pos) (some (.Name y py)) spos.line X.env = pure true)
    (ho : ((ownL c.N scope).map (·.2) == own) = true) (hb : blkC c.N c.sc scope (ownL c.N scope) = true)
    (it : PI X tg iter (iD g W (evI w it'))) (hg : ∀ X' : Cx, Gd X' g { c with sc := relS' scope c.sc } → Fx X' g W0 w CX k → (∀ x, X'.fn x = (scope.names.lookup x == some .cell)) → PG X' tg (gW g own (asg w t)))
    (ts : ∀ X' : Cx, Gd X' g { c with sc := relS' scope c.sc } → Fx X' g W0 w CX k → (∀ x, X'.fn x = (scope.names.lookup x == some .cell)) → PTs X' ifs (tDb g W0 (evA w ifs')))
    (el : ∀ X' : Cx, Gd X' g { c with sc := relS' scope c.sc } → Fx X' g W0 w CX k → (∀ x, X'.fn x = (scope.names.lookup x == some .cell)) → PE X' elt (tD g W0 false (evE w e'))) (fs : ∀ x, foldedSetIterable iter X.env x = pure x) :
    PS X (.Assign [.Name y py] (.ListComp elt [⟨tg, iter, ifs, 0⟩] scope pos) spos) (tS g W frr (exS w ex (.asg (.name i) (.lc e' own t it' ifs')))) := by
  have ho := eq_of_beq ho
  subst ho
  exact ps_setLcD G ⟨it, blk_G G hb, blkI G T hg, blkI G T ts, blkI G T el, fs⟩ hy (loc_G G hyl) hsw
theorem ev_lc2A (G : Gd X g c) (T : Fx X g W w CX k) (ho : ((ownL c.N scope).map (·.2) == own) = true) (hb : blkC c.N c.sc scope (ownL c.N scope) = true) (hv : (own1.all fun i => own.contains i) = true)
    (it : PI X tg iter (iD g W (evI w it'))) (hg : ∀ X' : Cx, Gd X' g { c with sc := relS' scope c.sc } → Fx X' g W0 w CX k → (∀ x, X'.fn x = (scope.names.lookup x == some .cell)) → PG X' tg (gW g own (asg w t)))
    (it1 : ∀ X' : Cx, Gd X' g { c with sc := relS' scope c.sc } → Fx X' g W0 w CX k → (∀ x, X'.fn x = (scope.names.lookup x == some .cell)) → PI X' tg1 iter1 (iD g W0 (evI w it1')))
    (hg1 : ∀ X' : Cx, Gd X' g { c with sc := relS' scope c.sc } → Fx X' g W0 w CX k → (∀ x, X'.fn x = (scope.names.lookup x == some .cell)) → PG X' tg1 (gW g own1 (asg w t1)))
    (el : ∀ X' : Cx, Gd X' g { c with sc := relS' scope c.sc } → Fx X' g W0 w CX k → (∀ x, X'.fn x = (scope.names.lookup x == some .cell)) → PE X' elt (tD g W0 false (evE w e'))) (fs : ∀ x, foldedSetIterable iter X.env x = pure x) (fs1 : ∀ env x, foldedSetIterable iter1 env x = pure x) :
    PE X (.ListComp elt [⟨tg, iter, [], 0⟩, ⟨tg1, iter1, [], 0⟩] scope pos) (tD g W false (evE w (.lc2 e' own own1 t it' t1 it1'))) := by
  have ho := eq_of_beq ho
  subst ho
  exact ev_lc2 G ⟨it, blk_G G hb, fun i hi => by rw [List.all_eq_true] at hv; simpa using hv i hi, blkI G T hg, blkI G T it1, blkI G T hg1, blkI G T el, fs, fs1⟩
theorem ps_setLc2A {y : Str} {py spos : Pos} (G : Gd X g c) (T : Fx X g W w CX k) (hy : slotOf c y = some i) (hyl : (c.sc.names.lookup y == some .local) = true) (hsw : swapsWith (.ListComp elt [⟨tg, iter, [], 0⟩, ⟨tg1, iter1, [], 0⟩] scope pos) (some (.Name y py)) spos.line X.env = pure true)
    (ho : ((ownL c.N scope).map (·.2) == own) = true) (hb : blkC c.N c.sc scope (ownL c.N scope) = true) (hv : (own1.all fun i => own.contains i) = true)
    (it : PI X tg iter (iD g W (evI w it'))) (hg : ∀ X' : Cx, Gd X' g { c with sc := relS' scope c.sc } → Fx X' g W0 w CX k → (∀ x, X'.fn x = (scope.names.lookup x == some .cell)) → PG X' tg (gW g own (asg w t)))
    (it1 : ∀ X' : Cx, Gd X' g { c with sc := relS' scope c.sc } → Fx X' g W0 w CX k → (∀ x, X'.fn x = (scope.names.lookup x == some .cell)) → PI X' tg1 iter1 (iD g W0 (evI w it1')))
    (hg1 : ∀ X' : Cx, Gd X' g { c with sc := relS' scope c.sc } → Fx X' g W0 w CX k → (∀ x, X'.fn x = (scope.names.lookup x == some .cell)) → PG X' tg1 (gW g own1 (asg w t1)))
    (el : ∀ X' : Cx, Gd X' g { c with sc := relS' scope c.sc } → Fx X' g W0 w CX k → (∀ x, X'.fn x = (scope.names.lookup x == some .cell)) → PE X' elt (tD g W0 false (evE w e'))) (fs : ∀ x, foldedSetIterable iter X.env x = pure x) (fs1 : ∀ env x, foldedSetIterable iter1 env x = pure x) :
    PS X (.Assign [.Name y py] (.ListComp elt [⟨tg, iter, [], 0⟩, ⟨tg1, iter1, [], 0⟩] scope pos) spos) (tS g W frr (exS w ex (.asg (.name i) (.frz (.lc2 e' own own1 t it' t1 it1'))))) := by
  have ho := eq_of_beq ho
  subst ho
  exact ps_setLc2F G ⟨it, blk_G G hb, fun i hi => by rw [List.all_eq_true] at hv; simpa using hv i hi, blkI G T hg, blkI G T it1, blkI G T hg1, blkI G T el, fs, fs1⟩ hy (loc_G G hyl) hsw
/-- built-ins by name -/
theorem blt_of (T : Fx X g W w CX k) (h : bltNames.contains x = true) : X.mg x = none := T.blt x h
end
end SV
set_option linter.all false
namespace SV
open PySem
def F0 : Fn := ⟨3, 3, false, false, [
  .ret (.and (.isi (.var 0) .int) (.and (.not (.isi (.var 0) .bool)) (.chn .LtE .LtE (.var 1) (.var 0) (.var 2))))]⟩
def F1 : Fn := ⟨3, 3, false, false, [
  .ifs (.not (.cal 0 (.cons (.var 0) (.cons (.var 1) (.cons (.var 2) .nil))))) [
    .rse 21 (.cst .non)] []]⟩
def F2 : Fn := ⟨2, 4, false, false, [
  .ifs (.not (.isi (.var 0) .list)) [
    .rse 24 (.cst (.int 0))] [],
  .for (.tup (.cons (.name 2) (.cons (.name 3) .nil))) (.enm (.var 0)) [
    .ifs (.or (.cmp .Eq (.var 2) (.var 1)) (.not (.cal 0 (.cons (.var 3) (.cons (.bin .Sub (.cst (.int 0)) (.cst (.int 1000000000))) (.cons (.cst (.int 1000000000)) .nil)))))) [
      .rse 24 (.var 2)] []]]⟩
def F3 : Fn := ⟨1, 1, false, true, [
  .asg (.att (.var 0) 0) (.kcn (.var 0) 0)]⟩
def F4 : Fn := ⟨3, 3, false, false, [
  .ret (.tup (.cons (.var 1) (.cons (.var 2) .nil)))]⟩
def F5 : Fn := ⟨2, 2, false, false, [
  .ret (.and (.isi (.var 1) (.own 0)) (.cmp .Eq (.fld (.var 0) 0) (.fld (.var 1) 0)))]⟩
def F6 : Fn := ⟨1, 1, false, false, [
  .ret (.ctr 0 .nil)]⟩
def F7 : Fn := ⟨1, 1, false, false, [
  .ret (.fld (.var 0) 0)]⟩
def F8 : Fn := ⟨3, 3, false, false, [
  .ret (.tup (.cons (.var 2) (.cons (.var 1) .nil)))]⟩
def F9 : Fn := ⟨1, 1, false, false, [
  .ret (.ctr 1 .nil)]⟩
def F10 : Fn := ⟨3, 3, false, false, [
  .ret (.tup (.cons (.bif .min2 (.cons (.var 1) (.cons (.var 2) .nil))) (.cons (.bif .max2 (.cons (.var 1) (.cons (.var 2) .nil))) .nil)))]⟩
def F11 : Fn := ⟨1, 1, false, false, [
  .ret (.ctr 3 .nil)]⟩
def F12 : Fn := ⟨3, 3, false, false, [
  .ret (.tup (.cons (.bif .max2 (.cons (.var 1) (.cons (.var 2) .nil))) (.cons (.bif .min2 (.cons (.var 1) (.cons (.var 2) .nil))) .nil)))]⟩
def F13 : Fn := ⟨1, 1, false, false, [
  .ret (.ctr 2 .nil)]⟩
def F14 : Fn := ⟨2, 2, false, true, [
  .exp (.cal 3 (.cons (.var 0) .nil)),
  .exp (.cal 1 (.cons (.var 1) (.cons (.bin .Sub (.cst (.int 0)) (.cst (.int 1000000000))) (.cons (.cst (.int 1000000000)) .nil)))),
  .asg (.att (.var 0) 1) (.var 1),
  .asg (.att (.var 0) 0) (.fst (.var 1))]⟩
def F15 : Fn := ⟨3, 3, false, false, [
  .ret (.ite (.cmp .Lt (.bif .abs (.cons (.bin .Sub (.var 2) (.fld (.var 0) 1)) .nil)) (.bif .abs (.cons (.bin .Sub (.var 1) (.fld (.var 0) 1)) .nil))) (.tup (.cons (.var 2) (.cons (.var 1) .nil))) (.tup (.cons (.var 1) (.cons (.var 2) .nil))))]⟩
def F16 : Fn := ⟨1, 1, false, false, [
  .ret (.ctr 4 (.cons (.bin .Sub (.cst (.int 0)) (.fld (.var 0) 1)) .nil))]⟩
def F17 : Fn := ⟨0, 0, false, false, [
  .ret (.dsp (.cons (.cst (.str "first")) (.cons (.ctr 0 .nil) (.cons (.cst (.str "last")) (.cons (.ctr 1 .nil) (.cons (.cst (.str "less")) (.cons (.ctr 2 .nil) (.cons (.cst (.str "greater")) (.cons (.ctr 3 .nil) .nil)))))))))]⟩
def F18 : Fn := ⟨1, 5, false, false, [
  .asg (.name 1) (.bmt .split (.var 0) (.cons (.cst (.str ":")) .nil)),
  .ifs (.or (.cmp .NotEq (.bif .len (.cons (.var 1) .nil)) (.cst (.int 2))) (.cmp .NotEq (.sub (.var 1) (.cst (.int 0))) (.cst (.str "near")))) [
    .ret (.cst .non)] [],
  .asg (.name 2) (.ite (.cmp .Eq (.slc (.sub (.var 1) (.cst (.int 1))) .none (.some (.cst (.int 1)))) (.cst (.str "-"))) (.slc (.sub (.var 1) (.cst (.int 1))) (.some (.cst (.int 1))) .none) (.sub (.var 1) (.cst (.int 1)))),
  .ifs (.or (.not (.chn .LtE .LtE (.cst (.int 1)) (.bif .len (.cons (.var 2) .nil)) (.cst (.int 10)))) (.not (.bif .all (.cons (.frz (.lc (.cmp .In (.var 4) (.cst (.str "0123456789"))) [3, 4] (.name 4) (.val (.var 2)) .nil)) .nil)))) [
    .ret (.cst .non)] [],
  .ifs (.or (.and (.cmp .Eq (.sub (.var 2) (.cst (.int 0))) (.cst (.str "0"))) (.cmp .NotEq (.sub (.var 1) (.cst (.int 1))) (.cst (.str "0")))) (.cmp .Gt (.bif .int (.cons (.var 2) .nil)) (.cst (.int 1000000000)))) [
    .ret (.cst .non)] [],
  .ret (.ite (.cmp .NotEq (.sub (.var 1) (.cst (.int 1))) (.var 2)) (.bin .Sub (.cst (.int 0)) (.bif .int (.cons (.var 2) .nil))) (.bif .int (.cons (.var 2) .nil)))]⟩
def F19 : Fn := ⟨3, 6, false, false, [
  .asg (.name 3) (.new (.lst .nil)),
  .for (.tup (.cons (.name 4) (.cons (.name 5) .nil))) (.zip (.var 0) (.var 1)) [
    .ifs (.or (.cmp .Is (.var 2) (.cst .non)) (.cmp .Is (.var 5) (.cst .non))) [
      .exp (.bmt .append (.var 3) (.cons (.ite (.cmp .Is (.var 5) (.cst .non)) (.var 2) (.var 5)) .nil)),
      .asg (.name 2) (.cst .non)] [
      .asg (.tup (.cons (.name 5) (.cons (.name 2) .nil))) (.app (.var 4) (.cons (.var 5) (.cons (.var 2) .nil))),
      .exp (.bmt .append (.var 3) (.cons (.var 5) .nil))]],
  .ret (.tup (.cons (.bif .tuple (.cons (.var 3) .nil)) (.cons (.var 2) .nil)))]⟩
def F20 : Fn := ⟨2, 4, true, true, [
  .ifs (.cmp .Eq (.var 1) (.tup .nil)) [
    .rse 22 (.cst (.int 0))] [],
  .for (.tup (.cons (.name 2) (.cons (.name 3) .nil))) (.enm (.var 1)) [
    .ifs (.or (.cmp .Eq (.var 2) (.cst (.int 8))) (.not (.isi (.var 3) (.own 0)))) [
      .rse 22 (.var 2)] []],
  .asg (.att (.var 0) 2) (.var 1)]⟩
def F21 : Fn := ⟨2, 7, false, false, [
  .par (.cons (.name 2) (.cons (.name 3) .nil)) (.cons (.new (.lst .nil)) (.cons (.cal 17 .nil) .nil)),
  .for (.tup (.cons (.name 4) (.cons (.name 5) .nil))) (.enm (.bmt .split (.var 1) (.cons (.cst (.str " ")) .nil))) [
    .asg (.name 6) (.cal 18 (.cons (.var 5) .nil)),
    .ifs (.or (.cmp .Eq (.var 4) (.cst (.int 8))) (.and (.cmp .Is (.var 6) (.cst .non)) (.cmp .NotIn (.var 5) (.var 3)))) [
      .rse 25 (.var 4)] [],
    .exp (.bmt .append (.var 2) (.cons (.ite (.cmp .Is (.var 6) (.cst .non)) (.sub (.var 3) (.var 5)) (.ctr 4 (.cons (.var 6) .nil))) .nil))],
  .ret (.ctr 5 (.star (.var 2) .nil))]⟩
def F22 : Fn := ⟨1, 3, false, false, [
  .ret (.bmt .join (.cst (.str " ")) (.cons (.frz (.lc (.prp (.var 2) 10) [1, 2] (.name 2) (.val (.fld (.var 0) 2)) .nil)) .nil))]⟩
def F23 : Fn := ⟨1, 1, false, false, [
  .ret (.bin .Mult (.tup (.cons (.cst .non) .nil)) (.bif .len (.cons (.fld (.var 0) 2) .nil)))]⟩
def F24 : Fn := ⟨1, 1, false, false, [
  .ret (.bif .len (.cons (.fld (.var 0) 2) .nil))]⟩
def F25 : Fn := ⟨2, 2, false, false, [
  .ifs (.not (.cal 0 (.cons (.var 1) (.cons (.cst (.int 0)) (.cons (.bin .Sub (.bif .len (.cons (.fld (.var 0) 2) .nil)) (.cst (.int 1))) .nil))))) [
    .rse 23 (.cst .non)] [],
  .ret (.sub (.fld (.var 0) 2) (.var 1))]⟩
def F26 : Fn := ⟨2, 2, false, false, [
  .ret (.and (.isi (.var 1) (.own 5)) (.cmp .Eq (.fld (.var 0) 2) (.fld (.var 1) 2)))]⟩
def F27 : Fn := ⟨2, 3, false, false, [
  .asg (.name 2) (.tup (.star (.fld (.var 0) 2) (.star (.fld (.var 1) 2) .nil))),
  .ret (.ctr 5 (.star (.var 2) .nil))]⟩
def F28 : Fn := ⟨1, 4, false, false, [
  .asg (.name 1) (.frz (.lc (.neg (.var 3)) [2, 3] (.name 3) (.val (.fld (.var 0) 2)) .nil)),
  .ret (.ctr 5 (.star (.var 1) .nil))]⟩
def F29 : Fn := ⟨2, 6, false, false, [
  .exp (.cal 2 (.cons (.var 1) (.cons (.cst (.int 1000)) .nil))),
  .par (.cons (.name 2) (.cons (.name 3) .nil)) (.cons (.new (.lst .nil)) (.cons (.prp (.var 0) 12) .nil)),
  .for (.name 4) (.val (.var 1)) [
    .asg (.tup (.cons (.name 3) (.cons (.name 5) .nil))) (.cal 19 (.cons (.fld (.var 0) 2) (.cons (.var 3) (.cons (.var 4) .nil)))),
    .exp (.bmt .append (.var 2) (.cons (.var 5) .nil))],
  .ret (.tup (.cons (.frz (.var 2)) (.cons (.var 3) .nil)))]⟩
def F30 : Fn := ⟨3, 6, false, true, [
  .exp (.cal 2 (.cons (.var 2) (.cons (.cst (.int 12)) .nil))),
  .ifs (.cmp .Eq (.var 2) (.lst .nil)) [
    .rse 24 (.cst (.int 0))] [],
  .asg (.att (.var 0) 3) (.new (.lst .nil)),
  .asg (.att (.var 0) 4) (.new (.lst .nil)),
  .par (.cons (.name 3) (.cons (.name 4) .nil)) (.cons (.prp (.var 1) 12) (.cons (.new (.dsp .nil)) .nil)),
  .whl (.cmp .NotIn (.tup (.cons (.var 3) (.cons (.bin .Mod (.bif .len (.cons (.fld (.var 0) 3) .nil)) (.bif .len (.cons (.var 2) .nil))) .nil))) (.var 4)) [
    .asg (.sub (.var 4) (.tup (.cons (.var 3) (.cons (.bin .Mod (.bif .len (.cons (.fld (.var 0) 3) .nil)) (.bif .len (.cons (.var 2) .nil))) .nil)))) (.bif .len (.cons (.fld (.var 0) 3) .nil)),
    .exp (.bmt .append (.fld (.var 0) 3) (.cons (.var 3) .nil)),
    .asg (.tup (.cons (.name 3) (.cons (.name 5) .nil))) (.cal 19 (.cons (.fld (.var 1) 2) (.cons (.var 3) (.cons (.sub (.var 2) (.bin .Mod (.bin .Sub (.bif .len (.cons (.fld (.var 0) 3) .nil)) (.cst (.int 1))) (.bif .len (.cons (.var 2) .nil)))) .nil)))),
    .exp (.bmt .append (.fld (.var 0) 4) (.cons (.var 5) .nil))],
  .asg (.att (.var 0) 5) (.sub (.var 4) (.tup (.cons (.var 3) (.cons (.bin .Mod (.bif .len (.cons (.fld (.var 0) 3) .nil)) (.bif .len (.cons (.var 2) .nil))) .nil))))]⟩
def F31 : Fn := ⟨1, 1, false, false, [
  .ret (.bin .Sub (.bif .len (.cons (.fld (.var 0) 3) .nil)) (.fld (.var 0) 5))]⟩
def F32 : Fn := ⟨2, 2, false, false, [
  .ret (.ite (.cmp .Lt (.var 1) (.bif .len (.cons (.fld (.var 0) 3) .nil))) (.var 1) (.bin .Add (.fld (.var 0) 5) (.bin .Mod (.bin .Sub (.var 1) (.fld (.var 0) 5)) (.prp (.var 0) 13))))]⟩
def F33 : Fn := ⟨3, 4, false, false, [
  .asg (.name 3) (.ctr 6 (.cons (.var 0) (.cons (.var 1) .nil))),
  .exp (.cal 1 (.cons (.var 2) (.cons (.cst (.int 1)) (.cons (.cst (.int 1000000000000000000)) .nil)))),
  .ret (.sub (.fld (.var 3) 4) (.mth (.var 3) 30 (.cons (.bin .Sub (.bin .Add (.bif .len (.cons (.var 0) .nil)) (.var 2)) (.cst (.int 1))) .nil)))]⟩
def F34 : Fn := ⟨3, 4, false, false, [
  .asg (.name 3) (.ctr 6 (.cons (.var 0) (.cons (.var 1) .nil))),
  .exp (.cal 1 (.cons (.var 2) (.cons (.cst (.int 0)) (.cons (.cst (.int 1000000000000000000)) .nil)))),
  .ret (.sub (.fld (.var 3) 3) (.mth (.var 3) 30 (.cons (.var 2) .nil)))]⟩
def F35 : Fn := ⟨2, 3, false, false, [
  .asg (.name 2) (.ctr 6 (.cons (.var 0) (.cons (.var 1) .nil))),
  .ret (.tup (.cons (.fld (.var 2) 5) (.cons (.prp (.var 2) 13) .nil)))]⟩
def F36 : Fn := ⟨3, 13, false, false, [
  .asg (.name 3) (.ctr 6 (.cons (.var 0) (.cons (.var 1) .nil))),
  .exp (.cal 1 (.cons (.var 2) (.cons (.cst (.int 0)) (.cons (.cst (.int 1000000000000000000)) .nil)))),
  .asg (.tup (.cons (.name 4) (.cons (.name 5) .nil))) (.tup (.cons (.new (.dsp .nil)) (.cons (.bif .len (.cons (.fld (.var 3) 4) .nil)) .nil))),
  .asg (.name 6) (.ite (.cmp .Gt (.var 2) (.var 5)) (.bin .FloorDiv (.bin .Sub (.var 2) (.fld (.var 3) 5)) (.prp (.var 3) 13)) (.cst (.int 0))),
  .asg (.name 7) (.ite (.cmp .Gt (.var 2) (.var 5)) (.bin .Add (.fld (.var 3) 5) (.bin .Mod (.bin .Sub (.var 2) (.fld (.var 3) 5)) (.prp (.var 3) 13))) (.var 2)),
  .for (.tup (.cons (.name 8) (.cons (.name 9) .nil))) (.enm (.fld (.var 3) 4)) [
    .asg (.name 10) (.bin .Add (.bif .int (.cons (.cmp .Lt (.var 8) (.var 7)) .nil)) (.ite (.cmp .GtE (.var 8) (.fld (.var 3) 5)) (.var 6) (.cst (.int 0)))),
    .ifs (.and (.cmp .IsNot (.var 9) (.cst .non)) (.cmp .Gt (.var 10) (.cst (.int 0)))) [
      .asg (.sub (.var 4) (.var 9)) (.bin .Add (.bmt .get2 (.var 4) (.cons (.var 9) (.cons (.cst (.int 0)) .nil))) (.var 10))] []],
  .ret (.frz (.dc (.var 12) (.sub (.var 4) (.var 12)) [11, 12] (.name 12) (.val (.bif .sorted (.cons (.var 4) .nil)))))]⟩
def F37 : Fn := ⟨3, 7, false, false, [
  .par (.cons (.name 3) (.cons (.name 4) .nil)) (.cons (.ctr 6 (.cons (.var 0) (.cons (.var 2) .nil))) (.cons (.ctr 6 (.cons (.var 1) (.cons (.var 2) .nil))) .nil)),
  .asg (.name 5) (.prp (.var 3) 13),
  .whl (.cmp .NotEq (.bin .Mult (.bin .FloorDiv (.var 5) (.prp (.var 4) 13)) (.prp (.var 4) 13)) (.var 5)) [
    .aug 5 .Add (.prp (.var 3) 13)],
  .for (.name 6) (.rng (.cons (.bin .Add (.bif .max2 (.cons (.fld (.var 3) 5) (.cons (.fld (.var 4) 5) .nil))) (.var 5)) .nil)) [
    .ifs (.cmp .NotEq (.sub (.fld (.var 3) 4) (.mth (.var 3) 30 (.cons (.var 6) .nil))) (.sub (.fld (.var 4) 4) (.mth (.var 4) 30 (.cons (.var 6) .nil)))) [
      .ret (.var 6)] []],
  .ret (.cst .non)]⟩
def F40 : Fn := ⟨2, 6, false, false, [
  .ifs (.not (.isi (.var 1) .tuple)) [
    .rse 24 (.cst (.int 0))] [],
  .for (.tup (.cons (.name 2) (.cons (.name 3) .nil))) (.enm (.var 1)) [
    .asg (.name 4) (.and (.cmp .Gt (.var 2) (.cst (.int 0))) (.cmp .Is (.sub (.var 1) (.bin .Sub (.var 2) (.cst (.int 1)))) (.cst .non))),
    .asg (.name 5) (.or (.cmp .Is (.var 3) (.cst .non)) (.and (.not (.var 4)) (.cal 0 (.cons (.var 3) (.cons (.bin .Sub (.cst (.int 0)) (.cst (.int 1000000000))) (.cons (.cst (.int 1000000000)) .nil)))))),
    .ifs (.or (.cmp .Eq (.var 2) (.bif .len (.cons (.var 0) .nil))) (.not (.var 5))) [
      .rse 24 (.var 2)] []],
  .ifs (.cmp .Lt (.bif .len (.cons (.var 1) .nil)) (.bif .len (.cons (.var 0) .nil))) [
    .rse 24 (.bif .len (.cons (.var 1) .nil))] []]⟩
def F41 : Fn := ⟨3, 4, false, false, [
  .asg (.name 3) (.new (.ite (.cmp .Eq (.app (.var 0) (.cons (.var 1) (.cons (.var 2) .nil))) (.tup (.cons (.var 1) (.cons (.var 2) .nil)))) (.lst (.cons (.tup (.cons (.var 1) (.cons (.var 2) .nil))) .nil)) (.lst .nil))),
  .ifs (.and (.cmp .NotEq (.var 1) (.var 2)) (.cmp .Eq (.app (.var 0) (.cons (.var 2) (.cons (.var 1) .nil))) (.tup (.cons (.var 1) (.cons (.var 2) .nil))))) [
    .exp (.bmt .append (.var 3) (.cons (.tup (.cons (.var 2) (.cons (.var 1) .nil))) .nil))] [],
  .ret (.frz (.var 3))]⟩
def F42 : Fn := ⟨3, 12, false, false, [
  .exp (.cal 40 (.cons (.var 0) (.cons (.var 1) .nil))),
  .ifs (.or (.cmp .In (.cst .non) (.var 1)) (.cmp .Is (.var 2) (.cst .non))) [
    .ret (.cal 43 (.cons (.var 0) (.cons (.var 1) (.cons (.var 2) .nil))))] [],
  .asg (.name 3) (.lst (.cons (.tup (.cons (.var 2) (.cons (.tup .nil) .nil))) .nil)),
  .for (.tup (.cons (.name 4) (.cons (.name 5) .nil))) (.zip (.rev (.fld (.var 0) 2)) (.rev (.var 1))) [
    .asg (.name 6) (.new (.lst .nil)),
    .for (.tup (.cons (.name 7) (.cons (.name 8) .nil))) (.val (.var 3)) [
      .exp (.bmt .extend (.var 6) (.cons (.frz (.lc (.tup (.cons (.var 11) (.cons (.tup (.cons (.var 10) (.star (.var 8) .nil))) .nil))) [9, 10, 11] (.tup (.cons (.name 10) (.cons (.name 11) .nil))) (.val (.cal 41 (.cons (.var 4) (.cons (.var 5) (.cons (.var 7) .nil))))) .nil)) .nil))],
    .asg (.name 3) (.frz (.var 6))],
  .ret (.bif .sorted (.cons (.var 3) .nil))]⟩
def F43 : Fn := ⟨3, 15, false, false, [
  .asg (.name 4) (.bif .len (.cons (.frz (.lc (.var 3) [11, 3] (.name 3) (.val (.var 1)) (.cons (.cmp .IsNot (.var 3) (.cst .non)) .nil))) .nil)),
  .ifs (.or (.cmp .Eq (.var 4) (.cst (.int 0))) (.cmp .IsNot (.var 2) (.cst .non))) [
    .ret (.lst .nil)] [],
  .asg (.name 5) (.lst (.cons (.tup (.cons (.sub (.var 1) (.bin .Sub (.var 4) (.cst (.int 1)))) (.cons (.tup .nil) .nil))) .nil)),
  .for (.tup (.cons (.name 6) (.cons (.name 7) .nil))) (.zip (.rev (.slc (.fld (.var 0) 2) .none (.some (.bin .Sub (.var 4) (.cst (.int 1)))))) (.rev (.slc (.var 1) .none (.some (.bin .Sub (.var 4) (.cst (.int 1))))))) [
    .asg (.name 8) (.new (.lst .nil)),
    .for (.tup (.cons (.name 3) (.cons (.name 9) .nil))) (.val (.var 5)) [
      .exp (.bmt .extend (.var 8) (.cons (.frz (.lc (.tup (.cons (.var 13) (.cons (.tup (.cons (.var 12) (.star (.var 9) .nil))) .nil))) [11, 12, 13] (.tup (.cons (.name 12) (.cons (.name 13) .nil))) (.val (.cal 41 (.cons (.var 6) (.cons (.var 7) (.cons (.var 3) .nil))))) .nil)) .nil))],
    .asg (.name 5) (.frz (.var 8))],
  .asg (.name 10) (.bin .Mult (.tup (.cons (.cst .non) .nil)) (.bin .Add (.bin .Sub (.bif .len (.cons (.var 0) .nil)) (.var 4)) (.cst (.int 1)))),
  .ret (.bif .sorted (.cons (.frz (.lc (.tup (.cons (.var 3) (.cons (.bin .Add (.var 14) (.var 10)) .nil))) [11, 3, 14] (.tup (.cons (.name 3) (.cons (.name 14) .nil))) (.val (.var 5)) .nil)) .nil))]⟩
def F44 : Fn := ⟨3, 14, false, false, [
  .exp (.cal 40 (.cons (.var 0) (.cons (.var 1) .nil))),
  .ifs (.not (.isi (.var 2) .list)) [
    .rse 24 (.cst (.int 0))] [],
  .for (.tup (.cons (.name 3) (.cons (.name 4) .nil))) (.enm (.var 2)) [
    .ifs (.or (.cmp .Eq (.var 3) (.cst (.int 1000))) (.and (.cmp .IsNot (.var 4) (.cst .non)) (.not (.cal 0 (.cons (.var 4) (.cons (.bin .Sub (.cst (.int 0)) (.cst (.int 1000000000))) (.cons (.cst (.int 1000000000)) .nil))))))) [
      .rse 24 (.var 3)] []],
  .ifs (.cmp .Gt (.bif .len (.cons (.var 2) .nil)) (.cst (.int 30))) [
    .rse 26 (.cst .non)] [],
  .asg (.name 5) (.dsp (.cons (.var 1) (.cons (.tup (.cons (.cst (.int 1)) (.cons (.lst .nil) .nil))) .nil))),
  .for (.name 4) (.val (.rev (.var 2))) [
    .asg (.name 6) (.new (.dsp .nil)),
    .for (.tup (.cons (.name 7) (.cons (.tup (.cons (.name 8) (.cons (.name 9) .nil))) .nil))) (.itm (.var 5)) [
      .for (.tup (.cons (.name 10) (.cons (.name 11) .nil))) (.val (.cal 42 (.cons (.var 0) (.cons (.var 7) (.cons (.var 4) .nil))))) [
        .asg (.name 12) (.lst (.cons (.var 10) (.star (.var 9) .nil))),
        .asg (.name 13) (.bmt .get2 (.var 6) (.cons (.var 11) (.cons (.tup (.cons (.cst (.int 0)) (.cons (.var 12) .nil))) .nil))),
        .asg (.sub (.var 6) (.var 11)) (.tup (.cons (.bin .Add (.sub (.var 13) (.cst (.int 0))) (.var 8)) (.cons (.bif .min1 (.cons (.lst (.cons (.sub (.var 13) (.cst (.int 1))) (.cons (.var 12) .nil))) .nil)) .nil)))]],
    .asg (.name 5) (.frz (.var 6))],
  .ret (.bmt .get2 (.var 5) (.cons (.prp (.var 0) 12) (.cons (.tup (.cons (.cst (.int 0)) (.cons (.cst .non) .nil))) .nil)))]⟩
def F45 : Fn := ⟨3, 12, false, false, [
  .exp (.cal 2 (.cons (.var 2) (.cons (.cst (.int 1000)) .nil))),
  .ifs (.cmp .Gt (.bif .max3 (.cons (.bif .len (.cons (.var 0) .nil)) (.cons (.bif .len (.cons (.var 1) .nil)) (.cons (.bif .len (.cons (.var 2) .nil)) .nil)))) (.cst (.int 4))) [
    .rse 26 (.cst .non)] [],
  .par (.cons (.name 3) (.cons (.name 4) .nil)) (.cons (.new (.dsp (.cons (.tup (.cons (.prp (.var 0) 12) (.cons (.prp (.var 1) 12) .nil))) (.cons (.cst (.bl true)) .nil)))) (.cons (.lst (.cons (.tup (.cons (.prp (.var 0) 12) (.cons (.prp (.var 1) 12) (.cons (.lst .nil) .nil)))) .nil)) .nil)),
  .whl (.cmp .NotEq (.var 4) (.lst .nil)) [
    .asg (.name 5) (.new (.lst .nil)),
    .for (.tup (.cons (.name 6) (.cons (.name 7) (.cons (.name 8) .nil)))) (.val (.var 4)) [
      .for (.name 9) (.val (.bif .sset (.cons (.var 2) .nil))) [
        .par (.cons (.name 10) (.cons (.name 11) .nil)) (.cons (.cal 19 (.cons (.fld (.var 0) 2) (.cons (.var 6) (.cons (.var 9) .nil)))) (.cons (.cal 19 (.cons (.fld (.var 1) 2) (.cons (.var 7) (.cons (.var 9) .nil)))) .nil)),
        .ifs (.cmp .NotEq (.sub (.var 10) (.cst (.int 1))) (.sub (.var 11) (.cst (.int 1)))) [
          .ret (.lst (.star (.var 8) (.cons (.var 9) .nil)))] [],
        .ifs (.cmp .NotIn (.tup (.cons (.sub (.var 10) (.cst (.int 0))) (.cons (.sub (.var 11) (.cst (.int 0))) .nil))) (.var 3)) [
          .asg (.sub (.var 3) (.tup (.cons (.sub (.var 10) (.cst (.int 0))) (.cons (.sub (.var 11) (.cst (.int 0))) .nil)))) (.cst (.bl true)),
          .exp (.bmt .append (.var 5) (.cons (.tup (.cons (.sub (.var 10) (.cst (.int 0))) (.cons (.sub (.var 11) (.cst (.int 0))) (.cons (.lst (.star (.var 8) (.cons (.var 9) .nil))) .nil)))) .nil))] []]],
    .asg (.name 4) (.frz (.var 5))],
  .ret (.cst .non)]⟩
def F46 : Fn := ⟨2, 10, false, false, [
  .exp (.cal 2 (.cons (.var 0) (.cons (.cst (.int 1000)) .nil))),
  .ifs (.not (.isi (.var 1) .list)) [
    .rse 24 (.cst (.int 0))] [],
  .asg (.name 2) (.bif .len (.cons (.frz (.lc (.var 7) [6, 7] (.name 7) (.val (.var 1)) (.cons (.cmp .Is (.var 7) (.cst .non)) .nil))) .nil)),
  .ifs (.cmp .Gt (.var 2) (.cst (.int 5))) [
    .rse 26 (.cst .non)] [],
  .ifs (.cmp .Eq (.var 2) (.cst (.int 0))) [
    .ret (.cst .non)] [],
  .asg (.name 3) (.lst (.cons (.tup .nil) .nil)),
  .for (.name 4) (.rng (.cons (.var 2) .nil)) [
    .asg (.name 3) (.frz (.lc2 (.bin .Add (.var 8) (.tup (.cons (.var 9) .nil))) [6, 8, 9] [9] (.name 8) (.val (.var 3)) (.name 9) (.val (.tup (.cons (.ctr 0 .nil) (.cons (.ctr 3 .nil) (.cons (.ctr 1 .nil) (.cons (.ctr 2 .nil) .nil))))))))],
  .for (.name 5) (.val (.var 3)) [
    .ifs (.cmp .Eq (.sub (.app (.ctr 5 (.star (.var 5) .nil)) (.cons (.var 0) .nil)) (.cst (.int 0))) (.var 1)) [
      .ret (.ctr 5 (.star (.var 5) .nil))] []],
  .ret (.cst .non)]⟩
def F50 : Fn := ⟨3, 5, false, true, [
  .ifs (.not (.cal 0 (.cons (.var 2) (.cons (.cst (.int 0)) (.cons (.bin .Sub (.bif .len (.cons (.var 1) .nil)) (.cst (.int 1))) .nil))))) [
    .rse 23 (.cst .non)] [],
  .asg (.att (.var 0) 6) (.new (.dsp .nil)),
  .asg (.att (.var 0) 7) (.new (.dsp .nil)),
  .asg (.att (.var 0) 8) (.new (.lst .nil)),
  .for (.name 3) (.val (.tup (.cons (.ctr 0 .nil) (.cons (.ctr 3 .nil) (.cons (.ctr 1 .nil) (.cons (.ctr 2 .nil) .nil)))))) [
    .asg (.name 4) (.tup (.star (.slc (.fld (.var 1) 2) .none (.some (.var 2))) (.cons (.var 3) (.star (.slc (.fld (.var 1) 2) (.some (.bin .Add (.var 2) (.cst (.int 1)))) .none) .nil)))),
    .asg (.sub (.fld (.var 0) 6) (.prp (.var 3) 10)) (.ctr 5 (.star (.var 4) .nil)),
    .asg (.sub (.fld (.var 0) 7) (.prp (.var 3) 10)) (.prp (.var 1) 12)]]⟩
def F51 : Fn := ⟨3, 8, false, true, [
  .exp (.cal 1 (.cons (.var 1) (.cons (.bin .Sub (.cst (.int 0)) (.cst (.int 1000000000))) (.cons (.cst (.int 1000000000)) .nil)))),
  .asg (.name 3) (.new (.dsp .nil)),
  .for (.tup (.cons (.name 4) (.cons (.name 5) .nil))) (.itm (.fld (.var 0) 7)) [
    .asg (.tup (.cons (.name 6) (.cons (.name 7) .nil))) (.cal 19 (.cons (.fld (.sub (.fld (.var 0) 6) (.var 4)) 2) (.cons (.var 5) (.cons (.var 1) .nil)))),
    .ifs (.cmp .Eq (.var 7) (.var 2)) [
      .asg (.sub (.var 3) (.var 4)) (.var 6)] []],
  .ifs (.cmp .Eq (.var 3) (.dsp .nil)) [
    .rse 27 (.cst .non)] [],
  .asg (.att (.var 0) 7) (.var 3),
  .exp (.bmt .append (.fld (.var 0) 8) (.cons (.tup (.cons (.var 1) (.cons (.var 2) .nil))) .nil)),
  .ret (.bif .len (.cons (.var 3) .nil))]⟩
def F52 : Fn := ⟨2, 6, true, true, [
  .par (.cons (.name 2) (.cons (.name 3) .nil)) (.cons (.fld (.var 0) 7) (.cons (.new (.bif .list (.cons (.fld (.var 0) 8) .nil))) .nil)),
  .try [
    .for (.tup (.cons (.name 4) (.cons (.name 5) .nil))) (.val (.var 1)) [
      .exp (.mth (.var 0) 31 (.cons (.var 4) (.cons (.var 5) .nil)))]] [
    .asg (.tup (.cons (.att (.var 0) 7) (.cons (.att (.var 0) 8) .nil))) (.tup (.cons (.var 2) (.cons (.var 3) .nil))),
    .rers],
  .ret (.bif .len (.cons (.fld (.var 0) 7) .nil))]⟩
def F53 : Fn := ⟨1, 1, false, false, [
  .ret (.bif .sorted (.cons (.fld (.var 0) 7) .nil))]⟩
def F54 : Fn := ⟨1, 1, false, false, [
  .ret (.bif .list (.cons (.fld (.var 0) 8) .nil))]⟩
def F55 : Fn := ⟨2, 9, false, false, [
  .exp (.cal 2 (.cons (.var 1) (.cons (.cst (.int 1000)) .nil))),
  .ifs (.cmp .Eq (.var 1) (.lst .nil)) [
    .rse 24 (.cst (.int 0))] [],
  .asg (.name 2) (.new (.lst .nil)),
  .for (.name 3) (.val (.var 1)) [
    .asg (.name 4) (.frz (.lc (.sub (.cal 19 (.cons (.fld (.sub (.fld (.var 0) 6) (.var 6)) 2) (.cons (.var 7) (.cons (.var 3) .nil)))) (.cst (.int 1))) [5, 6, 7] (.tup (.cons (.name 6) (.cons (.name 7) .nil))) (.itm (.fld (.var 0) 7)) .nil)),
    .exp (.bmt .append (.var 2) (.cons (.bif .max1 (.cons (.frz (.lc (.bmt .count (.var 4) (.cons (.var 8) .nil)) [5, 8] (.name 8) (.val (.var 4)) .nil)) .nil)) .nil))],
  .ret (.sub (.var 1) (.bmt .index (.var 2) (.cons (.bif .min1 (.cons (.var 2) .nil)) .nil)))]⟩
def F60 : Fn := ⟨1, 1, false, false, [
  .ifs (.or (.not (.isi (.var 0) .tuple)) (.or (.cmp .Eq (.var 0) (.tup .nil)) (.not (.isi (.sub (.var 0) (.cst (.int 0))) .str)))) [
    .ret (.cst (.bl false))] [],
  .ret (.cmp .Eq (.bmt .get2 (.cst (.dct [(.tup [(.str "put"), (.int 2)]), (.tup [(.str "take"), (.int 2)]), (.tup [(.str "swap"), (.int 2)]), (.tup [(.str "undo"), (.int 1)]), (.tup [(.str "redo"), (.int 1)])])) (.cons (.sub (.var 0) (.cst (.int 0))) (.cons (.cst (.int 0)) .nil))) (.bif .len (.cons (.var 0) .nil)))]⟩
def F61 : Fn := ⟨2, 2, false, true, [
  .asg (.att (.var 0) 7) (.tup (.cons (.var 1) (.cons (.prp (.var 1) 12) (.cons (.tup .nil) .nil)))),
  .asg (.att (.var 0) 9) (.new (.lst .nil)),
  .asg (.att (.var 0) 10) (.new (.lst .nil)),
  .asg (.att (.var 0) 11) (.new (.dsp .nil))]⟩
def F62 : Fn := ⟨3, 7, false, true, [
  .asg (.name 3) (.ctr 8 (.cons (.var 1) .nil)),
  .ifs (.not (.isi (.var 2) .list)) [
    .rse 30 (.cst (.int 0))] [],
  .for (.tup (.cons (.name 4) (.cons (.name 5) .nil))) (.enm (.var 2)) [
    .ifs (.not (.cal 60 (.cons (.var 5) .nil))) [
      .rse 30 (.var 4)] [],
    .try [
      .exp (.mth (.var 3) 42 (.cons (.var 5) .nil))] [
      .rse 30 (.var 4)]],
  .ret (.var 3)]⟩
def F63 : Fn := ⟨3, 3, false, true, [
  .exp (.bmt .append (.fld (.var 0) 9) (.cons (.tup (.cons (.var 1) (.cons (.fld (.var 0) 7) (.cons (.var 2) .nil)))) .nil)),
  .asg (.att (.var 0) 10) (.new (.lst .nil)),
  .asg (.att (.var 0) 7) (.var 2)]⟩
def F64 : Fn := ⟨2, 6, false, true, [
  .exp (.cal 1 (.cons (.var 1) (.cons (.bin .Sub (.cst (.int 0)) (.cst (.int 1000000000))) (.cons (.cst (.int 1000000000)) .nil)))),
  .asg (.tup (.cons (.name 2) (.cons (.name 3) (.cons (.name 4) .nil)))) (.fld (.var 0) 7),
  .asg (.tup (.cons (.name 3) (.cons (.name 5) .nil))) (.cal 19 (.cons (.fld (.var 2) 2) (.cons (.var 3) (.cons (.var 1) .nil)))),
  .exp (.mth (.var 0) 34 (.cons (.cst (.str "put")) (.cons (.tup (.cons (.var 2) (.cons (.var 3) (.cons (.ite (.cmp .Is (.var 5) (.cst .non)) (.var 4) (.bin .Add (.var 4) (.tup (.cons (.var 5) .nil)))) .nil)))) .nil))),
  .ret (.var 5)]⟩
def F65 : Fn := ⟨2, 6, false, true, [
  .asg (.tup (.cons (.name 2) (.cons (.name 3) (.cons (.name 4) .nil)))) (.fld (.var 0) 7),
  .ifs (.not (.cal 0 (.cons (.var 1) (.cons (.cst (.int 0)) (.cons (.bin .Sub (.bif .len (.cons (.var 2) .nil)) (.cst (.int 1))) .nil))))) [
    .rse 23 (.cst .non)] [],
  .ifs (.cmp .Is (.sub (.var 3) (.var 1)) (.cst .non)) [
    .rse 21 (.cst .non)] [],
  .asg (.name 5) (.bin .Add (.bin .Add (.slc (.var 3) .none (.some (.var 1))) (.slc (.var 3) (.some (.bin .Add (.var 1) (.cst (.int 1)))) .none)) (.tup (.cons (.cst .non) .nil))),
  .exp (.mth (.var 0) 34 (.cons (.cst (.str "take")) (.cons (.tup (.cons (.var 2) (.cons (.var 5) (.cons (.var 4) .nil)))) .nil))),
  .ret (.sub (.var 3) (.var 1))]⟩
def F66 : Fn := ⟨2, 6, false, true, [
  .asg (.tup (.cons (.name 2) (.cons (.name 3) (.cons (.name 4) .nil)))) (.fld (.var 0) 7),
  .ifs (.not (.cal 0 (.cons (.var 1) (.cons (.cst (.int 0)) (.cons (.bin .Sub (.bif .len (.cons (.var 2) .nil)) (.cst (.int 2))) .nil))))) [
    .rse 23 (.cst .non)] [],
  .asg (.name 5) (.new (.bif .list (.cons (.fld (.var 2) 2) .nil))),
  .asg (.tup (.cons (.sub (.var 5) (.var 1)) (.cons (.sub (.var 5) (.bin .Add (.var 1) (.cst (.int 1)))) .nil))) (.tup (.cons (.sub (.var 5) (.bin .Add (.var 1) (.cst (.int 1)))) (.cons (.sub (.var 5) (.var 1)) .nil))),
  .exp (.mth (.var 0) 34 (.cons (.cst (.str "swap")) (.cons (.tup (.cons (.ctr 5 (.star (.var 5) .nil)) (.cons (.var 3) (.cons (.var 4) .nil)))) .nil))),
  .ret (.tup (.cons (.prp (.sub (.var 5) (.var 1)) 10) (.cons (.prp (.sub (.var 5) (.bin .Add (.var 1) (.cst (.int 1)))) 10) .nil)))]⟩
def F67 : Fn := ⟨1, 2, false, true, [
  .ifs (.cmp .Eq (.fld (.var 0) 9) (.lst .nil)) [
    .ret (.cst (.bl false))] [],
  .asg (.name 1) (.bmt .pop0 (.fld (.var 0) 9) .nil),
  .exp (.bmt .append (.fld (.var 0) 10) (.cons (.var 1) .nil)),
  .asg (.att (.var 0) 7) (.sub (.var 1) (.cst (.int 1))),
  .ret (.cst (.bl true))]⟩
def F68 : Fn := ⟨1, 2, false, true, [
  .ifs (.cmp .Eq (.fld (.var 0) 10) (.lst .nil)) [
    .ret (.cst (.bl false))] [],
  .asg (.name 1) (.bmt .pop0 (.fld (.var 0) 10) .nil),
  .exp (.bmt .append (.fld (.var 0) 9) (.cons (.var 1) .nil)),
  .asg (.att (.var 0) 7) (.sub (.var 1) (.cst (.int 2))),
  .ret (.cst (.bl true))]⟩
def F69 : Fn := ⟨1, 1, false, false, [
  .ret (.sub (.fld (.var 0) 7) (.cst (.int 0)))]⟩
def F70 : Fn := ⟨1, 1, false, false, [
  .ret (.sub (.fld (.var 0) 7) (.cst (.int 1)))]⟩
def F71 : Fn := ⟨1, 1, false, false, [
  .ret (.bif .list (.cons (.sub (.fld (.var 0) 7) (.cst (.int 2))) .nil))]⟩
def F72 : Fn := ⟨1, 3, false, false, [
  .ret (.frz (.lc (.sub (.var 2) (.cst (.int 0))) [1, 2] (.name 2) (.val (.fld (.var 0) 9)) .nil))]⟩
def F73 : Fn := ⟨2, 4, false, true, [
  .ifs (.or (.not (.isi (.var 1) .str)) (.not (.chn .LtE .LtE (.cst (.int 1)) (.bif .len (.cons (.var 1) .nil)) (.cst (.int 8))))) [
    .rse 28 (.cst .non)] [],
  .ifs (.not (.bif .all (.cons (.frz (.lc (.cmp .In (.var 3) (.cst (.str "abcdefghijklmnopqrstuvwxyz"))) [2, 3] (.name 3) (.val (.var 1)) .nil)) .nil))) [
    .rse 28 (.cst .non)] [],
  .asg (.sub (.fld (.var 0) 11) (.var 1)) (.tup (.cons (.fld (.var 0) 7) (.cons (.bif .list (.cons (.fld (.var 0) 9) .nil)) (.cons (.bif .list (.cons (.fld (.var 0) 10) .nil)) .nil))))]⟩
def F74 : Fn := ⟨2, 4, false, true, [
  .ifs (.or (.not (.isi (.var 1) .str)) (.cmp .NotIn (.var 1) (.fld (.var 0) 11))) [
    .rse 29 (.cst .non)] [],
  .asg (.tup (.cons (.att (.var 0) 7) (.cons (.name 2) (.cons (.name 3) .nil)))) (.sub (.fld (.var 0) 11) (.var 1)),
  .asg (.tup (.cons (.att (.var 0) 9) (.cons (.att (.var 0) 10) .nil))) (.tup (.cons (.new (.bif .list (.cons (.var 2) .nil))) (.cons (.new (.bif .list (.cons (.var 3) .nil))) .nil)))]⟩
def F75 : Fn := ⟨2, 4, false, true, [
  .mat (.var 1) [("put", some 2), ("take", some 3), ("swap", some 3), ("undo", none)] [
    .ret (.mth (.var 0) 35 (.cons (.var 2) .nil)),
    .ret (.mth (.var 0) 36 (.cons (.var 3) .nil)),
    .ret (.mth (.var 0) 37 (.cons (.var 3) .nil)),
    .ret (.mth (.var 0) 38 .nil)],
  .ret (.mth (.var 0) 39 .nil)]⟩
def F76 : Fn := ⟨2, 6, false, true, [
  .ifs (.not (.isi (.var 1) .list)) [
    .rse 30 (.cst (.int 0))] [],
  .for (.tup (.cons (.name 2) (.cons (.name 3) .nil))) (.enm (.var 1)) [
    .ifs (.not (.cal 60 (.cons (.var 3) .nil))) [
      .rse 30 (.var 2)] []],
  .asg (.name 4) (.tup (.cons (.fld (.var 0) 7) (.cons (.new (.bif .list (.cons (.fld (.var 0) 9) .nil))) (.cons (.new (.bif .list (.cons (.fld (.var 0) 10) .nil))) .nil)))),
  .try [
    .ret (.frz (.lc (.mth (.var 0) 42 (.cons (.var 3) .nil)) [5, 3] (.name 3) (.val (.var 1)) .nil))] [
    .asg (.tup (.cons (.att (.var 0) 7) (.cons (.att (.var 0) 9) (.cons (.att (.var 0) 10) .nil)))) (.var 4),
    .rers]]⟩
def F100 : Fn := ⟨2, 5, false, true, [
  .asg (.name 2) (.var 1),
  .for (.name 3) (.val (.var 0)) [
    .asg (.name 2) (.bin .Mod (.bin .Add (.bin .Mult (.var 2) (.cst (.int 31))) (.bif .abs (.cons (.var 3) .nil))) (.cst (.int 2147483647)))],
  .ret (.bin .Add (.lst (.cons (.var 2) (.cons (.cst (.int 0)) .nil))) (.frz (.lc (.var 3) [4, 3] (.name 3) (.val (.var 0)) (.cons (.cmp .GtE (.var 3) (.bin .Pow (.cst (.int 10)) (.cst (.int 18)))) .nil))))]⟩
def F101 : Fn := ⟨2, 3, false, false, [
  .ifs (.and (.cmp .Eq (.sub (.var 0) (.cst (.int 1))) (.cst (.int 0))) (.cmp .Gt (.bif .len (.cons (.var 0) .nil)) (.cst (.int 2)))) [
    .asg (.sub (.var 0) (.cst (.int 1))) (.bmt .pop1 (.var 0) (.cons (.cst (.int 2)) .nil))] [],
  .ifs (.cmp .Gt (.sub (.var 0) (.cst (.int 1))) (.cst (.int 0))) [
    .asg (.name 2) (.bin .Mod (.sub (.var 0) (.cst (.int 1))) (.var 1)),
    .asg (.sub (.var 0) (.cst (.int 1))) (.bin .FloorDiv (.sub (.var 0) (.cst (.int 1))) (.var 1)),
    .ret (.var 2)] [],
  .asg (.sub (.var 0) (.cst (.int 0))) (.bin .Mod (.bin .Add (.bin .Mult (.sub (.var 0) (.cst (.int 0))) (.cst (.int 48271))) (.cst (.int 11))) (.cst (.int 2147483647))),
  .ret (.bin .Mod (.bin .FloorDiv (.sub (.var 0) (.cst (.int 0))) (.cst (.int 64))) (.var 1))]⟩
def F102 : Fn := ⟨2, 6, false, false, [
  .asg (.name 2) (.new (.lst .nil)),
  .for (.name 3) (.rng (.cons (.bin .Add (.cst (.int 1)) (.cal 101 (.cons (.var 0) (.cons (.var 1) .nil)))) .nil)) [
    .asg (.name 4) (.cal 101 (.cons (.var 0) (.cons (.sub (.lst (.cons (.cst (.int 7)) (.cons (.cst (.int 41)) (.cons (.bin .Add (.bin .Mult (.cst (.int 2)) (.bin .Pow (.cst (.int 10)) (.cst (.int 9)))) (.cst (.int 1))) .nil)))) (.cal 101 (.cons (.var 0) (.cons (.cst (.int 3)) .nil)))) .nil))),
    .asg (.name 4) (.bif .str (.cons (.ite (.cmp .LtE (.var 4) (.bin .Pow (.cst (.int 10)) (.cst (.int 9)))) (.sub (.lst (.cons (.var 4) (.cons (.bin .Sub (.cst (.int 0)) (.var 4)) .nil))) (.cal 101 (.cons (.var 0) (.cons (.cst (.int 2)) .nil)))) (.bin .Sub (.var 4) (.bin .Pow (.cst (.int 10)) (.cst (.int 9))))) .nil)),
    .asg (.name 5) (.sub (.lst (.cons (.cst (.str "first")) (.cons (.cst (.str "last")) (.cons (.cst (.str "less")) (.cons (.cst (.str "greater")) (.cons (.bin .Add (.cst (.str "near:")) (.var 4)) .nil)))))) (.cal 101 (.cons (.var 0) (.cons (.cst (.int 5)) .nil)))),
    .exp (.bmt .append (.var 2) (.cons (.var 5) .nil))],
  .ret (.frz (.var 2))]⟩
def F103 : Fn := ⟨2, 5, false, false, [
  .asg (.name 2) (.sub (.lst (.cons (.cst (.int 3)) (.cons (.cst (.int 9)) (.cons (.bin .Pow (.cst (.int 10)) (.cst (.int 9))) .nil)))) (.cal 101 (.cons (.var 0) (.cons (.cst (.int 3)) .nil)))),
  .ret (.frz (.lc (.bin .Sub (.cal 101 (.cons (.var 0) (.cons (.bin .Add (.bin .Mult (.cst (.int 2)) (.var 2)) (.cst (.int 1))) .nil))) (.var 2)) [3, 4] (.name 4) (.rng (.cons (.cal 101 (.cons (.var 0) (.cons (.bin .Add (.var 1) (.cst (.int 1))) .nil))) .nil)) .nil))]⟩
def F104 : Fn := ⟨1, 1, false, false, [
  .ret (.smt 21 5 (.cons (.cst (.cls 5)) (.cons (.bmt .join (.cst (.str " ")) (.cons (.var 0) .nil)) .nil)))]⟩
def F105 : Fn := ⟨3, 4, false, false, [
  .ifs (.cmp .Eq (.var 0) (.cst (.str "last"))) [
    .ret (.tup (.cons (.var 2) (.cons (.var 1) .nil)))] [],
  .ifs (.cmp .Eq (.var 0) (.cst (.str "less"))) [
    .ret (.tup (.cons (.bif .min1 (.cons (.lst (.cons (.var 1) (.cons (.var 2) .nil))) .nil)) (.cons (.bif .max1 (.cons (.lst (.cons (.var 1) (.cons (.var 2) .nil))) .nil)) .nil)))] [],
  .ifs (.cmp .Eq (.var 0) (.cst (.str "greater"))) [
    .ret (.tup (.cons (.bif .max1 (.cons (.lst (.cons (.var 1) (.cons (.var 2) .nil))) .nil)) (.cons (.bif .min1 (.cons (.lst (.cons (.var 1) (.cons (.var 2) .nil))) .nil)) .nil)))] [],
  .ifs (.cmp .NotEq (.var 0) (.cst (.str "first"))) [
    .asg (.name 3) (.bif .int (.cons (.slc (.var 0) (.some (.cst (.int 5))) .none) .nil)),
    .ifs (.cmp .Lt (.bif .abs (.cons (.bin .Sub (.var 2) (.var 3)) .nil)) (.bif .abs (.cons (.bin .Sub (.var 1) (.var 3)) .nil))) [
      .ret (.tup (.cons (.var 2) (.cons (.var 1) .nil)))] []] [],
  .ret (.tup (.cons (.var 1) (.cons (.var 2) .nil)))]⟩
def F106 : Fn := ⟨3, 5, false, false, [
  .asg (.name 3) (.new (.bif .list (.cons (.var 1) .nil))),
  .for (.name 4) (.rng (.cons (.bif .len (.cons (.var 0) .nil)) .nil)) [
    .ifs (.cmp .Is (.sub (.var 3) (.var 4)) (.cst .non)) [
      .ret (.tup (.cons (.bin .Add (.bin .Add (.slc (.var 3) .none (.some (.var 4))) (.lst (.cons (.var 2) .nil))) (.slc (.var 3) (.some (.bin .Add (.var 4) (.cst (.int 1)))) .none)) (.cons (.cst .non) .nil)))] [],
    .asg (.tup (.cons (.sub (.var 3) (.var 4)) (.cons (.name 2) .nil))) (.cal 105 (.cons (.sub (.var 0) (.var 4)) (.cons (.sub (.var 3) (.var 4)) (.cons (.var 2) .nil))))],
  .ret (.tup (.cons (.frz (.var 3)) (.cons (.var 2) .nil)))]⟩
def F107 : Fn := ⟨2, 6, false, false, [
  .par (.cons (.name 2) (.cons (.name 3) .nil)) (.cons (.new (.lst .nil)) (.cons (.bin .Mult (.lst (.cons (.cst .non) .nil)) (.bif .len (.cons (.var 0) .nil))) .nil)),
  .for (.name 4) (.val (.var 1)) [
    .asg (.tup (.cons (.name 3) (.cons (.name 5) .nil))) (.cal 106 (.cons (.var 0) (.cons (.var 3) (.cons (.var 4) .nil)))),
    .exp (.bmt .append (.var 2) (.cons (.var 5) .nil))],
  .ret (.tup (.cons (.frz (.var 2)) (.cons (.var 3) .nil)))]⟩
def F108 : Fn := ⟨2, 4, false, false, [
  .ifs (.cmp .Is (.var 1) (.cst .non)) [
    .ret (.cmp .Is (.var 0) (.cst .non))] [],
  .ifs (.isi (.var 1) .bool) [
    .ret (.and (.isi (.var 0) .bool) (.cmp .Eq (.var 0) (.var 1)))] [],
  .ifs (.isi (.var 1) .int) [
    .ret (.and (.isi (.var 0) .int) (.and (.not (.isi (.var 0) .bool)) (.cmp .Eq (.var 0) (.var 1))))] [],
  .ifs (.isi (.var 1) .str) [
    .ret (.and (.isi (.var 0) .str) (.cmp .Eq (.var 0) (.var 1)))] [],
  .ifs (.cmp .NotEq (.isi (.var 1) .tuple) (.isi (.var 0) .tuple)) [
    .ret (.cst (.bl false))] [],
  .ifs (.cmp .NotEq (.isi (.var 1) .list) (.isi (.var 0) .list)) [
    .ret (.cst (.bl false))] [],
  .ifs (.cmp .NotEq (.bif .len (.cons (.var 0) .nil)) (.bif .len (.cons (.var 1) .nil))) [
    .ret (.cst (.bl false))] [],
  .ret (.bif .all (.cons (.frz (.lc (.cal 108 (.cons (.sub (.var 0) (.var 3)) (.cons (.sub (.var 1) (.var 3)) .nil))) [2, 3] (.name 3) (.rng (.cons (.bif .len (.cons (.var 1) .nil)) .nil)) .nil)) .nil))]⟩
def F109 : Fn := ⟨1, 1, false, false, [
  .ifs (.cmp .Eq (.slc (.var 0) .none (.some (.cst (.int 4)))) (.cst (.str "near"))) [
    .ret (.bin .Add (.cst (.str "near:")) (.bif .str (.cons (.bin .Sub (.cst (.int 0)) (.bif .int (.cons (.slc (.var 0) (.some (.cst (.int 5))) .none) .nil))) .nil)))] [],
  .ret (.ite (.cmp .Eq (.var 0) (.cst (.str "less"))) (.cst (.str "greater")) (.ite (.cmp .Eq (.var 0) (.cst (.str "greater"))) (.cst (.str "less")) (.var 0)))]⟩
def F110 : Fn := ⟨3, 3, false, false, [
  .ret (.bin .Add (.bin .Add (.slc (.var 0) .none (.some (.var 1))) (.lst (.cons (.var 2) .nil))) (.slc (.var 0) (.some (.bin .Add (.var 1) (.cst (.int 1)))) .none))]⟩
def F111 : Fn := ⟨2, 4, false, false, [
  .asg (.name 2) (.new (.bif .list (.cons (.var 1) .nil))),
  .asg (.name 3) (.new (.lst .nil)),
  .whl (.cmp .NotEq (.var 2) (.lst .nil)) [
    .exp (.bmt .append (.var 3) (.cons (.bmt .pop1 (.var 2) (.cons (.cal 101 (.cons (.var 0) (.cons (.bif .len (.cons (.var 2) .nil)) .nil))) .nil)) .nil))],
  .ret (.frz (.var 3))]⟩
def F112 : Fn := ⟨1, 1, false, false, [
  .ret (.sub (.lst (.cons (.cal 101 (.cons (.var 0) (.cons (.cst (.int 99)) .nil))) (.cons (.bin .Sub (.bin .Pow (.cst (.int 10)) (.cst (.int 18))) (.cal 101 (.cons (.var 0) (.cons (.bin .Pow (.cst (.int 10)) (.cst (.int 6))) .nil)))) .nil))) (.cal 101 (.cons (.var 0) (.cons (.cst (.int 2)) .nil))))]⟩
def F113 : Fn := ⟨2, 7, false, false, [
  .par (.cons (.name 2) (.cons (.name 3) (.cons (.name 4) (.cons (.name 5) .nil)))) (.cons (.new (.lst .nil)) (.cons (.new (.lst .nil)) (.cons (.bin .Mult (.lst (.cons (.cst .non) .nil)) (.bif .len (.cons (.var 0) .nil))) (.cons (.new (.dsp .nil)) .nil)))),
  .whl (.cmp .NotIn (.tup (.cons (.bif .tuple (.cons (.var 4) .nil)) (.cons (.bin .Mod (.bif .len (.cons (.var 2) .nil)) (.bif .len (.cons (.var 1) .nil))) .nil))) (.var 5)) [
    .asg (.sub (.var 5) (.tup (.cons (.bif .tuple (.cons (.var 4) .nil)) (.cons (.bin .Mod (.bif .len (.cons (.var 2) .nil)) (.bif .len (.cons (.var 1) .nil))) .nil)))) (.bif .len (.cons (.var 2) .nil)),
    .exp (.bmt .append (.var 2) (.cons (.var 4) .nil)),
    .asg (.tup (.cons (.name 4) (.cons (.name 6) .nil))) (.cal 106 (.cons (.var 0) (.cons (.var 4) (.cons (.sub (.var 1) (.bin .Mod (.bif .len (.cons (.var 3) .nil)) (.bif .len (.cons (.var 1) .nil)))) .nil)))),
    .exp (.bmt .append (.var 3) (.cons (.var 6) .nil))],
  .ret (.tup (.cons (.frz (.var 2)) (.cons (.frz (.var 3)) (.cons (.sub (.var 5) (.tup (.cons (.bif .tuple (.cons (.var 4) .nil)) (.cons (.bin .Mod (.bif .len (.cons (.var 2) .nil)) (.bif .len (.cons (.var 1) .nil))) .nil)))) .nil))))]⟩
def F114 : Fn := ⟨2, 4, false, false, [
  .par (.cons (.name 2) (.cons (.name 3) .nil)) (.cons (.bif .len (.cons (.sub (.var 0) (.cst (.int 0))) .nil)) (.cons (.sub (.var 0) (.cst (.int 2))) .nil)),
  .ret (.ite (.cmp .Lt (.var 1) (.var 2)) (.var 1) (.bin .Add (.var 3) (.bin .Mod (.bin .Sub (.var 1) (.var 3)) (.bin .Sub (.var 2) (.var 3)))))]⟩
def F115 : Fn := ⟨3, 13, false, false, [
  .par (.cons (.name 3) (.cons (.name 4) .nil)) (.cons (.lst .nil) (.cons (.bin .Sub (.bif .len (.cons (.var 0) .nil)) (.var 1)) .nil)),
  .for (.name 5) (.val (.bif .sset (.cons (.frz (.lc (.var 11) [10, 11] (.name 11) (.val (.var 0)) (.cons (.cmp .IsNot (.var 11) (.cst .non)) .nil))) .nil))) [
    .asg (.name 6) (.bif .len (.cons (.frz (.lc (.var 12) [10, 12] (.name 12) (.rng (.cons (.bif .len (.cons (.var 0) .nil)) .nil)) (.cons (.and (.cmp .Lt (.var 12) (.var 2)) (.cmp .Eq (.sub (.var 0) (.var 12)) (.var 5))) .nil))) .nil)),
    .ifs (.cmp .Gt (.var 2) (.bif .len (.cons (.var 0) .nil))) [
      .asg (.tup (.cons (.name 7) (.cons (.name 8) .nil))) (.tup (.cons (.bin .FloorDiv (.bin .Sub (.var 2) (.var 1)) (.var 4)) (.cons (.bin .Mod (.bin .Sub (.var 2) (.var 1)) (.var 4)) .nil))),
      .asg (.name 9) (.frz (.lc (.var 12) [10, 12] (.name 12) (.rng (.cons (.var 1) (.cons (.bif .len (.cons (.var 0) .nil)) .nil))) (.cons (.cmp .Eq (.sub (.var 0) (.var 12)) (.var 5)) .nil))),
      .asg (.name 6) (.bin .Add (.bif .len (.cons (.frz (.lc (.var 12) [10, 12] (.name 12) (.rng (.cons (.var 1) .nil)) (.cons (.cmp .Eq (.sub (.var 0) (.var 12)) (.var 5)) .nil))) .nil)) (.bin .Mult (.var 7) (.bif .len (.cons (.var 9) .nil)))),
      .asg (.name 6) (.bin .Add (.var 6) (.bif .len (.cons (.frz (.lc (.var 12) [10, 12] (.name 12) (.val (.var 9)) (.cons (.cmp .Lt (.var 12) (.bin .Add (.var 1) (.var 8))) .nil))) .nil)))] [],
    .asg (.name 3) (.bin .Add (.var 3) (.bin .Mult (.lst (.cons (.tup (.cons (.var 5) (.cons (.var 6) .nil))) .nil)) (.bif .int (.cons (.cmp .Gt (.var 6) (.cst (.int 0))) .nil))))],
  .ret (.var 3)]⟩
def F116 : Fn := ⟨3, 6, false, false, [
  .asg (.name 3) (.new (.lst .nil)),
  .for (.tup (.cons (.name 4) (.cons (.name 5) .nil))) (.val (.lst (.cons (.tup (.cons (.var 1) (.cons (.var 2) .nil))) (.cons (.tup (.cons (.var 2) (.cons (.var 1) .nil))) .nil)))) [
    .ifs (.and (.cmp .Eq (.cal 105 (.cons (.var 0) (.cons (.var 4) (.cons (.var 5) .nil)))) (.tup (.cons (.var 1) (.cons (.var 2) .nil)))) (.cmp .NotIn (.tup (.cons (.var 4) (.cons (.var 5) .nil))) (.var 3))) [
      .exp (.bmt .append (.var 3) (.cons (.tup (.cons (.var 4) (.cons (.var 5) .nil))) .nil))] []],
  .ret (.frz (.var 3))]⟩
def F117 : Fn := ⟨3, 14, false, false, [
  .asg (.name 4) (.bif .len (.cons (.frz (.lc (.var 3) [11, 3] (.name 3) (.val (.var 1)) (.cons (.cmp .IsNot (.var 3) (.cst .non)) .nil))) .nil)),
  .ifs (.or (.and (.cmp .Is (.var 2) (.cst .non)) (.cmp .Eq (.var 4) (.cst (.int 0)))) (.and (.cmp .IsNot (.var 2) (.cst .non)) (.cmp .Lt (.var 4) (.bif .len (.cons (.var 0) .nil))))) [
    .ret (.lst .nil)] [],
  .asg (.name 5) (.ite (.cmp .IsNot (.var 2) (.cst .non)) (.var 4) (.bin .Sub (.var 4) (.cst (.int 1)))),
  .asg (.tup (.cons (.name 6) (.cons (.name 7) .nil))) (.tup (.cons (.lst (.cons (.tup (.cons (.ite (.cmp .IsNot (.var 2) (.cst .non)) (.var 2) (.sub (.var 1) (.bin .Sub (.var 4) (.cst (.int 1))))) (.cons (.tup .nil) .nil))) .nil)) (.cons (.bin .Mult (.tup (.cons (.cst .non) .nil)) (.bin .Sub (.bif .len (.cons (.var 0) .nil)) (.var 5))) .nil))),
  .for (.name 8) (.rng (.cons (.bin .Sub (.var 5) (.cst (.int 1))) (.cons (.bin .Sub (.cst (.int 0)) (.cst (.int 1))) (.cons (.bin .Sub (.cst (.int 0)) (.cst (.int 1))) .nil)))) [
    .asg (.name 9) (.lst .nil),
    .for (.tup (.cons (.name 3) (.cons (.name 10) .nil))) (.val (.var 6)) [
      .asg (.name 9) (.bin .Add (.var 9) (.frz (.lc (.tup (.cons (.var 13) (.cons (.bin .Add (.tup (.cons (.var 12) .nil)) (.var 10)) .nil))) [11, 12, 13] (.tup (.cons (.name 12) (.cons (.name 13) .nil))) (.val (.cal 116 (.cons (.sub (.var 0) (.var 8)) (.cons (.sub (.var 1) (.var 8)) (.cons (.var 3) .nil))))) .nil)))],
    .asg (.name 6) (.var 9)],
  .ret (.bif .sorted (.cons (.frz (.lc (.tup (.cons (.var 3) (.cons (.bin .Add (.var 10) (.var 7)) .nil))) [11, 3, 10] (.tup (.cons (.name 3) (.cons (.name 10) .nil))) (.val (.var 6)) .nil)) .nil))]⟩
def F118 : Fn := ⟨2, 5, false, false, [
  .asg (.name 3) (.cal 104 (.cons (.var 0) .nil)),
  .asg (.name 4) (.cal 104 (.cons (.slc (.bin .Add (.var 0) (.bin .Mult (.lst (.cons (.cst (.str "last")) .nil)) (.cst (.int 5)))) .none (.some (.cst (.int 5)))) .nil)),
  .asg (.name 2) (.lst (.cons (.lam 1888) (.cons (.lam 1889) .nil))),
  .asg (.name 2) (.bin .Add (.var 2) (.lst (.cons (.lam 1890) (.cons (.lam 1891) .nil)))),
  .ifs (.not (.alr (.bin .Add (.var 2) (.lst (.cons (.lam 1892) .nil))) (.tup (.cons (.cst (.str "many")) (.cons (.cst (.int 0)) .nil))))) [
    .ret (.cst (.bl false))] [],
  .ifs (.or (.cmp .IsNot (.cal 46 (.cons (.lst (.cons (.cst (.int 1)) .nil)) (.cons (.lst (.cons (.cst (.int 1)) .nil)) .nil))) (.cst .non)) (.or (.cmp .IsNot (.cal 46 (.cons (.lst .nil) (.cons (.lst .nil) .nil))) (.cst .non)) (.cmp .IsNot (.cal 45 (.cons (.var 3) (.cons (.var 3) (.cons (.lst .nil) .nil)))) (.cst .non)))) [
    .ret (.cst (.bl false))] [],
  .ret (.and (.cmp .Eq (.cal 44 (.cons (.var 3) (.cons (.prp (.var 3) 12) (.cons (.lst .nil) .nil)))) (.tup (.cons (.cst (.int 1)) (.cons (.lst .nil) .nil)))) (.cmp .Is (.cal 46 (.cons (.lst (.cons (.cst (.int 1)) (.cons (.cst (.int 2)) .nil))) (.cons (.lst (.cons (.cst .non) .nil)) .nil))) (.cst .non)))]⟩
def F119 : Fn := ⟨2, 6, false, false, [
  .asg (.tup (.cons (.name 2) (.cons (.name 3) .nil))) (.app (.var 0) (.cons (.var 1) .nil)),
  .asg (.name 4) (.lst (.cons (.bif .list (.cons (.var 2) .nil)) (.cons (.var 3) (.cons (.cal 33 (.cons (.var 0) (.cons (.var 1) (.cons (.cst (.int 9)) .nil)))) (.cons (.cal 34 (.cons (.var 0) (.cons (.var 1) (.cons (.cst (.int 5)) .nil)))) (.cons (.cal 35 (.cons (.var 0) (.cons (.var 1) .nil))) .nil)))))),
  .asg (.name 4) (.bin .Add (.var 4) (.lst (.cons (.bif .list (.cons (.bmt .items (.cal 36 (.cons (.var 0) (.cons (.var 1) (.cons (.cst (.int 20)) .nil)))) .nil) .nil)) (.cons (.cal 42 (.cons (.var 0) (.cons (.var 3) (.cons (.sub (.var 2) (.neg (.cst (.int 1)))) .nil)))) .nil)))),
  .asg (.name 4) (.bin .Add (.var 4) (.lst (.cons (.sub (.cal 44 (.cons (.var 0) (.cons (.var 3) (.cons (.var 2) .nil)))) (.cst (.int 0))) (.cons (.cal 45 (.cons (.var 0) (.cons (.neg (.var 0)) (.cons (.lst (.cons (.cst (.int 1)) (.cons (.cst (.int 2)) .nil))) .nil)))) .nil)))),
  .asg (.name 5) (.cal 46 (.cons (.var 1) (.cons (.var 2) .nil))),
  .ret (.bin .Add (.var 4) (.lst (.cons (.ite (.cmp .Is (.var 5) (.cst .non)) (.cst (.str "")) (.prp (.var 5) 11)) (.cons (.prp (.ctr 7 (.cons (.var 0) (.cons (.cst (.int 0)) .nil))) 14) .nil))))]⟩
def F120 : Fn := ⟨1, 2, false, false, [
  .asg (.name 1) (.cal 102 (.cons (.var 0) (.cons (.cst (.int 5)) .nil))),
  .ret (.lst (.cons (.tup (.cons (.var 1) (.cons (.bin .Mult (.lst (.cons (.cst .non) .nil)) (.bif .len (.cons (.var 1) .nil))) (.cons (.lst .nil) .nil)))) (.cons (.lst .nil) (.cons (.lst .nil) .nil))))]⟩
def F121 : Fn := ⟨2, 4, false, false, [
  .par (.cons (.name 2) (.cons (.name 3) .nil)) (.cons (.cal 101 (.cons (.var 0) (.cons (.cst (.int 14)) .nil))) (.cons (.bif .len (.cons (.var 1) .nil)) .nil)),
  .ifs (.cmp .Lt (.var 2) (.cst (.int 5))) [
    .ret (.tup (.cons (.cst (.str "put")) (.cons (.sub (.lst (.cons (.bin .Sub (.cal 101 (.cons (.var 0) (.cons (.cst (.int 9)) .nil))) (.cst (.int 4))) (.cons (.bin .Pow (.cst (.int 10)) (.cst (.int 9))) (.cons (.bin .Add (.bin .Pow (.cst (.int 10)) (.cst (.int 9))) (.cst (.int 1))) .nil)))) (.sub (.lst (.cons (.cst (.int 0)) (.cons (.cst (.int 0)) (.cons (.cst (.int 0)) (.cons (.cst (.int 0)) (.cons (.cst (.int 1)) (.cons (.cst (.int 2)) .nil))))))) (.cal 101 (.cons (.var 0) (.cons (.cst (.int 6)) .nil))))) .nil)))] [],
  .ifs (.cmp .Lt (.var 2) (.cst (.int 7))) [
    .ret (.tup (.cons (.cst (.str "take")) (.cons (.cal 101 (.cons (.var 0) (.cons (.bin .Add (.var 3) (.bif .int (.cons (.cmp .Eq (.cal 101 (.cons (.var 0) (.cons (.cst (.int 4)) .nil))) (.cst (.int 0))) .nil))) .nil))) .nil)))] [],
  .ifs (.cmp .Lt (.var 2) (.cst (.int 9))) [
    .ret (.tup (.cons (.cst (.str "swap")) (.cons (.cal 101 (.cons (.var 0) (.cons (.var 3) .nil))) .nil)))] [],
  .ret (.tup (.cons (.sub (.lst (.cons (.cst (.str "undo")) (.cons (.cst (.str "undo")) (.cons (.cst (.str "redo")) (.cons (.cst (.str "redo")) (.cons (.cst (.str "undo")) .nil)))))) (.bin .Sub (.var 2) (.cst (.int 9)))) .nil))]⟩
def F122 : Fn := ⟨2, 10, false, false, [
  .asg (.tup (.cons (.name 2) (.cons (.name 3) (.cons (.name 4) .nil)))) (.var 0),
  .asg (.name 5) (.sub (.var 1) (.cst (.int 0))),
  .ifs (.cmp .Eq (.var 5) (.cst (.str "undo"))) [
    .ifs (.cmp .Eq (.var 3) (.lst .nil)) [
      .ret (.tup (.cons (.cst (.str "")) (.cons (.cst (.bl false)) (.cons (.var 0) .nil))))] [],
    .ret (.tup (.cons (.cst (.str "")) (.cons (.cst (.bl true)) (.cons (.lst (.cons (.sub (.sub (.var 3) (.neg (.cst (.int 1)))) (.cst (.int 1))) (.cons (.slc (.var 3) .none (.some (.neg (.cst (.int 1))))) (.cons (.bin .Add (.var 4) (.lst (.cons (.tup (.cons (.sub (.var 3) (.neg (.cst (.int 1)))) (.cons (.var 2) .nil))) .nil))) .nil)))) .nil))))] [],
  .ifs (.cmp .Eq (.var 5) (.cst (.str "redo"))) [
    .ifs (.cmp .Eq (.var 4) (.lst .nil)) [
      .ret (.tup (.cons (.cst (.str "")) (.cons (.cst (.bl false)) (.cons (.var 0) .nil))))] [],
    .asg (.tup (.cons (.name 6) (.cons (.name 7) .nil))) (.sub (.var 4) (.neg (.cst (.int 1)))),
    .ret (.tup (.cons (.cst (.str "")) (.cons (.cst (.bl true)) (.cons (.lst (.cons (.var 7) (.cons (.bin .Add (.var 3) (.lst (.cons (.var 6) .nil))) (.cons (.slc (.var 4) .none (.some (.neg (.cst (.int 1))))) .nil)))) .nil))))] [],
  .asg (.tup (.cons (.name 8) (.cons (.name 9) (.cons (.name 7) .nil)))) (.cal 123 (.cons (.var 2) (.cons (.var 1) .nil))),
  .ifs (.cmp .NotEq (.var 8) (.cst (.str ""))) [
    .ret (.tup (.cons (.var 8) (.cons (.cst (.int 0)) .nil)))] [],
  .ret (.tup (.cons (.cst (.str "")) (.cons (.var 9) (.cons (.lst (.cons (.var 7) (.cons (.bin .Add (.var 3) (.lst (.cons (.tup (.cons (.var 5) (.cons (.var 2) .nil))) .nil))) (.cons (.lst .nil) .nil)))) .nil))))]⟩
def F123 : Fn := ⟨2, 9, false, false, [
  .asg (.tup (.cons (.name 2) (.cons (.name 3) (.cons (.name 4) .nil)))) (.var 0),
  .asg (.tup (.cons (.name 5) (.cons (.name 6) .nil))) (.var 1),
  .ifs (.cmp .Eq (.var 5) (.cst (.str "put"))) [
    .ifs (.cmp .Gt (.var 6) (.bin .Pow (.cst (.int 10)) (.cst (.int 9)))) [
      .ret (.tup (.cons (.cst (.str "number")) (.cons (.cst (.int 0)) (.cons (.var 0) .nil))))] [],
    .asg (.tup (.cons (.name 3) (.cons (.name 7) .nil))) (.cal 106 (.cons (.var 2) (.cons (.var 3) (.cons (.var 6) .nil)))),
    .ret (.tup (.cons (.cst (.str "")) (.cons (.var 7) (.cons (.tup (.cons (.var 2) (.cons (.var 3) (.cons (.bin .Add (.var 4) (.bin .Mult (.lst (.cons (.var 7) .nil)) (.bif .int (.cons (.cmp .IsNot (.var 7) (.cst .non)) .nil)))) .nil)))) .nil))))] [],
  .ifs (.cmp .GtE (.var 6) (.bin .Sub (.bif .len (.cons (.var 2) .nil)) (.bif .int (.cons (.cmp .Eq (.var 5) (.cst (.str "swap"))) .nil)))) [
    .ret (.tup (.cons (.cst (.str "cell")) (.cons (.cst (.int 0)) (.cons (.var 0) .nil))))] [],
  .ifs (.cmp .Eq (.var 5) (.cst (.str "swap"))) [
    .asg (.name 8) (.bin .Add (.bin .Add (.slc (.var 2) .none (.some (.var 6))) (.lst (.cons (.sub (.var 2) (.bin .Add (.var 6) (.cst (.int 1)))) (.cons (.sub (.var 2) (.var 6)) .nil)))) (.slc (.var 2) (.some (.bin .Add (.var 6) (.cst (.int 2)))) .none)),
    .ret (.tup (.cons (.cst (.str "")) (.cons (.tup (.cons (.sub (.var 8) (.var 6)) (.cons (.sub (.var 8) (.bin .Add (.var 6) (.cst (.int 1)))) .nil))) (.cons (.tup (.cons (.var 8) (.cons (.var 3) (.cons (.var 4) .nil)))) .nil))))] [],
  .ifs (.cmp .Is (.sub (.var 3) (.var 6)) (.cst .non)) [
    .ret (.tup (.cons (.cst (.str "number")) (.cons (.cst (.int 0)) (.cons (.var 0) .nil))))] [],
  .ret (.tup (.cons (.cst (.str "")) (.cons (.sub (.var 3) (.var 6)) (.cons (.tup (.cons (.var 2) (.cons (.bin .Add (.bin .Add (.slc (.var 3) .none (.some (.var 6))) (.slc (.var 3) (.some (.bin .Add (.var 6) (.cst (.int 1)))) .none)) (.lst (.cons (.cst .non) .nil))) (.cons (.var 4) .nil)))) .nil))))]⟩
def F124 : Fn := ⟨2, 3, false, true, [
  .asg (.name 2) (.sub (.var 1) (.cst (.int 0))),
  .ifs (.cmp .Eq (.var 2) (.cst (.str "put"))) [
    .ret (.mth (.var 0) 35 (.cons (.sub (.var 1) (.cst (.int 1))) .nil))] [],
  .ifs (.cmp .Eq (.var 2) (.cst (.str "take"))) [
    .ret (.mth (.var 0) 36 (.cons (.sub (.var 1) (.cst (.int 1))) .nil))] [],
  .ifs (.cmp .Eq (.var 2) (.cst (.str "swap"))) [
    .ret (.mth (.var 0) 37 (.cons (.sub (.var 1) (.cst (.int 1))) .nil))] [],
  .ret (.ite (.cmp .Eq (.var 2) (.cst (.str "undo"))) (.mth (.var 0) 38 .nil) (.mth (.var 0) 39 .nil))]⟩
def F125 : Fn := ⟨2, 8, false, false, [
  .asg (.tup (.cons (.name 2) (.cons (.name 3) (.cons (.name 4) .nil)))) (.sub (.var 1) (.cst (.int 0))),
  .asg (.name 5) (.lst (.cons (.prp (.prp (.var 0) 16) 11) (.cons (.prp (.var 0) 17) (.cons (.prp (.var 0) 18) (.cons (.prp (.var 0) 19) .nil))))),
  .ret (.cal 108 (.cons (.var 5) (.cons (.lst (.cons (.bmt .join (.cst (.str " ")) (.cons (.var 2) .nil)) (.cons (.bif .tuple (.cons (.var 3) .nil)) (.cons (.var 4) (.cons (.frz (.lc (.sub (.var 7) (.cst (.int 0))) [6, 7] (.name 7) (.val (.sub (.var 1) (.cst (.int 1)))) .nil)) .nil))))) .nil)))]⟩
end SV
set_option linter.all false
set_option Elab.async false
set_option maxRecDepth 100000
set_option maxHeartbeats 4000000
namespace SV
open PySem PySem.Spec PyProof.Rows L2
section
variable {X : Cx} {g : Cfg} {c : Tc} {W : WX} {w : SV.W} {x y : Str} {i : Nat} {CX : CXT} {k : Nat} {f : Nat}
variable {a b d e : Expr} {a' b' d' : Ex} {es rest : List Expr} {es' : Exs} {p q tp pos apos sp_ : Pos} {fr frr : Bool} {ex : Option (Nat × SV.D)}
/-- a rule whose value is new, where that is not asked -/
theorem x_any {x' : Ex} (h : PE X e (tD g W true (evE w x'))) : PE X e (tD g W fr (evE w x')) := PE.fr (fun _ => rfl) h
theorem x_bin {op : Operator} (G : Gd X g c) (hop : op ≠ .RShift) (ha : PE X a (tD g W false (evE w a'))) (hb : PE X b (tD g W false (evE w b'))) : PE X (.BinOp a op b pos) (tD g W fr (evE w (.bin op a' b'))) := x_any (ev_bin G hop ha hb)
theorem x_rsh (T : Fx X g W w CX k) (ha : PE X a (tD g W false (evE w a'))) (hb : PE X b (tD g W false (evE w b'))) : PE X (.BinOp a .RShift b pos) (tD g W false (evE w (.bin .RShift a' b'))) := ev_rsh T ha hb
theorem x_neg (T : Fx X g W w CX k) (ha : PE X a (tD g W false (evE w a'))) : PE X (.UnaryOp .USub a pos) (tD g W false (evE w (.neg a'))) := ev_neg T ha
theorem x_cmp {op : CmpOp} (G : Gd X g c) (ha : PE X a (tD g W false (evE w a'))) (hb : PE X b (tD g W false (evE w b'))) (hm : behindInMarks op b = false) : PE X (.Compare a [op] [b] pos) (tD g W false (evE w (.cmp op a' b'))) := ev_cmp G ha hb hm
theorem t_cmp {op : CmpOp} (G : Gd X g c) (ha : PE X a (tD g W false (evE w a'))) (hb : PE X b (tD g W false (evE w b'))) (hm : behindInMarks op b = false) : PT X (.Compare a [op] [b] pos) (tDb g W (bE (evE w (.cmp op a' b')))) := pt_cmp G ha hb hm
theorem x_chn {o1 o2 : CmpOp} (G : Gd X g c) (ha : PE X a (tD g W false (evE w a'))) (hb : PE X b (tD g W false (evE w b'))) (hd : PE X d (tD g W false (evE w d'))) (hm : lastMarks [o1, o2] [b, d] = false) :
    PE X (.Compare a [o1, o2] [b, d] pos) (tD g W false (evE w (.chn o1 o2 a' b' d'))) := ev_chn G ha hb hd hm
theorem t_chn {o1 o2 : CmpOp} (G : Gd X g c) (ha : PE X a (tD g W false (evE w a'))) (hb : PE X b (tD g W false (evE w b'))) (hd : PE X d (tD g W false (evE w d'))) (hm : lastMarks [o1, o2] [b, d] = false) :
    PT X (.Compare a [o1, o2] [b, d] pos) (tDb g W (bE (evE w (.chn o1 o2 a' b' d')))) := pt_chn G ha hb hd hm
theorem x_and (ha : PE X a (tD g W false (evE w a'))) (hb : PE X (.BoolOp .And (b :: rest) pos) (tD g W false (evE w b'))) : PE X (.BoolOp .And (a :: b :: rest) pos) (tD g W false (evE w (.and a' b'))) := ev_and2 ha hb
theorem x_or (ha : PE X a (tD g W false (evE w a'))) (hb : PE X (.BoolOp .Or (b :: rest) pos) (tD g W false (evE w b'))) : PE X (.BoolOp .Or (a :: b :: rest) pos) (tD g W false (evE w (.or a' b'))) := ev_or2 ha hb
theorem x_b1 {op : BoolOp} (ha : PE X a (tD g W fr (evE w a'))) : PE X (.BoolOp op [a] pos) (tD g W fr (evE w a')) := ev_bool1 ha
theorem x_not (ha : PE X a (tD g W false (evE w a'))) : PE X (.UnaryOp .Not a pos) (tD g W false (evE w (.not a'))) := ev_not2 ha
theorem t_val (h : PE X e (tD g W false (evE w a'))) (he : ∀ whole, isTrue e X.env whole = (do let v ← whole; standAt e.pos; holding [v] (truthy v))) : PT X e (tDb g W (bE (evE w a'))) := pt_of h he
theorem t_and (ha : PT X a (tDb g W (bE (evE w a')))) (hb : PW X (.BoolOp .And (b :: rest) pos) (tDb g W (bE (evE w b')))) : PT X (.BoolOp .And (a :: b :: rest) pos) (tDb g W (bE (evE w (.and a' b')))) := (pw_and2 ha hb).pt
theorem t_or (ha : PT X a (tDb g W (bE (evE w a')))) (hb : PW X (.BoolOp .Or (b :: rest) pos) (tDb g W (bE (evE w b')))) : PT X (.BoolOp .Or (a :: b :: rest) pos) (tDb g W (bE (evE w (.or a' b')))) := (pw_or2 ha hb).pt
theorem w_and1 (ha : PT X a (tDb g W (bE (evE w a')))) : PW X (.BoolOp .And [a] pos) (tDb g W (bE (evE w a'))) := pw_and1D ha
theorem w_or1 (ha : PT X a (tDb g W (bE (evE w a')))) : PW X (.BoolOp .Or [a] pos) (tDb g W (bE (evE w a'))) := pw_or1D ha
theorem x_lst (h : PA X es (tDs g W (evEs w es'))) : PE X (.List es pos) (tD g W fr (evE w (.lst es'))) := x_any (ev_lst h)
theorem x_new (ha : PE X a (tD g W true (evE w a'))) : PE X a (tD g W false (evE w (.new a'))) := ev_new ha
theorem x_frz (ha : PE X a (tD g W false (evE w a'))) : PE X a (tD g W false (evE w (.frz a'))) := ev_frz ha
theorem o_some (ha : PE X a (tD g W false (evE w a'))) : PO X (some a) (tO g W (evO w (.some a'))) := po_someD ha
theorem x_slc {lo hi : Option Expr} {fl fh : Exo} (ha : PE X a (tD g W false (evE w a'))) (hl : PO X lo (tO g W (evO w fl))) (hh : PO X hi (tO g W (evO w fh))) : PE X (.Subscript a (.Slice lo hi none q) pos) (tD g W fr (evE w (.slc a' fl fh))) := x_any (ev_slc ha hl hh)
theorem x_sub (G : Gd X g c) (T : Fx X g W w CX k) (ha : PE X a (tD g W false (evE w a'))) (hb : PE X b (tD g W false (evE w b'))) (hs : ∀ o i, subscripted b false o i = operate [o, i] (getItem o i)) (hl : ∀ o i, subscripted b true o i = runValue (.builtin "lifetime.subscript" ⟨[o, i], []⟩)) :
    PE X (.Subscript a b pos) (tD g W false (evE w (.sub a' b'))) := ev_sub G T ha hb hs hl
theorem a_cons (ha : PE X a (tD g W false (evE w a'))) (hr : PA X es (tDs g W (evEs w es'))) (hs : noStar a = true) : PA X (a :: es) (tDs g W (evEs w (.cons a' es'))) := pa_consD ha hr hs
theorem a_star (G : Gd X g c) (ha : PE X a (tD g W false (evE w a'))) (hr : PA X es (tDs g W (evEs w es'))) : PA X (.Starred a p :: es) (tDs g W (evEs w (.star a' es'))) := pa_starD G.K ha hr
theorem x_isiO {n : Nat} (G : Gd X g c) (T : Fx X g W w CX k) (hx : isGlob c "isinstance" = true) (ha : PE X a (tD g W false (evE w a'))) (h1 : noStar a = true) (hy : isGlob c y = true) (hn : n ∈ g.asks) (hy2 : tGet tCls y = some n) :
    PE X (.Call (.Name "isinstance" p) [a, .Name y tp] [] pos) (tD g W fr (evE w (.isi a' (.own n)))) := ev_isiO G T hx ha h1 hy hn hy2
theorem bn_int : bltNames.contains "int" = true := by decide +kernel
theorem bn_bool : bltNames.contains "bool" = true := by decide +kernel
theorem bn_str : bltNames.contains "str" = true := by decide +kernel
theorem bn_tuple : bltNames.contains "tuple" = true := by decide +kernel
theorem bn_list : bltNames.contains "list" = true := by decide +kernel
theorem bn_dict : bltNames.contains "dict" = true := by decide +kernel
theorem bv_int : bootBuiltins "int" = some (.type "int") := by decide +kernel
theorem bv_bool : bootBuiltins "bool" = some (.type "bool") := by decide +kernel
theorem bv_str : bootBuiltins "str" = some (.type "str") := by decide +kernel
theorem bv_tuple : bootBuiltins "tuple" = some (.type "tuple") := by decide +kernel
theorem bv_list : bootBuiltins "list" = some (.type "list") := by decide +kernel
theorem bv_dict : bootBuiltins "dict" = some (.type "dict") := by decide +kernel
/-- isinstance of a built-in type: its name, its kind -/
def isiTy (y : Str) (t : Ty) : Prop := bltNames.contains y = true ∧ (∀ n, t ≠ .own n) ∧ bootBuiltins y = some (.type (tyN (some t)))
theorem ity_int : isiTy "int" .int := ⟨bn_int, (by intro n z; cases z), bv_int⟩
theorem ity_bool : isiTy "bool" .bool := ⟨bn_bool, (by intro n z; cases z), bv_bool⟩
theorem ity_str : isiTy "str" .str := ⟨bn_str, (by intro n z; cases z), bv_str⟩
theorem ity_tuple : isiTy "tuple" .tuple := ⟨bn_tuple, (by intro n z; cases z), bv_tuple⟩
theorem ity_list : isiTy "list" .list := ⟨bn_list, (by intro n z; cases z), bv_list⟩
theorem ity_dict : isiTy "dict" .dict := ⟨bn_dict, (by intro n z; cases z), bv_dict⟩
theorem x_isiB {t : Ty} (G : Gd X g c) (T : Fx X g W w CX k) (hx : isGlob c "isinstance" = true) (ha : PE X a (tD g W false (evE w a'))) (h1 : noStar a = true) (hy : isGlob c y = true) (ht : isiTy y t) :
    PE X (.Call (.Name "isinstance" p) [a, .Name y tp] [] pos) (tD g W fr (evE w (.isi a' t))) := ev_isiB G T hx ha h1 hy (T.blt y ht.1) ht.2.1 ht.2.2
theorem x_ctrS (G : Gd X g c) (T : Fx X g W w CX k) (hx : isGlob c x = true) (hf : (x, f) ∈ g.clss) (ha : PE X a (tD g W false (evE w a'))) :
    PE X (.Call (.Name x p) [.Starred a sp_] [] pos) (tD g W false (evE w (.ctr f (.star a' .nil)))) := ev_ctrS G T hx hf ha
theorem x_fld {f : Nat} {m : Str} (G : Gd X g c) (T : Fx X g W w CX k) (hm : fname f = m) (hab : ab0 a = true) (ha : PE X a (tD g W false (evE w a'))) : PE X (.Attribute a m pos) (tD g W false (evE w (.fld a' f))) := ev_fld2 G T hm hab ha
theorem x_prp {m : Nat} {nm : Str} (T : Fx X g W w CX k) (hm : mname m = nm) (h10 : 10 ≤ m) (h30 : m < 30) (hab : ab0 a = true) (ha : PE X a (tD g W false (evE w a'))) : PE X (.Attribute a nm pos) (tD g W false (evE w (.prp a' m))) := ev_prp T hm h10 h30 hab (fun h => nomatch h) ha
theorem x_kcn (G : Gd X g c) (T : Fx X g W w CX k) (hab : ab0 a = true) (ha : PE X a (tD g W false (evE w a'))) : PE X (.Attribute a "KIND" pos) (tD g W false (evE w (.kcn a' 0))) := ev_kcn G T hab ha
theorem x_app (T : Fx X g W w CX k) (ha : PE X a (tD g W false (evE w a'))) (hes : PA X (b :: es) (tDs g W (evEs w es'))) (h1 : (b :: es).all noStar = true)
    (ht : eval (.Call a (b :: es) [] pos) X.env = (do callWith pos (← eval a X.env) [] (backTo pos (starEach (b :: es) X.env)) (backToKw pos (keywordEach [] X.env)))) :
    PE X (.Call a (b :: es) [] pos) (tD g W false (evE w (.app a' es'))) := ev_app T ha hes h1 ht
/-- Chain.MAX_CELLS -/
theorem x_maxc (G : Gd X g c) (T : Fx X g W w CX k) (hx : isGlob c "Chain" = true) (hf : (("Chain" : Str), 5) ∈ g.clss) : PE X (.Attribute (.Name "Chain" p) "MAX_CELLS" pos) (tD g W fr (evE w (.cst (.int 8)))) := by
  obtain ⟨hg, ho⟩ := glob_ok G hx
  obtain ⟨mc, u, r, v⟩ := T.cv hf
  refine PE.imp (ClX.pe_cval (pe_glob hg (T.gcl "Chain" 5 hf).2.1 (v := .ref (g.aC 5)) rfl (okN_d ho).1)) fun σ H Q q => ?_
  exact ⟨_, mc, .int 8, u, rfl, r, v, cst_imp (fun _ _ => by simp only [Den]) (by intro a; constructor <;> (intro z; cases z)) q⟩
theorem x_Blen (G : Gd X g c) (T : Fx X g W w CX k) (hx : isGlob c "len" = true) (ha : PA X (a :: es) (tDs g W (evEs w es'))) (h1 : (a :: es).all noStar = true) : PE X (.Call (.Name "len" p) (a :: es) [] pos) (tD g W fr (evE w (.bif .len es'))) :=
  ev_bifB G hx (T.blt _ (by decide +kernel)) (by decide +kernel) (len_X T) ha h1
theorem x_Babs (G : Gd X g c) (T : Fx X g W w CX k) (hx : isGlob c "abs" = true) (ha : PA X (a :: es) (tDs g W (evEs w es'))) (h1 : (a :: es).all noStar = true) : PE X (.Call (.Name "abs" p) (a :: es) [] pos) (tD g W fr (evE w (.bif .abs es'))) :=
  ev_bifB G hx (T.blt _ (by decide +kernel)) (by decide +kernel) (bi_F (by intro z; cases z) bi_abs) ha h1
theorem x_Bmin2 (G : Gd X g c) (T : Fx X g W w CX k) (hx : isGlob c "min" = true) (ha : PA X (a :: es) (tDs g W (evEs w es'))) (h1 : (a :: es).all noStar = true) : PE X (.Call (.Name "min" p) (a :: es) [] pos) (tD g W fr (evE w (.bif .min2 es'))) :=
  ev_bifB G hx (T.blt _ (by decide +kernel)) (by decide +kernel) (bi_F (by intro z; cases z) (bi_min2 G.calm)) ha h1
theorem x_Bmax2 (G : Gd X g c) (T : Fx X g W w CX k) (hx : isGlob c "max" = true) (ha : PA X (a :: es) (tDs g W (evEs w es'))) (h1 : (a :: es).all noStar = true) : PE X (.Call (.Name "max" p) (a :: es) [] pos) (tD g W fr (evE w (.bif .max2 es'))) :=
  ev_bifB G hx (T.blt _ (by decide +kernel)) (by decide +kernel) (bi_F (by intro z; cases z) (bi_max2 G.calm)) ha h1
theorem x_Bmin1 (G : Gd X g c) (T : Fx X g W w CX k) (hx : isGlob c "min" = true) (ha : PA X (a :: es) (tDs g W (evEs w es'))) (h1 : (a :: es).all noStar = true) : PE X (.Call (.Name "min" p) (a :: es) [] pos) (tD g W fr (evE w (.bif .min1 es'))) :=
  ev_bifB G hx (T.blt _ (by decide +kernel)) (by decide +kernel) (bi_F (by intro z; cases z) (bi_min1 G.K G.calm)) ha h1
theorem x_Bmax1 (G : Gd X g c) (T : Fx X g W w CX k) (hx : isGlob c "max" = true) (ha : PA X (a :: es) (tDs g W (evEs w es'))) (h1 : (a :: es).all noStar = true) : PE X (.Call (.Name "max" p) (a :: es) [] pos) (tD g W fr (evE w (.bif .max1 es'))) :=
  ev_bifB G hx (T.blt _ (by decide +kernel)) (by decide +kernel) (bi_F (by intro z; cases z) (bi_max1 G.K G.calm)) ha h1
theorem x_Blist (G : Gd X g c) (T : Fx X g W w CX k) (hx : isGlob c "list" = true) (ha : PA X (a :: es) (tDs g W (evEs w es'))) (h1 : (a :: es).all noStar = true) : PE X (.Call (.Name "list" p) (a :: es) [] pos) (tD g W fr (evE w (.bif .list es'))) :=
  ev_bifT G hx (T.blt _ (by decide +kernel)) bv_list (bi_F (by intro z; cases z) bi_list) ha h1
theorem x_Btuple (G : Gd X g c) (T : Fx X g W w CX k) (hx : isGlob c "tuple" = true) (ha : PA X (a :: es) (tDs g W (evEs w es'))) (h1 : (a :: es).all noStar = true) : PE X (.Call (.Name "tuple" p) (a :: es) [] pos) (tD g W fr (evE w (.bif .tuple es'))) :=
  ev_bifT G hx (T.blt _ (by decide +kernel)) bv_tuple (bi_F (by intro z; cases z) (bi_tuple G.K)) ha h1
theorem x_Bint (G : Gd X g c) (T : Fx X g W w CX k) (hx : isGlob c "int" = true) (ha : PA X (a :: es) (tDs g W (evEs w es'))) (h1 : (a :: es).all noStar = true) : PE X (.Call (.Name "int" p) (a :: es) [] pos) (tD g W fr (evE w (.bif .int es'))) :=
  ev_bifT G hx (T.blt _ (by decide +kernel)) bv_int bi_intS ha h1
theorem x_Bstr (G : Gd X g c) (T : Fx X g W w CX k) (hx : isGlob c "str" = true) (ha : PA X (a :: es) (tDs g W (evEs w es'))) (h1 : (a :: es).all noStar = true) : PE X (.Call (.Name "str" p) (a :: es) [] pos) (tD g W fr (evE w (.bif .str es'))) :=
  ev_bifT G hx (T.blt _ (by decide +kernel)) bv_str bi_str ha h1
variable {o : Expr} {o' : Ex}
theorem x_Mappend (G : Gd X g c) (hab : ab0 o = true) (ho : PE X o (tD g W false (evE w o'))) (hes : PA X (e :: es) (tDs g W (evEs w es'))) (h1 : (e :: es).all noStar = true) (hl : (e :: es).length < 29) (hline : (apos.endLine == pos.line) = true) : PE X (.Call (.Attribute o "append" apos) (e :: es) [] pos) (tD g W fr (evE w (.bmt .append o' es'))) :=
  ev_bmt G PySem.F.plainAttrs_list PySem.F.slot_list_append PySem.F.type_list_append mt_append mt_D_append calm_append hab ho hes h1 hl hline
theorem x_Mextend (G : Gd X g c) (hab : ab0 o = true) (ho : PE X o (tD g W false (evE w o'))) (hes : PA X (e :: es) (tDs g W (evEs w es'))) (h1 : (e :: es).all noStar = true) (hl : (e :: es).length < 29) (hline : (apos.endLine == pos.line) = true) : PE X (.Call (.Attribute o "extend" apos) (e :: es) [] pos) (tD g W fr (evE w (.bmt .extend o' es'))) :=
  ev_bmt G PySem.F.plainAttrs_list PySem.F.slot_list_extend PySem.F.type_list_extend mt_extend mt_D_extend calm_extend hab ho hes h1 hl hline
theorem x_Mpop1 (G : Gd X g c) (hab : ab0 o = true) (ho : PE X o (tD g W false (evE w o'))) (hes : PA X (e :: es) (tDs g W (evEs w es'))) (h1 : (e :: es).all noStar = true) (hl : (e :: es).length < 29) (hline : (apos.endLine == pos.line) = true) : PE X (.Call (.Attribute o "pop" apos) (e :: es) [] pos) (tD g W false (evE w (.bmt .pop1 o' es'))) :=
  ev_bmt G PySem.F.plainAttrs_list PySem.F.slot_list_pop PySem.F.type_list_pop mt_popAt mt_D_pop1 calm_pop1 hab ho hes h1 hl hline
theorem x_Mpop0 (G : Gd X g c) (hab : ab0 o = true) (ho : PE X o (tD g W false (evE w o'))) (hline : (apos.endLine == pos.line) = true) : PE X (.Call (.Attribute o "pop" apos) [] [] pos) (tD g W false (evE w (.bmt .pop0 o' .nil))) :=
  ev_bmt0 G PySem.F.plainAttrs_list PySem.F.slot_list_pop PySem.F.type_list_pop mt_pop mt_D_pop0 calm_pop0 hab ho hline
theorem x_Mcount (G : Gd X g c) (hab : ab0 o = true) (ho : PE X o (tD g W false (evE w o'))) (hes : PA X (e :: es) (tDs g W (evEs w es'))) (h1 : (e :: es).all noStar = true) (hl : (e :: es).length < 29) (hline : (apos.endLine == pos.line) = true) : PE X (.Call (.Attribute o "count" apos) (e :: es) [] pos) (tD g W fr (evE w (.bmt .count o' es'))) :=
  ev_bmt G PySem.F.plainAttrs_list PySem.F.slot_list_count PySem.F.type_list_count (mt_countD (by have := G.un; omega)) (mt_D_count G.K) calm_count hab ho hes h1 hl hline
theorem x_Mindex (G : Gd X g c) (hab : ab0 o = true) (ho : PE X o (tD g W false (evE w o'))) (hes : PA X (e :: es) (tDs g W (evEs w es'))) (h1 : (e :: es).all noStar = true) (hl : (e :: es).length < 29) (hline : (apos.endLine == pos.line) = true) : PE X (.Call (.Attribute o "index" apos) (e :: es) [] pos) (tD g W fr (evE w (.bmt .index o' es'))) :=
  ev_bmt G PySem.F.plainAttrs_list PySem.F.slot_list_index PySem.F.type_list_index (mt_indexD (by have := G.un; omega)) (mt_D_index G.K) calm_index hab ho hes h1 hl hline
theorem x_Mjoin (G : Gd X g c) (hab : ab0 o = true) (ho : PE X o (tD g W false (evE w o'))) (hes : PA X (e :: es) (tDs g W (evEs w es'))) (h1 : (e :: es).all noStar = true) (hl : (e :: es).length < 29) (hline : (apos.endLine == pos.line) = true) : PE X (.Call (.Attribute o "join" apos) (e :: es) [] pos) (tD g W fr (evE w (.bmt .join o' es'))) :=
  ev_bmt G PySem.F.plainAttrs_str PySem.F.slot_str_join PySem.F.type_str_join mt_join (mt_D_join G.K) calm_join hab ho hes h1 hl hline
theorem i_val {tg : Expr} (G : Gd X g c) (ha : PE X a (tD g W false (evE w a'))) : PI X tg a (iD g W (evI w (.val a'))) := pi_valD G.K ha
theorem i_rng1 {tg : Expr} (G : Gd X g c) (T : Fx X g W w CX k) (hg : isGlob c "range" = true) (ha : PE X a (tD g W false (evE w a'))) (h1 : noStar a = true) : PI X tg (.Call (.Name "range" p) [a] [] pos) (iD g W (evI w (.rng (.cons a' .nil)))) :=
  pi_rng1 hg G (T.blt _ (by decide +kernel)) ha h1
theorem i_rng2 {tg : Expr} (G : Gd X g c) (T : Fx X g W w CX k) (hg : isGlob c "range" = true) (ha : PE X a (tD g W false (evE w a'))) (hb : PE X b (tD g W false (evE w b'))) (h1 : noStar a = true) (h2 : noStar b = true) : PI X tg (.Call (.Name "range" p) [a, b] [] pos) (iD g W (evI w (.rng (.cons a' (.cons b' .nil))))) :=
  pi_rng2 hg G (T.blt _ (by decide +kernel)) ha hb h1 h2
theorem i_enm {elts : List Expr} {kk : Nat} {tpos : Pos} (G : Gd X g c) (T : Fx X g W w CX k) (hg : isGlob c "enumerate" = true) (ha : PE X a (tD g W false (evE w a'))) (h1 : noStar a = true) : PI X (.Tuple elts kk tpos) (.Call (.Name "enumerate" p) [a] [] pos) (iD g W (evI w (.enm a'))) :=
  pi_enmD hg G (T.blt _ (by decide +kernel)) ha h1
theorem i_zip {elts : List Expr} {kk : Nat} {tpos : Pos} (G : Gd X g c) (T : Fx X g W w CX k) (hg : isGlob c "zip" = true) (ha : PE X a (tD g W false (evE w a'))) (hb : PE X b (tD g W false (evE w b'))) (h1 : noStar a = true) (h2 : noStar b = true) : PI X (.Tuple elts kk tpos) (.Call (.Name "zip" p) [a, b] [] pos) (iD g W (evI w (.zip a' b'))) :=
  pi_zipD hg G (T.blt _ (by decide +kernel)) ha hb h1 h2
theorem s_exp {e' : Ex} (he : PE X e (tD g W false (evE w e'))) (hs : swapsWith e none pos.line X.env = pure false) : PS X (.Expr e pos) (tS g W frr (exS w ex (.exp e'))) := ps_exp he hs
theorem s_asg {tg : Expr} {e' : Ex} {t : Tg} (he : PE X e (tD g W false (evE w e'))) (hg : PG X tg (gD g W (asg w t))) (hs : swapsWithSole [tg] e pos.line X.env = pure false) (hw : swappedStores [tg] e X.env = pure none) (h1 : noStar tg = true) : PS X (.Assign [tg] e pos) (tS g W frr (exS w ex (.asg t e'))) := ps_asgD he hg hs hw h1
theorem s_fld {e' : Ex} {nm : Str} (G : Gd X g c) (T : Fx X g W w CX k) (hm : fname f = nm) (ho : PE X o (tD g W false (evE w o'))) (he : PE X e (tD g W false (evE w e'))) (hs : swapsWith e (some (.Attribute o nm q)) pos.line X.env = pure false) :
    PS X (.Assign [.Attribute o nm q] e pos) (tS g W frr (exS w ex (.asg (.att o' f) e'))) := ps_fldD T hm ho he G.K hs
theorem s_par {j : Nat} {px py pt : Pos} {kt k2 pt2} (G : Gd X g c) (hx : slotOf c x = some i) (hy : slotOf c y = some j) (hij : i ≠ j) (lx : (c.sc.names.lookup x == some .local) = true) (ly : (c.sc.names.lookup y == some .local) = true)
    (ha : PE X a (tD g W false (evE w a'))) (hb : PE X b (tD g W false (evE w b'))) (na : noStar a = true) (nb : noStar b = true)
    (hw : swappedStores [.Tuple [.Name x px, .Name y py] kt pt] (.Tuple [a, b] k2 pt2) X.env = pure (some [x, y])) :
    PS X (.Assign [.Tuple [.Name x px, .Name y py] kt pt] (.Tuple [a, b] k2 pt2) pos) (tS g W frr (exS w ex (.par (.cons (.name i) (.cons (.name j) .nil)) (.cons a' (.cons b' .nil))))) := ps_parD G hx hy hij (loc_G G lx) (loc_G G ly) ha hb na nb hw
theorem s_par3 {z : Str} {j l : Nat} {px py pz pt : Pos} {kt k2 pt2} (G : Gd X g c) (hx : slotOf c x = some i) (hy : slotOf c y = some j) (hz : slotOf c z = some l) (hij : i ≠ j) (hil : i ≠ l) (hjl : j ≠ l) (lx : (c.sc.names.lookup x == some .local) = true) (ly : (c.sc.names.lookup y == some .local) = true) (lz : (c.sc.names.lookup z == some .local) = true)
    (ha : PE X a (tD g W false (evE w a'))) (hb : PE X b (tD g W false (evE w b'))) (hd : PE X d (tD g W false (evE w d'))) (na : noStar a = true) (nb : noStar b = true) (nd : noStar d = true)
    (hw : swappedStores [.Tuple [.Name x px, .Name y py, .Name z pz] kt pt] (.Tuple [a, b, d] k2 pt2) X.env = pure (some [x, y, z])) :
    PS X (.Assign [.Tuple [.Name x px, .Name y py, .Name z pz] kt pt] (.Tuple [a, b, d] k2 pt2) pos) (tS g W frr (exS w ex (.par (.cons (.name i) (.cons (.name j) (.cons (.name l) .nil))) (.cons a' (.cons b' (.cons d' .nil)))))) := ps_par3D G hx hy hz hij hil hjl (loc_G G lx) (loc_G G ly) (loc_G G lz) ha hb hd na nb nd hw
theorem s_aug {op : Operator} {e' : Ex} (G : Gd X g c) (h : slotOf c x = some i) (hx : (c.sc.names.lookup x == some .local || c.sc.names.lookup x == some .cell) = true) (hf : X.fn x = true) (he : PE X e (tD g W false (evE w e'))) :
    PS X (.AugAssign (.Name x q) op e pos) (tS g W frr (exS w ex (.aug i op e'))) := ps_augD G h (Loc_G G hx) (.inl hf) he
theorem g_name (G : Gd X g c) (h : slotOf c x = some i) (hx : (c.sc.names.lookup x == some .local || c.sc.names.lookup x == some .cell) = true) (hf : X.fn x = true) : PG X (.Name x pos) (gD g W (asg w (.name i))) := pg_nameD G h (Loc_G G hx) (.inl hf)
theorem g_sub (G : Gd X g c) (ha : PE X a (tD g W false (evE w a'))) (hb : PE X b (tD g W false (evE w b'))) (hs : noSlice b = true) : PG X (.Subscript a b pos) (gD g W (asg w (.sub a' b'))) := pg_subD (by have := G.un; omega) ha hb hs
theorem w_name {own : List Nat} (G : Gd X g c) (h : slotOf c x = some i) (hi : (own.contains i) = true) (hx : (c.sc.names.lookup x == some .local) = true) : PG X (.Name x pos) (gW g own (asg w (.name i))) :=
  pg_nameW G h (by simpa using hi) (Loc_G G (by rw [hx]; rfl)) (.inr (loc_G G hx))
theorem w_cell {own : List Nat} {scope : Scope} (G : Gd X g c) (hfn : ∀ x, X.fn x = (scope.names.lookup x == some .cell)) (h : slotOf c x = some i) (hi : (own.contains i) = true) (hx : (c.sc.names.lookup x == some .local || c.sc.names.lookup x == some .cell) = true) (hc : (scope.names.lookup x == some .cell) = true) : PG X (.Name x pos) (gW g own (asg w (.name i))) :=
  pg_nameW G h (by simpa using hi) (Loc_G G hx) (.inl ((hfn x).trans hc))
end
end SV
set_option linter.all false
set_option Elab.async false
set_option maxRecDepth 100000
set_option maxHeartbeats 4000000
namespace SV
open PySem PySem.Spec PyProof.Rows L2
theorem clsIn_some {K : PySem.W.Frag} {C : Addr} (hd : PySem.W.hasDictIn K C = true) : (PySem.W.clsIn K C).isSome = true := by
  obtain ⟨cd, hc, _⟩ := PySem.W.any_some hd
  rw [hc]
  rfl
theorem kit_cb {K : PySem.W.Frag} {C : Addr} {T : String} {b : Bool} (h : PySem.W.subIn K (.ref C) (.type T) = some b) (hT : PySem.W.kitMeta T = true) : PySem.W.kitOne K (.ref C) (.type T) = some b := by
  unfold PySem.W.kitOne
  rw [if_neg (by intro z; cases eq_of_beq z)]
  show (if PySem.W.kitMeta T = true then PySem.W.subIn K (.ref C) (.type T) else none) = some b
  rw [if_pos hT, h]
theorem kit_bc {K : PySem.W.Frag} {C : Addr} {T : String} {b : Bool} (hd : PySem.W.hasDictIn K C = true) (ty : PySem.W.typeIn K (.ref C) = some (.type "type")) (h : PySem.W.subIn K (.type T) (.ref C) = some b) : PySem.W.kitOne K (.type T) (.ref C) = some b := by
  unfold PySem.W.kitOne
  rw [if_neg (by intro z; cases eq_of_beq z)]
  show (if ((PySem.W.clsIn K C).isSome && PySem.W.typeIn K (.ref C) == some (.type "type")) = true then PySem.W.subIn K (.type T) (.ref C) else none) = some b
  rw [if_pos (by rw [clsIn_some hd, ty]; rfl), h]
theorem kit_cc {K : PySem.W.Frag} {C E : Addr} {b : Bool} (hd : PySem.W.hasDictIn K C = true) (ty : PySem.W.typeIn K (.ref C) = some (.type "type")) (self : PySem.W.subIn K (.ref C) (.ref C) = some true) (h : PySem.W.subIn K (.ref E) (.ref C) = some b) : PySem.W.kitOne K (.ref E) (.ref C) = some b := by
  unfold PySem.W.kitOne
  split
  · rename_i z
    have := eq_of_beq z
    cases this
    rw [self] at h
    exact h
  · show (if ((PySem.W.clsIn K C).isSome && PySem.W.typeIn K (.ref C) == some (.type "type")) = true then PySem.W.subIn K (.ref E) (.ref C) else none) = some b
    rw [if_pos (by rw [clsIn_some hd, ty]; rfl), h]
theorem tGet_mem {α : Type} : ∀ {t : Tab α} {x : Str} {a : α}, tGet t x = some a → (x, a) ∈ t
  | [], x, a, h => by cases h
  | (y, b) :: r, x, a, h => by
    simp only [tGet] at h
    split at h
    · rename_i e
      cases h
      subst e
      exact List.mem_cons_self
    · exact List.mem_cons_of_mem _ (tGet_mem h)
theorem tcl0 {x : Str} (h : tGet tCls x = some 0) : x = "Cell" := by
  have h := tGet_mem h
  simp only [tCls, List.mem_cons, Prod.mk.injEq, List.not_mem_nil, or_false] at h
  rcases h with h | h | h | h | h | h | h | h | h
  · exact h.1
  all_goals exact absurd h.2 (by decide)
theorem tcl5 {x : Str} (h : tGet tCls x = some 5) : x = "Chain" := by
  have h := tGet_mem h
  simp only [tCls, List.mem_cons, Prod.mk.injEq, List.not_mem_nil, or_false] at h
  rcases h with h | h | h | h | h | h | h | h | h
  · exact absurd h.2 (by decide)
  · exact absurd h.2 (by decide)
  · exact absurd h.2 (by decide)
  · exact absurd h.2 (by decide)
  · exact absurd h.2 (by decide)
  · exact h.1
  all_goals exact absurd h.2 (by decide)
/-- a class asked for by isinstance, by the text's facts -/
structure IsiK (K : PySem.W.Frag) (mg : Str → Option Value) (aC : Nat → Addr) (t : Nat) : Prop where
  mg : ∀ x, tGet tCls x = some t → mg x = some (.ref (aC t))
  kb : ∀ a : Option Ty, (∀ c, a ≠ some (.own c)) → PySem.W.kitOne K (.type (tyN a)) (.ref (aC t)) = some false
  ko : ∀ c, c < 9 → (t = 0 ∨ (t = 5 ∧ c ≤ 5)) → PySem.W.kitOne K (.ref (aC c)) (.ref (aC t)) = some (isSub c t)
/-- what is known of the text -/
structure Tx (K : PySem.W.Frag) (mg : Str → Option Value) (g : Cfg) (meth : Nat → Nat → Option Nat) (init : Nat → Option Nat) (kcon : Nat → Nat → Option D) : Prop where
  cls : ∀ cl, cl < 9 → Cls K (g.aC cl)
  fld : ∀ cl f, hasF cl f = true → NoAttr K (g.aC cl) (fname f)
  kcon : ∀ cl j d, kcon cl j = some d → cl < 9 ∧ j = 0 ∧ ∃ z u, d = .str z ∧ Con K (g.aC cl) "KIND" (.str z) u
  gfn : ∀ x i, (x, i) ∈ g.fns → mg x = some (.ref (g.aF i)) ∧ PySem.W.keepIn K (.ref (g.aF i)) = true
  gcl : ∀ x cl, (x, cl) ∈ g.clss → init cl = some (initN cl) ∧ mg x = some (.ref (g.aC cl)) ∧ PySem.W.keepIn K (.ref (g.aC cl)) = true ∧ Mk K (g.aC cl) (g.aF (initN cl))
  mth : ∀ cl m i, meth cl m = some i → cl < 9 ∧ (30 ≤ m → Meth K (g.aC cl) (mname m) (g.aF i)) ∧ (10 ≤ m → m < 30 → ∃ p, PropOf K (g.aC cl) (mname m) p (g.aF i)) ∧ (m = 0 → StX.CallO K (g.aC cl) (g.aF i)) ∧ (1 ≤ m → m ≤ 5 → SpcIn K (g.aC cl) m (g.aF i))
  ins : ∀ cl, cl < 9 → InsT K (g.aC cl)
  isi : ∀ t, t ∈ g.asks → IsiK K mg g.aC t
  cI : ∀ x n, (x, n) ∈ g.cnI → ∃ t, mg x = some (.int n t)
  cS : ∀ x z, (x, z) ∈ g.cnS → ∃ t, mg x = some (.str z t)
  cv : (("Chain" : Str), 5) ∈ g.clss → ∃ mc u, ClX.CRead K (g.aC 5) mc ∧ ClX.CVal K (g.aC 5) mc "MAX_CELLS" (.int 8) u
  blt : ∀ x, bltNames.contains x = true → mg x = none
abbrev CXn : CXT := fun _ _ _ _ _ _ => False
/-- all defs keep their promises at level k -/
def AllK (P : Program) (wd : World) (K : PySem.W.Frag) (mg : Str → Option Value) (base : Heap) (g : Cfg) (k : Nat) (call : Nat → List D → List MO → Out (D × List MO)) : Prop :=
  ∀ i, noCall (call i) ∨ FnR P wd K mg base CXn k (g.aF i) (spF g (freshB i) (call i))
section
variable {P : Program} {wd : World} {K : PySem.W.Frag} {mg : Str → Option Value} {base : Heap} {g : Cfg} {p : Pg} {w : SV.W} {k : Nat} {N ps : List Str} {q qual nm : Str} {sc : Scope} {f : Addr} {cd : Value} {A : Around} {outer : List Env} {s : Shared} {H : Hp} {E : XK}
theorem fx_of (tx : Tx K mg g p.meth p.init p.kcon) (hm : w.meth = p.meth) (hi : w.init = p.init) (hk : w.kcon = p.kcon) (fn : AllK P wd K mg base g k w.call) (room : Room (k + 2) (A.deeper (envOfC q sc s.heap.objs.size f cd))) :
    Fx (cxOf CXn P wd K mg base N q sc f cd A outer s H E) g (WE E) w CXn k where
  room := room
  px := fun _ _ _ _ _ _ _ _ h => h.elim
  pxF := fun _ _ _ _ h => h
  cls := tx.cls
  fld := tx.fld
  kcon := hk ▸ tx.kcon
  fn := fn
  gfn := tx.gfn
  gcl := hi ▸ tx.gcl
  mono := fun _ _ _ _ _ _ h _ => h
  own := passes_of rfl
  mth := hm ▸ tx.mth
  ins := tx.ins
  isi := fun t ht => ⟨(tx.isi t ht).mg, (tx.isi t ht).kb, (tx.isi t ht).ko⟩
  cI := tx.cI
  cS := tx.cS
  cv := tx.cv
  blt := tx.blt
theorem gd_of (hP : g.P = P) (hw : g.w = wd) (hK : g.K = K) (nd : N.Nodup) (room : Room k (A.deeper (envOfC q sc s.heap.objs.size f cd))) :
    Gd (cxOf CXn P wd K mg base N q sc f cd A outer s H E) g ⟨N, sc, [], [], 0, false⟩ where
  P := hP
  ww := hw
  K := hK
  N := rfl
  nd := nd
  sc := rfl
  calm := rfl
  un := by
    have := room.un
    show (A.deeper (envOfC q sc s.heap.objs.size f cd)).units + 66 < cLine
    omega
/-- a def's body keeps the promise whatever its level -/
def BodyOk (st : Stmt) (N : List Str) (fn : Fn) (frr : Bool) (P : Program) (wd : World) (K : PySem.W.Frag) (mg : Str → Option Value) (base : Heap) (g : Cfg) (w : SV.W) (k : Nat) : Prop :=
  ∀ (q : Str) (f : Addr) (cd : Value) (A : Around) (outer : List Env) (s : Shared) (H : Hp) (E : XK), Gd (cxOf CXn P wd K mg base N q (defScope st) f cd A outer s H E) g ⟨N, defScope st, [], [], 0, false⟩ →
    Fx (cxOf CXn P wd K mg base N q (defScope st) f cd A outer s H E) g (WE E) w CXn k → PSs (cxOf CXn P wd K mg base N q (defScope st) f cd A outer s H E) (defBody st) (tS g (WE E) frr (exSs w none fn.body))
/-- the facts of a def -/
def DefIn (K : PySem.W.Frag) (nm qual : Str) (st : Stmt) (f : Addr) : Prop := ∃ fd, Fun K nm qual st f fd
/-- how its arguments are bound -/
def BindOk (nm qual : Str) (st : Stmt) (ps : List Str) : Prop := ∀ (kV doc pm : Value) (an : Option Addr) (cdv ct : Value) (us : List Value), us.length = ps.length → bindArgs (PySem.W.fnOf nm qual (defArgs st) (defBody st) (defScope st) .none kV doc pm an cdv ct) ⟨us, []⟩ = pure (ps.zip us)
def BindOkS (nm qual : Str) (st : Stmt) (ps : List Str) (pv : Str) : Prop := ∀ (kV doc pm : Value) (an : Option Addr) (cdv ct : Value) (us rest : List Value), us.length = ps.length →
  bindArgs (PySem.W.fnOf nm qual (defArgs st) (defBody st) (defScope st) .none kV doc pm an cdv ct) ⟨us ++ rest, []⟩ = (newTuple rest >>= fun t => pure (ps.zip us ++ [(pv, t)]))
theorem step_D {st : Stmt} {fn : Fn} {i : Nat} (F : DefIn K nm qual st (g.aF i)) (hP : g.P = P) (hw : g.w = wd) (hK : g.K = K) (tx : Tx K mg g p.meth p.init p.kcon) (hm : w.meth = p.meth) (hi : w.init = p.init) (hk : w.kcon = p.kcon) (fns : AllK P wd K mg base g k w.call)
    (S : FnScope N ps (defScope st)) (hns : N.length = fn.ns) (hnp : ps.length = fn.np) (hst : fn.star = false) (hb : BindOk nm qual st ps) (B : BodyOk st N fn (freshB i) P wd K mg base g w k) :
    FnR P wd K mg base CXn (k + 3) (g.aF i) (spF g (freshB i) (fun ds M => runF w fn ds M)) := by
  obtain ⟨fd, F⟩ := F
  obtain ⟨oc, od, kV, doc, pm, an, cdv, ct, osl, rfl, lk, hcd⟩ := F.ex
  exact fn_D lk hcd S hns hnp hst (hb _ _ _ _ _ _) fun A outer s H E hr => B _ _ _ A outer s H E (gd_of hP hw hK S.nd hr) (fx_of tx hm hi hk fns hr)
theorem step_DS {st : Stmt} {fn : Fn} {i : Nat} {pv : Str} (F : DefIn K nm qual st (g.aF i)) (hP : g.P = P) (hw : g.w = wd) (hK : g.K = K) (tx : Tx K mg g p.meth p.init p.kcon) (hm : w.meth = p.meth) (hi : w.init = p.init) (hk : w.kcon = p.kcon) (fns : AllK P wd K mg base g k w.call)
    (S : FnScope N (ps ++ [pv]) (defScope st)) (hns : N.length = fn.ns) (hnp : ps.length + 1 = fn.np) (hst : fn.star = true) (hb : BindOkS nm qual st ps pv) (B : BodyOk st N fn (freshB i) P wd K mg base g w k) :
    FnR P wd K mg base CXn (k + 3) (g.aF i) (spF g (freshB i) (fun ds M => runF w fn ds M)) := by
  obtain ⟨fd, F⟩ := F
  obtain ⟨oc, od, kV, doc, pm, an, cdv, ct, osl, rfl, lk, hcd⟩ := F.ex
  exact fn_DS lk hcd S hns hnp hst (by unfold StX.CXUp; intros; assumption) (hb _ _ _ _ _ _) fun A outer s H E hr => B _ _ _ A outer s H E (gd_of hP hw hK S.nd hr) (fx_of tx hm hi hk fns hr)
/-- the defs, one level above -/
def StepOk (P : Program) (wd : World) (K : PySem.W.Frag) (mg : Str → Option Value) (base : Heap) (g : Cfg) (p : Pg) : Prop :=
  ∀ (w : SV.W) (k : Nat), w.meth = p.meth → w.init = p.init → w.kcon = p.kcon → AllK P wd K mg base g k w.call → ∀ i fn, p.fn i = some fn → FnR P wd K mg base CXn (k + 3) (g.aF i) (spF g (freshB i) (fun ds M => runF w fn ds M))
theorem knot (h : StepOk P wd K mg base g p) : ∀ n, AllK P wd K mg base g (3 * n) (callF p n).1
  | 0 => fun i => .inl rfl
  | n + 1 => fun i => by
    cases e : p.fn i with
    | none =>
      left
      funext xs m
      show (match p.fn i with | some f => runF _ f xs m | none => .bad) = .bad
      rw [e]
    | some fn =>
      right
      have e2 : (callF p (n + 1)).1 i = fun xs m => runF (wAt p (callF p n).1 (callF p n).2) fn xs m := by
        funext xs m
        show (match p.fn i with | some f => runF _ f xs m | none => .bad) = _
        rw [e]
      rw [e2]
      exact h (wAt p (callF p n).1 (callF p n).2) (3 * n) rfl rfl rfl (knot h n) i fn e
def spLaw (K : PySem.W.Frag) : Sp := fun vs H Q _ => ∃ (a : Addr) (ns : List Int), vs = [.ref a] ∧ SqL K H a (ns.map V.int) ∧ ns.length ≤ 63 ∧ Only H ∧ ∀ H', Q (.bl true) H'
theorem law_D {st : Stmt} {fn : Fn} {fa : Addr} (F : DefIn K nm qual st fa) (hP : g.P = P) (hw : g.w = wd) (hK : g.K = K) (tx : Tx K mg g p.meth p.init p.kcon) (n : Nat) (h : ∀ base, StepOk P wd K mg base g p)
    (S : FnScope N ["_law_script"] (defScope st)) (hns : N.length = fn.ns) (hnp : fn.np = 1) (hst : fn.star = false) (B : ∀ base, BodyOk st N fn false P wd K mg base g (wAt p (callF p n).1 (callF p n).2) (3 * n))
    (hb : BindOk nm qual st ["_law_script"]) (hrun : ∀ ns : List Int, ns.length ≤ 63 → ∃ m, runF (wAt p (callF p n).1 (callF p n).2) fn [.scr ns] [] = .ok (.bl true, m)) :
    ∃ fd : FuncData, (∀ (s : Shared) (u : Value), BindsTo s fd ⟨[u], []⟩ [("_law_script", u)]) ∧ ∀ base : Heap, FnOk P wd K mg base CXn (3 * n + 3) fa fd ["_law_script"] (spLaw K) := by
  obtain ⟨fd, F⟩ := F
  obtain ⟨oc, od, kV, doc, pm, an, cdv, ct, osl, rfl, lk, hcd⟩ := F.ex
  refine ⟨_, fun s u => .of_eq (hb kV doc pm an cdv ct [u] rfl), fun base => ?_⟩
  refine (fn_of (sp := spF g false (fun ds M => runF (wAt p (callF p n).1 (callF p n).2) fn ds M)) lk hcd S (fun vs H Q E hs => ?_) fun A outer s H vs Q E hr hs => ⟨_, B base _ _ _ A outer s H E (gd_of hP hw hK S.nd hr) (fx_of tx rfl rfl rfl (knot (h base) n) hr), ?_⟩).imp fun vs H Q E hs => ?_
  · obtain ⟨ι, ds, M, r, dn, o⟩ := hs
    unfold runF argsOf at o
    rw [hst] at o
    simp only [Bool.false_eq_true, if_false] at o
    by_cases hl : ds.length = fn.np
    · rw [← dn.length, hl, hnp]; rfl
    · rw [if_neg hl] at o; exact o.elim
  · obtain ⟨ι, ds, M, r, dn, o⟩ := hs
    unfold runF argsOf at o
    rw [hst] at o
    simp only [Bool.false_eq_true, if_false] at o
    by_cases hl : ds.length = fn.np
    · rw [if_pos hl] at o
      exact ⟨ι, ⟨ds.map some ++ List.replicate (fn.ns - ds.length) none, M⟩, ⟨start_den dn hns, r⟩, leave_end (M := M) r o _⟩
    · rw [if_neg hl] at o; exact o.elim
  · obtain ⟨a, ns, rfl, hS, hl, hO, k⟩ := hs
    obtain ⟨m, hm⟩ := hrun ns hl
    refine ⟨[], [.scr ns], [], ⟨rfl, fun k mo e => by simp at e, fun j k a e => by simp at e⟩, DenL.cons ?_ DenL.nil, ?_⟩
    · simp only [Den]
      refine ⟨a, rfl, ?_⟩
      rcases hS with (hS | ⟨o, hS⟩) | hS
      · rcases hO a with z | ⟨o, xs, z⟩ <;> rw [hS] at z <;> cases z
      · exact .inl ⟨o, hS, by simp⟩
      · exact .inr (hK ▸ hS)
    · show OutP (runF (wAt p (callF p n).1 (callF p n).2) fn [D.scr ns] []) _ _
      rw [hm]
      intro v H' ι' l r d _
      simp only [Den] at d
      subst d
      exact k H'
theorem walkEnd {l : PySem.W.OpenLaw} {q : Program} {loose : List Str} {XP : (Str → Option Value) → Heap → Prop} {YP : World → Heap → Prop} {d : DefRec} {K : Params → PySem.W.Frag} {n : Nat} (hn : l.most = some 63) (hdf : d.params.defaults = []) (hr : Room (3 * n + 3) callerA)
    (hY : ∀ (w : World) (h : Heap), YP w h → (K w.params).In h)
    (F : ∀ (w : World) (mg : Str → Option Value) (fa : Addr) (h : Heap), (K w.params).In h → h.Ns mainGlobals mg → mg d.name = some (.ref fa) →
      ∃ fd : FuncData, (∀ (s : Shared) (u : Value), BindsTo s fd ⟨[u], []⟩ [("_law_script", u)]) ∧ ∀ base : Heap, (K w.params).In base → base.Ns mainGlobals mg → FnOk l.prog w (K w.params) mg base CXn (3 * n + 3) fa fd ["_law_script"] (spLaw (K w.params))) :
    PySem.W.WalkO q loose XP YP l.row.toRowW d [] (fun f vs => PySem.call f vs) :=
  L2.walk_of (n := 63) (k := 3 * n + 3) (x := "_law_script") (CX := fun _ => CXn) (sp := fun w => spLaw (K w.params)) hn (by decide) hdf hr hY F (fun _ _ a ns hl hO hS => ⟨a, ns, rfl, hS, hl, hO, fun _ => rfl⟩) fun _ _ _ _ _ z => z
end
end SV
set_option linter.all false
set_option Elab.async false
set_option maxHeartbeats 4000000
namespace SV
open PySem
/-- what is wanted of an outcome -/
def OP {α : Type} (o : Out α) (P : α → Prop) : Prop := ∃ a, o = .ok a ∧ P a
section
variable {α β : Type} {P Q : α → Prop}
theorem OP.mono {o : Out α} (h : OP o P) (k : ∀ a, P a → Q a) : OP o Q := let ⟨a, e, h⟩ := h; ⟨a, e, k a h⟩
theorem OP_ok {a : α} : OP (.ok a) P ↔ P a := ⟨fun ⟨b, e, h⟩ => by cases e; exact h, fun h => ⟨a, rfl, h⟩⟩
theorem OP_pure {a : α} : OP (pure a : Out α) P ↔ P a := OP_ok
theorem OP_bad : OP (.bad : Out α) P ↔ False := ⟨fun ⟨_, e, _⟩ => (by cases e), False.elim⟩
theorem OP_exc {c : Nat} {d : D} {s : S} : OP (.exc c d s : Out α) P ↔ False := ⟨fun ⟨_, e, _⟩ => (by cases e), False.elim⟩
theorem OP_bind {o : Out α} {f : α → Out β} {R : β → Prop} : OP (o >>= f) R ↔ OP o (fun a => OP (f a) R) := by
  cases o with
  | ok a => exact (OP_ok (P := fun a => OP (f a) R)).symm
  | exc c d s => exact ⟨fun ⟨_, e, _⟩ => (by cases e), fun ⟨_, e, _⟩ => (by cases e)⟩
  | bad => exact ⟨fun ⟨_, e, _⟩ => (by cases e), fun ⟨_, e, _⟩ => (by cases e)⟩
theorem OP_gd {b : Bool} {R : Unit → Prop} : OP (gd b) R ↔ b = true ∧ R () := by
  cases b with
  | true => exact (OP_ok (a := ())).trans ⟨fun h => ⟨rfl, h⟩, fun h => h.2⟩
  | false => exact (OP_bad).trans ⟨False.elim, fun h => (by cases h.1)⟩
theorem OP_opt {o : Option α} : OP (opt o) P ↔ ∃ a, o = some a ∧ P a := by
  cases o with
  | none => exact (OP_bad).trans ⟨False.elim, fun ⟨_, e, _⟩ => (by cases e)⟩
  | some a => exact (OP_ok).trans ⟨fun h => ⟨a, rfl, h⟩, fun ⟨b, e, h⟩ => by cases e; exact h⟩
theorem OP_some {a : α} : OP (opt (some a)) P ↔ P a := OP_ok
theorem OP_ite {c : Prop} [Decidable c] {a b : Out α} : OP (if c then a else b) P ↔ (c → OP a P) ∧ (¬ c → OP b P) := by
  split
  · rename_i h; exact ⟨fun z => ⟨fun _ => z, fun n => absurd h n⟩, fun z => z.1 h⟩
  · rename_i h; exact ⟨fun z => ⟨fun n => absurd n h, fun _ => z⟩, fun z => z.2 h⟩
theorem OP_bl {b : Bool} {R : Bool → Prop} : OP (asBool (.bl b)) R ↔ R b := OP_ok
theorem OP_inS {s : S} {o : Out (α × List MO)} {R : α × S → Prop} : OP (inS s o) R ↔ OP o (fun p => R (p.1, ⟨s.e, p.2⟩)) := by
  cases o with
  | ok p => exact (OP_ok).trans (OP_ok (a := p) (P := fun (p : α × List MO) => R (p.1, ⟨s.e, p.2⟩))).symm
  | exc c d s => exact ⟨fun ⟨_, e, _⟩ => (by cases e), fun ⟨_, e, _⟩ => (by cases e)⟩
  | bad => exact ⟨fun ⟨_, e, _⟩ => (by cases e), fun ⟨_, e, _⟩ => (by cases e)⟩
theorem OP_noX {o : Out α} : OP (noX o) P ↔ OP o P := by
  cases o with
  | ok p => exact Iff.rfl
  | exc c d s => exact (OP_bad).trans (OP_exc).symm
  | bad => exact Iff.rfl
end
section
variable {w : W} {x : Option (Nat × D)} {a : Sm} {r : List Sm} {s : S} {P : Ctl × S → Prop}
theorem OP_nil : OP (exSs w x [] s) P ↔ P (.nx, s) := by simp only [exSs]; exact OP_ok
theorem OP_cons : OP (exSs w x (a :: r) s) P ↔ OP (exS w x a s) (fun p => match p.1 with | .nx => OP (exSs w x r p.2) P | c => P (c, p.2)) := by
  simp only [exSs]
  cases e : exS w x a s with
  | ok p =>
    obtain ⟨c, s'⟩ := p
    rw [OP_ok]
    cases c with
    | nx => exact Iff.rfl
    | brk => exact OP_ok
    | cnt => exact OP_ok
    | ret d => exact OP_ok
  | exc c d t => exact ⟨fun ⟨_, e, _⟩ => (by cases e), fun ⟨_, e, _⟩ => (by cases e)⟩
  | bad => exact ⟨fun ⟨_, e, _⟩ => (by cases e), fun ⟨_, e, _⟩ => (by cases e)⟩
/-- a for by an invariant over what is left -/
theorem OP_for {f : D → S → Out (Ctl × S)} (I : Nat → S → Prop) {xs : List D} (h0 : I 0 s) (hd : ∀ t, I xs.length t → P (.nx, t))
    (hs : ∀ i d t, xs[i]? = some d → I i t → OP (f d t) (fun p => match p.1 with | .nx => I (i + 1) p.2 | .cnt => I (i + 1) p.2 | .brk => P (.nx, p.2) | .ret d => P (.ret d, p.2))) : OP (forL f xs s) P := by
  have key : ∀ n i t, xs.length - i = n → i ≤ xs.length → I i t → OP (forL f (xs.drop i) t) P := by
    intro n
    induction n with
    | zero =>
      intro i t hn hi hI
      have : i = xs.length := by omega
      subst this
      rw [List.drop_length]
      exact ⟨_, rfl, hd t hI⟩
    | succ n ih =>
      intro i t hn hi hI
      have hlt : i < xs.length := by omega
      rw [List.drop_eq_getElem_cons hlt]
      obtain ⟨p, e, hp⟩ := hs i xs[i] t (List.getElem?_eq_getElem hlt) hI
      obtain ⟨c, t'⟩ := p
      unfold forL
      rw [e]
      cases c with
      | nx => exact ih (i + 1) t' (by omega) hlt hp
      | cnt => exact ih (i + 1) t' (by omega) hlt hp
      | brk => exact ⟨_, rfl, hp⟩
      | ret d => exact ⟨_, rfl, hp⟩
  have := key _ 0 s rfl (Nat.zero_le _) h0
  simpa using this
theorem OP_lcL {f : D → S → Out S} {R : S → Prop} (I : Nat → S → Prop) {xs : List D} (h0 : I 0 s) (hd : ∀ t, I xs.length t → R t)
    (hs : ∀ i d t, xs[i]? = some d → I i t → OP (f d t) (I (i + 1))) : OP (lcL f xs s) R := by
  have key : ∀ n i t, xs.length - i = n → i ≤ xs.length → I i t → OP (lcL f (xs.drop i) t) R := by
    intro n
    induction n with
    | zero =>
      intro i t hn hi hI
      have : i = xs.length := by omega
      subst this
      rw [List.drop_length]
      exact ⟨_, rfl, hd t hI⟩
    | succ n ih =>
      intro i t hn hi hI
      have hlt : i < xs.length := by omega
      rw [List.drop_eq_getElem_cons hlt]
      obtain ⟨t', e, hp⟩ := hs i xs[i] t (List.getElem?_eq_getElem hlt) hI
      unfold lcL
      rw [e]
      exact ih (i + 1) t' (by omega) hlt hp
  have := key _ 0 s rfl (Nat.zero_le _) h0
  simpa using this
end
/-- the n-th world -/
abbrev wN (p : Pg) (n : Nat) : W := wAt p (callF p n).1 (callF p n).2
theorem call_succ {p : Pg} {n i : Nat} {f : Fn} (h : p.fn i = some f) (xs : List D) (m : List MO) : (callF p (n + 1)).1 i xs m = runF (wN p n) f xs m := by
  show (match p.fn i with | some f => runF _ f xs m | none => .bad) = _
  rw [h]
theorem exOk_refl (n : Nat) : ∀ m : List MO, exOk n m m = true
  | [] => rfl
  | a :: r => by simp [exOk, exOk_refl n r]
theorem exOk_app (n : Nat) : ∀ (m t : List MO), exOk n m (m ++ t) = true
  | [], t => rfl
  | a :: r, t => by
    show exOk n (a :: r) (a :: (r ++ t)) = true
    simp [exOk, exOk_app n r t]
theorem exOk_set {n k : Nat} {o : MO} (h : cloM n o = true) : ∀ (m t : List MO), exOk n m (m.set k o ++ t) = true
  | [], t => rfl
  | a :: r, t => by
    cases k with
    | zero => show exOk n (a :: r) (o :: (r ++ t)) = true; simp [exOk, exOk_app n r t, h]
    | succ k => show exOk n (a :: r) (a :: (r.set k o ++ t)) = true; simp [exOk, exOk_set (k := k) h r t]
/-- what is wanted behind a def that keeps nothing of its own -/
def LeaveP (m : List MO) (P : D × List MO → Prop) (p : Ctl × S) : Prop := match p.1 with
  | .ret d => exOk m.length m p.2.m = true ∧ cloD m.length d = true ∧ P (d, p.2.m.take m.length)
  | .nx => exOk m.length m p.2.m = true ∧ P (.non, p.2.m.take m.length)
  | _ => False
theorem run_leave {w : W} {f : Fn} {xs ys : List D} {m : List MO} {P : D × List MO → Prop} (e0 : List (Option D)) (ha : argsOf f xs = some ys) (hk : f.keep = false) (he : ys.map some ++ List.replicate (f.ns - ys.length) none = e0)
    (h : OP (exSs w none f.body ⟨e0, m⟩) (LeaveP m P)) : OP (runF w f xs m) P := by
  subst he
  obtain ⟨⟨c, s⟩, e, h⟩ := h
  unfold runF
  rw [ha]
  dsimp only
  rw [e]
  cases c with
  | ret d =>
    obtain ⟨h1, h2, h3⟩ := h
    refine ⟨_, ?_, h3⟩
    show leave f.keep m d s.m = _
    unfold leave
    rw [hk]
    have h1 : exOk m.length m s.m = true := h1
    simp only [Bool.false_eq_true, if_false, h1, h2, Bool.and_self, if_true]
  | nx =>
    obtain ⟨h1, h3⟩ := h
    refine ⟨_, ?_, h3⟩
    show leave f.keep m .non s.m = _
    unfold leave
    rw [hk]
    have h1 : exOk m.length m s.m = true := h1
    have h2 : cloD m.length .non = true := rfl
    simp only [Bool.false_eq_true, if_false, h1, h2, Bool.and_self, if_true]
  | brk => exact h.elim
  | cnt => exact h.elim
theorem lv_ret {m : List MO} {P : D × List MO → Prop} {d : D} {e : List (Option D)} (h : cloD m.length d = true) (k : P (d, m)) : LeaveP m P (.ret d, ⟨e, m⟩) := by
  refine ⟨exOk_refl _ _, h, ?_⟩
  show P (d, m.take m.length)
  rw [List.take_length]
  exact k
theorem lv_retT {m t : List MO} {P : D × List MO → Prop} {d : D} {e : List (Option D)} (h : cloD m.length d = true) (k : P (d, m)) : LeaveP m P (.ret d, ⟨e, m ++ t⟩) := by
  refine ⟨exOk_app _ _ _, h, ?_⟩
  show P (d, (m ++ t).take m.length)
  rw [List.take_left]
  exact k
theorem lv_nx {m : List MO} {P : D × List MO → Prop} {e : List (Option D)} (k : P (.non, m)) : LeaveP m P (.nx, ⟨e, m⟩) := by
  refine ⟨exOk_refl _ _, ?_⟩
  show P (.non, m.take m.length)
  rw [List.take_length]
  exact k
theorem lv_set {m : List MO} {P : D × List MO → Prop} {d : D} {e : List (Option D)} {k : Nat} {o : MO} (h : cloD m.length d = true) (ho : cloM m.length o = true) (q : P (d, m.set k o)) : LeaveP m P (.ret d, ⟨e, m.set k o⟩) := by
  refine ⟨by have := exOk_set (k := k) ho m []; rwa [List.append_nil] at this, h, ?_⟩
  show P (d, (m.set k o).take m.length)
  rw [List.take_of_length_le (by simp)]
  exact q
/-- behind a maker or a method that keeps what it changes -/
def KeepP (P : D × List MO → Prop) (p : Ctl × S) : Prop := match p.1 with
  | .ret d => P (d, p.2.m)
  | .nx => P (.non, p.2.m)
  | _ => False
theorem run_keep {w : W} {f : Fn} {xs ys : List D} {m : List MO} {P : D × List MO → Prop} (e0 : List (Option D)) (ha : argsOf f xs = some ys) (hk : f.keep = true) (he : ys.map some ++ List.replicate (f.ns - ys.length) none = e0)
    (h : OP (exSs w none f.body ⟨e0, m⟩) (KeepP P)) : OP (runF w f xs m) P := by
  subst he
  obtain ⟨⟨c, s⟩, e, h⟩ := h
  unfold runF
  rw [ha]
  dsimp only
  rw [e]
  cases c with
  | ret d =>
    refine ⟨_, ?_, h⟩
    show leave f.keep m d s.m = _
    unfold leave
    rw [hk]
    rfl
  | nx =>
    refine ⟨_, ?_, h⟩
    show leave f.keep m .non s.m = _
    unfold leave
    rw [hk]
    rfl
  | brk => exact h.elim
  | cnt => exact h.elim
end SV
set_option linter.all false
set_option Elab.async false
set_option maxHeartbeats 4000000
namespace SV
open PySem
section
variable {w : W} {s : S} {P : D × S → Prop} {a b c : Ex} {es : Exs} {x y : D} {i j : Int} {k : Nat}
theorem e_cst {d : D} (h : P (d, s)) : OP (evE w (.cst d) s) P := by simp only [evE]; exact OP_ok.mpr h
theorem e_var {d : D} (e : s.e[k]? = some (some d)) (h : P (d, s)) : OP (evE w (.var k) s) P := by simp only [evE, e]; exact OP_ok.mpr h
/-- no place of the store at the top -/
def noRef : D → Bool | .ref _ => false | _ => true
theorem fzS_val {d : D} (h : noRef d = true) : fzS s d = (d, s) := by cases d <;> first | rfl | cases h
theorem e_frzV (h : OP (evE w a s) (fun p => noRef p.1 = true ∧ P p)) : OP (evE w (.frz a) s) P := by
  simp only [evE, OP_bind]
  exact h.mono fun p ⟨h1, h2⟩ => OP_ok.mpr (by rw [fzS_val h1]; exact h2)
theorem e_frzR {xs : List D} (h : OP (evE w a s) (fun p => ∃ k, p.1 = .ref k ∧ p.2.m[k]? = some (.lst xs) ∧ P (.lst xs, ⟨p.2.e.map fun o => if o = some (.ref k) then some (.lst xs) else o, p.2.m.set k .dead⟩))) : OP (evE w (.frz a) s) P := by
  simp only [evE, OP_bind]
  refine h.mono fun p ⟨k, h1, h2, h3⟩ => OP_ok.mpr ?_
  unfold fzS fzM
  rw [h1]
  simp only [h2]
  exact h3
theorem e_newL (h : OP (evE w a s) (fun p => ∃ xs, p.1 = .lst xs ∧ P (.ref p.2.m.length, ⟨p.2.e, p.2.m ++ [.lst xs]⟩))) : OP (evE w (.new a) s) P := by
  simp only [evE, OP_bind]
  refine h.mono fun p ⟨xs, h1, h2⟩ => ?_
  rw [h1]
  exact OP_ok.mpr h2
theorem e_bin {op : Operator} (h : OP (evE w a s) (fun p => OP (evE w b p.2) (fun q => OP (binF w op p.1 q.1 q.2) P))) : OP (evE w (.bin op a b) s) P := by simp only [evE, OP_bind]; exact h
theorem e_neg (h : OP (evE w a s) (fun p => OP (negF w p.1 p.2) P)) : OP (evE w (.neg a) s) P := by simp only [evE, OP_bind]; exact h
theorem e_cmp {op : CmpOp} (h : OP (evE w a s) (fun p => OP (evE w b p.2) (fun q => OP (cmpF w op p.1 q.1 q.2) P))) : OP (evE w (.cmp op a b) s) P := by simp only [evE, OP_bind]; exact h
theorem e_chn {o1 o2 : CmpOp} (h : OP (evE w a s) (fun p => OP (evE w b p.2) (fun q => ∃ k, cmpD q.2.m o1 p.1 q.1 = .ok (.bl k) ∧ (if k = true then OP (evE w c q.2) (fun r => ∃ z, cmpD r.2.m o2 q.1 r.1 = .ok z ∧ P (z, r.2)) else P (.bl false, q.2))))) : OP (evE w (.chn o1 o2 a b c) s) P := by
  simp only [evE, OP_bind]
  refine h.mono fun p h => h.mono fun q ⟨k, h1, h2⟩ => ?_
  rw [h1, OP_ok]
  refine OP_bl.mpr ?_
  cases k with
  | true =>
    rw [if_pos rfl] at h2 ⊢
    rw [OP_bind]
    refine h2.mono fun r ⟨z, h3, h4⟩ => ?_
    rw [h3]
    exact OP_ok.mpr h4
  | false =>
    rw [if_neg (by simp)] at h2 ⊢
    exact OP_ok.mpr h2
theorem e_and (h : OP (evE w a s) (fun p => ∃ k, p.1 = .bl k ∧ (if k = true then OP (evE w b p.2) P else P (.bl false, p.2)))) : OP (evE w (.and a b) s) P := by
  simp only [evE, OP_bind]
  refine h.mono fun p ⟨k, h1, h2⟩ => ?_
  rw [h1]
  refine OP_bl.mpr ?_
  cases k with
  | true => rw [if_pos rfl] at h2 ⊢; exact h2
  | false => rw [if_neg (by simp)] at h2 ⊢; exact OP_ok.mpr h2
theorem e_or (h : OP (evE w a s) (fun p => ∃ k, p.1 = .bl k ∧ (if k = true then P (.bl true, p.2) else OP (evE w b p.2) P))) : OP (evE w (.or a b) s) P := by
  simp only [evE, OP_bind]
  refine h.mono fun p ⟨k, h1, h2⟩ => ?_
  rw [h1]
  refine OP_bl.mpr ?_
  cases k with
  | true => rw [if_pos rfl] at h2 ⊢; exact OP_ok.mpr h2
  | false => rw [if_neg (by simp)] at h2 ⊢; exact h2
theorem e_not (h : OP (evE w a s) (fun p => ∃ k, p.1 = .bl k ∧ P (.bl (!k), p.2))) : OP (evE w (.not a) s) P := by
  simp only [evE, OP_bind]
  refine h.mono fun p ⟨k, h1, h2⟩ => ?_
  rw [h1]
  exact OP_bl.mpr (OP_ok.mpr h2)
theorem e_ite (h : OP (evE w a s) (fun p => ∃ k, p.1 = .bl k ∧ (if k = true then OP (evE w b p.2) P else OP (evE w c p.2) P))) : OP (evE w (.ite a b c) s) P := by
  simp only [evE, OP_bind]
  refine h.mono fun p ⟨k, h1, h2⟩ => ?_
  rw [h1]
  refine OP_bl.mpr ?_
  cases k with
  | true => rw [if_pos rfl] at h2 ⊢; exact h2
  | false => rw [if_neg (by simp)] at h2 ⊢; exact h2
theorem e_tup (h : OP (evEs w es s) (fun p => p.1.length ≤ sizeL ∧ P (.tup p.1, p.2))) : OP (evE w (.tup es) s) P := by
  simp only [evE, OP_bind]
  exact h.mono fun p ⟨h1, h2⟩ => OP_gd.mpr ⟨by unfold lok; exact decide_eq_true h1, OP_ok.mpr h2⟩
theorem e_lst (h : OP (evEs w es s) (fun p => p.1.length ≤ sizeL ∧ P (.lst p.1, p.2))) : OP (evE w (.lst es) s) P := by
  simp only [evE, OP_bind]
  exact h.mono fun p ⟨h1, h2⟩ => OP_gd.mpr ⟨by unfold lok; exact decide_eq_true h1, OP_ok.mpr h2⟩
theorem e_sub (h : OP (evE w a s) (fun p => OP (evE w b p.2) (fun q => OP (subF w p.1 q.1 q.2) P))) : OP (evE w (.sub a b) s) P := by simp only [evE, OP_bind]; exact h
theorem e_slc {lo hi : Exo} (h : OP (evE w a s) (fun p => OP (evO w lo p.2) (fun q => OP (evO w hi q.2) (fun r => ∃ z, slcD r.2.m p.1 q.1 r.1 = .ok z ∧ P (z, r.2))))) : OP (evE w (.slc a lo hi) s) P := by
  simp only [evE, OP_bind]
  refine h.mono fun p h => h.mono fun q h => h.mono fun r ⟨z, h1, h2⟩ => ?_
  rw [h1]
  exact OP_ok.mpr (OP_ok.mpr h2)
theorem o_none {R : Option Int × S → Prop} (h : R (none, s)) : OP (evO w .none s) R := by simp only [evO]; exact OP_ok.mpr h
theorem o_somI {R : Option Int × S → Prop} (h : OP (evE w a s) (fun p => ∃ i, p.1 = .int i ∧ R (some i, p.2))) : OP (evO w (.some a) s) R := by
  simp only [evO, OP_bind]
  refine h.mono fun p ⟨i, h1, h2⟩ => ?_
  rw [h1]
  exact OP_ok.mpr (OP_ok.mpr h2)
theorem e_fld {f : Nat} (h : OP (evE w a s) (fun p => ∃ z, fldD p.2.m p.1 f = .ok z ∧ P (z, p.2))) : OP (evE w (.fld a f) s) P := by
  simp only [evE, OP_bind]
  refine h.mono fun p ⟨z, h1, h2⟩ => ?_
  rw [h1]
  exact OP_ok.mpr (OP_ok.mpr h2)
theorem e_prp {f : Nat} (h : OP (evE w a s) (fun p => OP (callM w p.1 f [] p.2) P)) : OP (evE w (.prp a f) s) P := by
  simp only [evE, OP_bind]
  exact h.mono fun p h => OP_noX.mpr h
theorem e_kcn {f : Nat} (h : OP (evE w a s) (fun p => ∃ cl d, clsOf p.2.m p.1 = some cl ∧ w.kcon cl f = some d ∧ P (d, p.2))) : OP (evE w (.kcn a f) s) P := by
  simp only [evE, OP_bind]
  refine h.mono fun p ⟨cl, d, h1, h2, h3⟩ => ?_
  rw [h1]
  dsimp only
  rw [h2]
  exact OP_ok.mpr h3
theorem e_cal {f : Nat} (h : OP (evEs w es s) (fun p => OP (w.call f p.1 p.2.m) (fun q => P (q.1, ⟨p.2.e, q.2⟩)))) : OP (evE w (.cal f es) s) P := by
  simp only [evE, OP_bind]
  exact h.mono fun p h => OP_inS.mpr h
theorem e_mth {f : Nat} (h : OP (evE w a s) (fun p => ∃ cl g, clsOf p.2.m p.1 = some cl ∧ w.meth cl f = some g ∧ OP (evEs w es p.2) (fun q => OP (w.call g (p.1 :: q.1) q.2.m) (fun r => P (r.1, ⟨q.2.e, r.2⟩))))) : OP (evE w (.mth a f es) s) P := by
  simp only [evE, OP_bind]
  refine h.mono fun p ⟨cl, g, h1, h2, h3⟩ => ?_
  rw [h1]
  dsimp only
  rw [h2]
  simp only [OP_bind]
  exact h3.mono fun q h => OP_inS.mpr h
theorem e_ctr {f : Nat} (h : OP (evEs w es s) (fun p => OP (makeD w f p.1 p.2) P)) : OP (evE w (.ctr f es) s) P := by simp only [evE, OP_bind]; exact h
theorem e_app (h : OP (evE w a s) (fun p => isOwn p.2.m p.1 = true ∧ OP (evEs w es p.2) (fun q => OP (callM w p.1 0 q.1 q.2) P))) : OP (evE w (.app a es) s) P := by
  simp only [evE, OP_bind]
  exact h.mono fun p ⟨h1, h2⟩ => OP_gd.mpr ⟨h1, h2⟩
theorem callM_ok {f g cl : Nat} {xs : List D} (h1 : clsOf s.m x = some cl) (h2 : w.meth cl f = some g) (h : OP (w.call g (x :: xs) s.m) (fun q => P (q.1, ⟨s.e, q.2⟩))) : OP (callM w x f xs s) P := by
  unfold callM
  rw [h1]
  dsimp only
  rw [h2]
  exact OP_inS.mpr h
theorem e_bif {f : Bi} (h : OP (evEs w es s) (fun p => OP (bifF w f p.1 p.2) P)) : OP (evE w (.bif f es) s) P := by simp only [evE, OP_bind]; exact h
theorem e_bmt {f : Bm} (h : OP (evE w a s) (fun p => kindM p.2.m f p.1 = true ∧ OP (evEs w es p.2) (fun q => ∃ z m, bmD q.2.m f p.1 q.1 = .ok (z, m) ∧ P (z, ⟨q.2.e, m⟩)))) : OP (evE w (.bmt f a es) s) P := by
  simp only [evE, OP_bind]
  refine h.mono fun p ⟨h1, h2⟩ => OP_gd.mpr ⟨h1, h2.mono fun q ⟨z, m, h3, h4⟩ => ?_⟩
  rw [h3]
  exact OP_ok.mpr (OP_ok.mpr h4)
theorem e_isi {t : Ty} (h : OP (evE w a s) (fun p => ∃ k, isiD p.2.m p.1 t = .ok k ∧ P (.bl k, p.2))) : OP (evE w (.isi a t) s) P := by
  simp only [evE, OP_bind]
  refine h.mono fun p ⟨k, h1, h2⟩ => ?_
  rw [h1]
  exact OP_ok.mpr (OP_ok.mpr h2)
theorem es_nil {R : List D × S → Prop} (h : R ([], s)) : OP (evEs w .nil s) R := by simp only [evEs]; exact OP_ok.mpr h
theorem es_cons {R : List D × S → Prop} (h : OP (evE w a s) (fun p => OP (evEs w es p.2) (fun q => R (p.1 :: q.1, q.2)))) : OP (evEs w (.cons a es) s) R := by
  simp only [evEs, OP_bind]
  exact h.mono fun p h => h.mono fun q h => OP_ok.mpr h
theorem es_star {R : List D × S → Prop} (h : OP (evE w a s) (fun p => ∃ ys, seqOf p.2.m p.1 = some ys ∧ OP (evEs w es p.2) (fun q => R (ys ++ q.1, q.2)))) : OP (evEs w (.star a es) s) R := by
  simp only [evEs, OP_bind]
  refine h.mono fun p ⟨ys, h1, h2⟩ => ?_
  rw [h1]
  exact OP_ok.mpr (h2.mono fun q h => OP_ok.mpr h)
theorem i_valP {R : List D × S → Prop} (h : OP (evE w a s) (fun p => ∃ xs, walkD p.1 = some xs ∧ R (xs, p.2))) : OP (evI w (.val a) s) R := by
  simp only [evI, OP_bind]
  refine h.mono fun p ⟨ys, h1, h2⟩ => ?_
  rw [h1]
  exact OP_ok.mpr (OP_ok.mpr h2)
theorem i_enmP {R : List D × S → Prop} (h : OP (evE w a s) (fun p => ∃ xs, seqV p.1 = some xs ∧ R (enumL 0 xs, p.2))) : OP (evI w (.enm a) s) R := by
  simp only [evI, OP_bind]
  refine h.mono fun p ⟨ys, h1, h2⟩ => ?_
  rw [h1]
  exact OP_ok.mpr (OP_ok.mpr h2)
theorem i_zipP {R : List D × S → Prop} (h : OP (evE w a s) (fun p => OP (evE w b p.2) (fun q => ∃ xs, zipD p.1 q.1 = some xs ∧ R (xs, q.2)))) : OP (evI w (.zip a b) s) R := by
  simp only [evI, OP_bind]
  refine h.mono fun p h => h.mono fun q ⟨ys, h1, h2⟩ => ?_
  rw [h1]
  exact OP_ok.mpr (OP_ok.mpr h2)
theorem i_rngP {R : List D × S → Prop} (h : OP (evEs w es s) (fun p => ∃ xs, rngD p.1 = .ok xs ∧ R (xs, p.2))) : OP (evI w (.rng es) s) R := by
  simp only [evI, OP_bind]
  refine h.mono fun p ⟨ys, h1, h2⟩ => ?_
  rw [h1]
  exact OP_ok.mpr (OP_ok.mpr h2)
theorem ea_nil {R : Bool × S → Prop} (h : R (true, s)) : OP (evA w .nil s) R := by simp only [evA]; exact OP_ok.mpr h
theorem ea_one {R : Bool × S → Prop} (h : OP (evE w a s) (fun p => ∃ k, p.1 = .bl k ∧ R (k, p.2))) : OP (evA w (.cons a .nil) s) R := by
  simp only [evA, OP_bind]
  refine h.mono fun p ⟨k, h1, h2⟩ => ?_
  rw [h1]
  refine OP_bl.mpr ?_
  cases k with
  | true => exact OP_ok.mpr h2
  | false => exact OP_ok.mpr h2
theorem e_lc {e : Ex} {own : List Nat} {t : Tg} {it : It} {ifs : Exs}
    (h : OP (evI w it s) (fun p => OP (lcL (fun x s => noX do
      let s ← asg w t x (wipeS own s)
      let (b, s) ← evA w ifs s
      if b then do
        let (y, s) ← evE w e s
        addM p.2.m.length y s
      else .ok s) p.1 ⟨p.2.e, p.2.m ++ [.lst []]⟩) (fun s1 => P (.ref p.2.m.length, backS own p.2 s1)))) : OP (evE w (.lc e own t it ifs) s) P := by
  simp only [evE, OP_bind]
  refine h.mono fun p h => OP.mono ?_ fun s1 h => OP_ok.mpr h
  exact h
theorem lc_turn {e : Ex} {own : List Nat} {t : Tg} {ifs : Exs} {kk : Nat} {R : S → Prop}
    (h : OP (asg w t x (wipeS own s)) (fun s => OP (evA w ifs s) (fun p => if p.1 = true then OP (evE w e p.2) (fun q => ∃ ys, q.2.m[kk]? = some (.lst ys) ∧ ys.length < sizeL ∧ R ⟨q.2.e, q.2.m.set kk (.lst (ys ++ [q.1]))⟩) else R p.2))) : OP (noX do
      let s ← asg w t x (wipeS own s)
      let (b, s) ← evA w ifs s
      if b then do
        let (y, s) ← evE w e s
        addM kk y s
      else .ok s) R := by
  rw [OP_noX]
  simp only [OP_bind]
  refine h.mono fun s1 h => h.mono fun p h => ?_
  cases hb : p.1 with
  | true =>
    rw [hb, if_pos rfl] at h
    simp only [if_true, OP_bind]
    refine h.mono fun q ⟨ys, h1, h2, h3⟩ => ?_
    unfold addM
    rw [h1]
    exact OP_bind.mpr (OP_gd.mpr ⟨decide_eq_true h2, OP_ok.mpr h3⟩)
  | false =>
    rw [hb, if_neg (by simp)] at h
    simp only [Bool.false_eq_true, if_false]
    exact OP_ok.mpr h
theorem g_nm {R : S → Prop} (h : R ⟨s.e.set k (some x), s.m⟩) : OP (asg w (.name k) x s) R := by simp only [asg]; exact OP_ok.mpr h
theorem g_tp {R : S → Prop} {ts : Tgs} {xs : List D} (h1 : seqOf s.m x = some xs) (h2 : xs.length = tgN ts) (h : OP (asgs w ts xs s) R) : OP (asg w (.tup ts) x s) R := by
  simp only [asg, OP_bind]
  rw [h1]
  exact OP_ok.mpr (OP_gd.mpr ⟨decide_eq_true h2, h⟩)
theorem g_sb {R : S → Prop} (h : OP (evE w a s) (fun p => OP (evE w b p.2) (fun q => ∃ m, putD q.2.m p.1 q.1 x = .ok m ∧ R ⟨q.2.e, m⟩))) : OP (asg w (.sub a b) x s) R := by
  simp only [asg, OP_bind]
  refine h.mono fun p h => h.mono fun q ⟨m, h1, h2⟩ => ?_
  rw [h1]
  exact OP_ok.mpr (OP_ok.mpr h2)
theorem g_at {R : S → Prop} {f : Nat} (h : OP (evE w a s) (fun p => ∃ k c fs, p.1 = .ref k ∧ p.2.m[k]? = some (.obj c fs) ∧ hasF c f = true ∧ fs.length < 16 ∧ R ⟨p.2.e, p.2.m.set k (.obj c (fput fs f x))⟩)) : OP (asg w (.att a f) x s) R := by
  simp only [asg, OP_bind]
  refine h.mono fun p ⟨k, c, fs, h1, h2, h3, h4, h5⟩ => ?_
  rw [h1]
  dsimp only
  rw [h2]
  exact OP_bind.mpr (OP_gd.mpr ⟨by rw [h3, decide_eq_true h4]; rfl, OP_ok.mpr h5⟩)
theorem gs_nil {R : S → Prop} (h : R s) : OP (asgs w .nil [] s) R := by simp only [asgs]; exact OP_ok.mpr h
theorem gs_cons {R : S → Prop} {t : Tg} {ts : Tgs} {xs : List D} (h : OP (asg w t x s) (fun s => OP (asgs w ts xs s) R)) : OP (asgs w (.cons t ts) (x :: xs) s) R := by simp only [asgs, OP_bind]; exact h
end
section
variable {w : W} {s : S} {P : Ctl × S → Prop} {a b c : Ex} {es : Exs} {x : Option (Nat × D)} {k : Nat}
theorem q_asg {t : Tg} (h : OP (evE w a s) (fun p => OP (asg w t p.1 p.2) (fun s => P (.nx, s)))) : OP (exS w x (.asg t a) s) P := by
  simp only [exS, OP_bind]
  exact h.mono fun p h => h.mono fun q h => OP_ok.mpr h
theorem q_par {ts : Tgs} (h : OP (evEs w es s) (fun p => OP (asgs w ts p.1 p.2) (fun s => P (.nx, s)))) : OP (exS w x (.par ts es) s) P := by
  simp only [exS, OP_bind]
  exact h.mono fun p h => h.mono fun q h => OP_ok.mpr h
theorem q_exp (h : OP (evE w a s) (fun p => P (.nx, p.2))) : OP (exS w x (.exp a) s) P := by
  simp only [exS, OP_bind]
  exact h.mono fun p h => OP_ok.mpr h
theorem s_ifs {u v : List Sm} (h : OP (evE w a s) (fun p => ∃ k, p.1 = .bl k ∧ (if k = true then OP (exSs w x u p.2) P else OP (exSs w x v p.2) P))) : OP (exS w x (.ifs a u v) s) P := by
  simp only [exS, OP_bind]
  refine h.mono fun p ⟨k, h1, h2⟩ => ?_
  rw [h1]
  refine OP_bl.mpr ?_
  cases k with
  | true => rw [if_pos rfl] at h2 ⊢; exact h2
  | false => rw [if_neg (by simp)] at h2 ⊢; exact h2
theorem s_for {t : Tg} {it : It} {u : List Sm} (h : OP (evI w it s) (fun p => OP (forL (fun d s => do
      let s ← asg w t d s
      exSs w x u s) p.1 p.2) P)) : OP (exS w x (.for t it u) s) P := by
  simp only [exS, OP_bind]
  exact h
theorem for_turn {t : Tg} {u : List Sm} {d : D} (h : OP (asg w t d s) (fun s => OP (exSs w x u s) P)) : OP (do
      let s ← asg w t d s
      exSs w x u s) P := by rw [OP_bind]; exact h
theorem s_ret (h : OP (evE w a s) (fun p => P (.ret p.1, p.2))) : OP (exS w x (.ret a) s) P := by
  simp only [exS, OP_bind]
  exact h.mono fun p h => OP_ok.mpr h
theorem ss_nil (h : P (.nx, s)) : OP (exSs w x [] s) P := OP_nil.mpr h
theorem ss_cons {u : Sm} {v : List Sm} (h : OP (exS w x u s) (fun p => match p.1 with | .nx => OP (exSs w x v p.2) P | c => P (c, p.2))) : OP (exSs w x (u :: v) s) P := OP_cons.mpr h
end
theorem xbl {b : Bool} {Q : Bool → Prop} (h : Q b) : ∃ k, D.bl b = .bl k ∧ Q k := ⟨b, rfl, h⟩
theorem xint {b : Int} {Q : Int → Prop} (h : Q b) : ∃ k, D.int b = .int k ∧ Q k := ⟨b, rfl, h⟩
theorem xlst {b : List D} {Q : List D → Prop} (h : Q b) : ∃ k, D.lst b = .lst k ∧ Q k := ⟨b, rfl, h⟩
theorem xok {α : Type} {o : Out α} {a : α} {Q : α → Prop} (e : o = .ok a) (h : Q a) : ∃ k, o = .ok k ∧ Q k := ⟨a, e, h⟩
theorem xsome {α : Type} {o : Option α} {a : α} {Q : α → Prop} (e : o = some a) (h : Q a) : ∃ k, o = some k ∧ Q k := ⟨a, e, h⟩
theorem xbm {α β : Type} {o : Out (α × β)} {a : α} {b : β} {Q : α → β → Prop} (e : o = .ok (a, b)) (h : Q a b) : ∃ z m, o = .ok (z, m) ∧ Q z m := ⟨a, b, e, h⟩
theorem xkc {o : Option Nat} {u : Nat → Option D} {a : Nat} {b : D} {Q : D → Prop} (e : o = some a) (e2 : u a = some b) (h : Q b) : ∃ cl d, o = some cl ∧ u cl = some d ∧ Q d := ⟨a, b, e, e2, h⟩
theorem xle {a b : Int} {m : List MO} {Q : Bool → Prop} (h : Q (decide (a ≤ b))) : ∃ k, cmpD m .LtE (.int a) (.int b) = .ok (.bl k) ∧ Q k := by
  refine ⟨_, ?_, h⟩
  show Out.ok (D.bl (!decide (b < a))) = _
  congr 2
  by_cases hh : b < a
  · rw [decide_eq_true hh, decide_eq_false (by omega)]; rfl
  · rw [decide_eq_false hh, decide_eq_true (by omega)]; rfl
theorem xle2 {a b : Int} {m : List MO} {Q : D → Prop} (h : Q (.bl (decide (a ≤ b)))) : ∃ k, cmpD m .LtE (.int a) (.int b) = .ok k ∧ Q k := by
  obtain ⟨k, e, h⟩ := xle (m := m) (Q := fun k => Q (.bl k)) h
  exact ⟨_, e, h⟩
theorem if_tt {A B : Prop} (h : A) : (if true = true then A else B) := h
theorem if_ff {A B : Prop} (h : B) : (if false = true then A else B) := by rw [if_neg (by simp)]; exact h
section
variable {w : W} {s : S} {P : D × S → Prop} {i j : Int} {x y : D}
theorem b_add (h : P (.int (i + j), s)) : OP (binF w .Add (.int i) (.int j) s) P := OP_ok.mpr h
theorem b_sub (h : P (.int (i - j), s)) : OP (binF w .Sub (.int i) (.int j) s) P := OP_ok.mpr h
theorem b_mul (hb : (-(2 ^ 64) < i ∧ i < 2 ^ 64) ∨ (-(2 ^ 64) < j ∧ j < 2 ^ 64)) (h : P (.int (i * j), s)) : OP (binF w .Mult (.int i) (.int j) s) P := by
  refine ⟨(.int (i * j), s), ?_, h⟩
  show (binD s.m .Mult (.int i) (.int j) >>= _) = _
  have : binD s.m .Mult (.int i) (.int j) = .ok (.int (i * j)) := by
    show (gd _ >>= _) = _
    rw [decide_eq_true hb]
    rfl
  rw [this]
  rfl
theorem b_mod (hb : 0 < j) (h : P (.int (i % j), s)) : OP (binF w .Mod (.int i) (.int j) s) P := by
  refine ⟨(.int (i % j), s), ?_, h⟩
  show (binD s.m .Mod (.int i) (.int j) >>= _) = _
  have : binD s.m .Mod (.int i) (.int j) = .ok (.int (i % j)) := by
    show (gd _ >>= _) = _
    rw [decide_eq_true hb]
    rfl
  rw [this]
  rfl
theorem b_div (hb : 0 < j ∧ j < 2 ^ 62) (h : P (.int (i / j), s)) : OP (binF w .FloorDiv (.int i) (.int j) s) P := by
  refine ⟨(.int (i / j), s), ?_, h⟩
  show (binD s.m .FloorDiv (.int i) (.int j) >>= _) = _
  have : binD s.m .FloorDiv (.int i) (.int j) = .ok (.int (i / j)) := by
    show (gd _ >>= _) = _
    rw [decide_eq_true hb]
    rfl
  rw [this]
  rfl
theorem b_of {op : Operator} {z : D} (hop : op ≠ .RShift) (hb : binD s.m op x y = .ok z) (h : P (z, s)) : OP (binF w op x y s) P := by
  refine ⟨(z, s), ?_, h⟩
  unfold binF
  rw [if_neg hop, hb]
  rfl
theorem c_of {op : CmpOp} {z : D} (h0 : op ≠ .Eq ∨ isOwn s.m x = false) (hb : cmpD s.m op x y = .ok z) (h : P (z, s)) : OP (cmpF w op x y s) P := by
  refine ⟨(z, s), ?_, h⟩
  unfold cmpF
  rw [if_neg (by rcases h0 with h0 | h0 <;> simp [h0]), hb]
  rfl
theorem c_eqi (h : P (.bl (decide (i = j)), s)) : OP (cmpF w .Eq (.int i) (.int j) s) P := by
  refine c_of (.inr rfl) ?_ h
  show Out.ok (D.bl (i == j)) = _
  rfl
theorem c_lt (h : P (.bl (decide (i < j)), s)) : OP (cmpF w .Lt (.int i) (.int j) s) P := c_of (.inl (by intro z; cases z)) rfl h
theorem c_gt (h : P (.bl (decide (j < i)), s)) : OP (cmpF w .Gt (.int i) (.int j) s) P := c_of (.inl (by intro z; cases z)) rfl h
theorem c_ge (h : P (.bl (decide (j ≤ i)), s)) : OP (cmpF w .GtE (.int i) (.int j) s) P := by
  refine c_of (.inl (by intro z; cases z)) ?_ h
  show Out.ok (D.bl (!decide (i < j))) = _
  congr 2
  by_cases hh : i < j
  · rw [decide_eq_true hh, decide_eq_false (by omega)]; rfl
  · rw [decide_eq_false hh, decide_eq_true (by omega)]; rfl
theorem c_is {b : Bool} (hb : nonD s.m x = some b) (h : P (.bl b, s)) : OP (cmpF w .Is x .non s) P := by
  refine c_of (.inl (by intro z; cases z)) ?_ h
  show (do .ok (.bl (← opt (nonD s.m x))) : Out D) = _
  rw [hb]
  rfl
theorem c_isn {b : Bool} (hb : nonD s.m x = some b) (h : P (.bl (!b), s)) : OP (cmpF w .IsNot x .non s) P := by
  refine c_of (.inl (by intro z; cases z)) ?_ h
  show (do .ok (.bl (!(← opt (nonD s.m x)))) : Out D) = _
  rw [hb]
  rfl
theorem c_eq {b : Bool} (h0 : isOwn s.m x = false) (hb : eqD (rslv s.m x) (rslv s.m y) = some b) (h : P (.bl b, s)) : OP (cmpF w .Eq x y s) P := by
  refine c_of (.inr h0) ?_ h
  show (match eqD (rslv s.m x) (rslv s.m y) with | some b => .ok (.bl b) | none => do .ok (.bl (← opt (eqX (rslv s.m x) (rslv s.m y)))) : Out D) = _
  rw [hb]
theorem c_ne {b : Bool} (hb : eqD (rslv s.m x) (rslv s.m y) = some b) (h : P (.bl (!b), s)) : OP (cmpF w .NotEq x y s) P := by
  refine c_of (.inl (by intro z; cases z)) ?_ h
  show (do .ok (.bl (!(← opt (eqD (rslv s.m x) (rslv s.m y))))) : Out D) = _
  rw [hb]
  rfl
theorem u_of {z : D} (h0 : isOwn s.m x = false) (hb : subD s.m x y = .ok z) (h : P (z, s)) : OP (subF w x y s) P := by
  refine ⟨(z, s), ?_, h⟩
  unfold subF
  rw [if_neg (by simp [h0]), hb]
  rfl
theorem f_of {b : Bi} {xs : List D} {z : D} (h0 : b ≠ .len) (hb : biD s.m b xs = .ok z) (h : P (z, s)) : OP (bifF w b xs s) P := by
  refine ⟨(z, s), ?_, h⟩
  have e : bifF w b xs s = (do let z ← biD s.m b xs; .ok (z, s)) := by cases b <;> first | exact absurd rfl h0 | rfl
  rw [e, hb]
  rfl
theorem f_len {z : D} (h0 : isOwn s.m x = false) (hb : biLen s.m [x] = .ok z) (h : P (z, s)) : OP (bifF w .len [x] s) P := by
  refine ⟨(z, s), ?_, h⟩
  show lenF w x s = _
  unfold lenF
  rw [if_neg (by simp [h0])]
  show (biLen s.m [x] >>= _) = _
  rw [hb]
  rfl
end
end SV
set_option linter.all false
set_option Elab.async false
set_option maxHeartbeats 4000000
namespace SV
open PySem
def wipeE (own : List Nat) (e : List (Option D)) : List (Option D) := own.foldl (fun e i => e.set i none) e
theorem wipeE_get : ∀ (own : List Nat) (e : List (Option D)) (j : Nat), (wipeE own e)[j]? = if j ∈ own ∧ j < e.length then some none else e[j]?
  | [], e, j => by simp [wipeE]
  | a :: r, e, j => by
    show (wipeE r (e.set a none))[j]? = _
    rw [wipeE_get r (e.set a none) j, List.length_set, List.getElem?_set]
    by_cases h1 : j ∈ r
    · simp only [h1, true_and, List.mem_cons, or_true]
      by_cases h2 : j < e.length
      · simp [h2]
      · simp [h2]; omega
    · simp only [h1, false_and, if_false, List.mem_cons, or_false]
      by_cases h3 : a = j
      · subst h3
        by_cases h2 : a < e.length
        · simp [h2]
        · simp [h2]
      · have : j ≠ a := fun h => h3 h.symm
        simp [h3, this]
theorem wipeE_set {own : List Nat} {k : Nat} (hk : k ∈ own) (e : List (Option D)) (v : Option D) : wipeE own ((wipeE own e).set k v) = wipeE own e := by
  apply List.ext_getElem?
  intro j
  have hl : (wipeE own e).length = e.length := by
    unfold wipeE
    induction own generalizing e with
    | nil => rfl
    | cons a r ih => 
      simp only [List.foldl_cons]
      by_cases hr : k ∈ r
      · rw [ih hr, List.length_set]
      · have : ∀ (r : List Nat) (e : List (Option D)), (r.foldl (fun e i => e.set i none) e).length = e.length := by
          intro r
          induction r with
          | nil => intro e; rfl
          | cons b t ih => intro e; rw [List.foldl_cons, ih, List.length_set]
        rw [this, List.length_set]
  rw [wipeE_get, wipeE_get, List.length_set, hl, List.getElem?_set, wipeE_get, hl]
  by_cases h1 : j ∈ own
  · by_cases h2 : j < e.length
    · simp [h1, h2]
    · simp only [h1, h2, and_false, if_false]
      by_cases h3 : k = j
      · simp [h3, h2]
      · simp [h3]
  · have h3 : k ≠ j := fun h => h1 (h ▸ hk)
    simp [h1, h3]
theorem wipe_len (own : List Nat) : ∀ e : List (Option D), (wipeE own e).length = e.length := by
  induction own with
  | nil => intro e; rfl
  | cons b t ih => intro e; show (wipeE t (e.set b none)).length = _; rw [ih, List.length_set]
def backE (own : List Nat) (e0 e : List (Option D)) : List (Option D) := own.foldl (fun e i => e.set i ((e0[i]?).getD none)) e
theorem back_get (e0 : List (Option D)) : ∀ (own : List Nat) (e : List (Option D)) (j : Nat), e.length = e0.length → (backE own e0 e)[j]? = if j ∈ own then e0[j]? else e[j]?
  | [], e, j, h => by simp [backE]
  | a :: r, e, j, h => by
    show (backE r e0 (e.set a _))[j]? = _
    rw [back_get e0 r _ j (by rw [List.length_set]; exact h), List.getElem?_set]
    by_cases h1 : j ∈ r
    · simp [h1]
    · by_cases h3 : a = j
      · subst h3
        by_cases h2 : a < e.length
        · have h4 : a < e0.length := by omega
          simp [h1, h2, h4]
        · have h4 : ¬ a < e0.length := by omega
          simp [h1, h2, h4]
      · have : j ≠ a := fun h => h3 h.symm
        simp [h1, h3, this]
theorem back_wipe (own : List Nat) (e : List (Option D)) (e' : List (Option D)) (h : e' = wipeE own e ∨ ∃ k v, k ∈ own ∧ e' = (wipeE own e).set k v) : backE own e e' = e := by
  apply List.ext_getElem?
  intro j
  have hl : e'.length = e.length := by
    rcases h with h | ⟨k, v, _, h⟩ <;> subst h
    · exact wipe_len _ _
    · rw [List.length_set, wipe_len]
  rw [back_get e own e' j hl]
  by_cases h1 : j ∈ own
  · rw [if_pos h1]
  · rw [if_neg h1]
    rcases h with h | ⟨k, v, hk, h⟩ <;> subst h
    · rw [wipeE_get]; simp [h1]
    · have h3 : k ≠ j := fun h => h1 (h ▸ hk)
      rw [List.getElem?_set, if_neg h3, wipeE_get]; simp [h1]
theorem fz_map {e : List (Option D)} {k : Nat} {xs : List D} (h : ∀ o ∈ e, o ≠ some (.ref k)) : (e.map fun o => if o = some (.ref k) then some (.lst xs) else o) = e := by
  conv => rhs; rw [← List.map_id e]
  apply List.map_congr_left
  intro o ho
  rw [if_neg (h o ho)]; rfl
section
variable {w : W} {s s' : S} {P : D × S → Prop}
theorem e_frzX {a : Ex} (h : OP (evE w a s) (fun p => ∃ k xs, p.1 = .ref k ∧ p.2.m[k]? = some (.lst xs) ∧ P (.lst xs, ⟨p.2.e.map fun o => if o = some (.ref k) then some (.lst xs) else o, p.2.m.set k .dead⟩))) : OP (evE w (.frz a) s) P := by
  obtain ⟨⟨d, t⟩, e, k, xs, h1, h2, h3⟩ := h
  exact e_frzR (xs := xs) ⟨(d, t), e, k, h1, h2, h3⟩
/-- a comprehension over a name: I i ys m after i items -/
theorem e_lcI {e : Ex} {own : List Nat} {k : Nat} {it : It} {ifs : Exs} {xs : List D} (I : Nat → List D → List MO → Prop)
    (hi : OP (evI w it s) (fun p => p = (xs, s'))) (hl : xs.length ≤ sizeL) (hn : ∀ o ∈ s'.e, o ≠ some (.ref s'.m.length)) (hk : k ∈ own) (h0 : I 0 [] s'.m)
    (ht : ∀ i x ys m, xs[i]? = some x → I i ys m → m.length = s'.m.length → OP (evA w ifs ⟨(wipeE own s'.e).set k (some x), m ++ [.lst ys]⟩) (fun p => p.2 = ⟨(wipeE own s'.e).set k (some x), m ++ [.lst ys]⟩ ∧
      if p.1 = true then OP (evE w e ⟨(wipeE own s'.e).set k (some x), m ++ [.lst ys]⟩) (fun q => ∃ m', q.2 = ⟨(wipeE own s'.e).set k (some x), m' ++ [.lst ys]⟩ ∧ m'.length = s'.m.length ∧ I (i + 1) (ys ++ [q.1]) m') else I (i + 1) ys m))
    (hd : ∀ ys m, I xs.length ys m → m.length = s'.m.length → P (.lst ys, ⟨s'.e, m ++ [.dead]⟩)) : OP (evE w (.frz (.lc e own (.name k) it ifs)) s) P := by
  refine e_frzX (e_lc ?_)
  refine hi.mono ?_
  rintro p rfl
  dsimp only
  refine OP_lcL (fun i t => ∃ ys m e', t = ⟨e', m ++ [.lst ys]⟩ ∧ (e' = wipeE own s'.e ∨ (∃ k v, k ∈ own ∧ e' = (wipeE own s'.e).set k v) ∨ e' = s'.e) ∧ wipeE own e' = wipeE own s'.e ∧ m.length = s'.m.length ∧ ys.length ≤ i ∧ I i ys m) ⟨[], s'.m, s'.e, rfl, .inr (.inr rfl), rfl, rfl, Nat.le_refl _, h0⟩ ?_ ?_
  · rintro t ⟨ys, m, e', rfl, he, hw, hm, hy, hI⟩
    have hb : backE own s'.e e' = s'.e := by
      rcases he with h | h | h
      · exact back_wipe own s'.e e' (.inl h)
      · exact back_wipe own s'.e e' (.inr h)
      · subst h
        apply List.ext_getElem?
        intro j
        rw [back_get _ _ _ _ rfl]
        split <;> rfl
    refine ⟨s'.m.length, ys, rfl, ?_, ?_⟩
    · show (m ++ [MO.lst ys])[s'.m.length]? = _
      rw [← hm]; simp
    · show P (.lst ys, ⟨(backE own s'.e e').map _, (m ++ [MO.lst ys]).set s'.m.length .dead⟩)
      rw [hb, fz_map hn, ← hm]
      have : (m ++ [MO.lst ys]).set m.length .dead = m ++ [.dead] := by simp
      rw [this]
      exact hd _ _ hI hm
  · rintro i d t hx ⟨ys, m, e', rfl, he, hw, hm, hy, hI⟩
    have hlt := (List.getElem?_eq_some_iff.mp hx).1
    refine lc_turn (kk := s'.m.length) (g_nm ?_)
    have hws : wipeS own ⟨e', m ++ [MO.lst ys]⟩ = ⟨wipeE own s'.e, m ++ [.lst ys]⟩ := by
      show (⟨wipeE own e', _⟩ : S) = _
      rw [hw]
    rw [hws]
    refine (ht i d ys m hx hI hm).mono ?_
    rintro ⟨b, s2⟩ ⟨h1, h2⟩
    dsimp only at h1 h2 ⊢
    subst h1
    cases b with
    | true =>
      rw [if_pos rfl] at h2 ⊢
      refine h2.mono ?_
      rintro ⟨y, s3⟩ ⟨m', h3, h4, h5⟩
      dsimp only at h3 h5 ⊢
      subst h3
      refine ⟨ys, by dsimp only; rw [← h4]; simp, by omega, ys ++ [y], m', (wipeE own s'.e).set k (some d), ?_, .inr (.inl ⟨k, _, hk, rfl⟩), wipeE_set hk _ _, h4, by simp; omega, h5⟩
      rw [← h4]; simp
    | false =>
      rw [if_neg (by simp)] at h2 ⊢
      exact ⟨ys, m, _, rfl, .inr (.inl ⟨k, _, hk, rfl⟩), wipeE_set hk _ _, hm, by omega, h2⟩
end
end SV
set_option linter.all false
set_option Elab.async false
set_option maxHeartbeats 4000000
namespace SV
open PySem
local macro_rules | `(tactic| walk_at "sp1") => `(tactic| first
  | refine ss_cons ?_
  | refine e_var rfl ?_
  | refine e_cst ?_
  | refine ss_nil ?_
  | refine q_asg ?_
  | refine s_ret ?_
  | refine s_ifs ?_
  | refine q_exp ?_
  | refine q_par ?_
  | refine s_for ?_
  | refine es_cons ?_
  | refine es_nil ?_
  | refine e_tup ?_
  | refine e_lst ?_
  | refine e_bin ?_
  | refine e_cmp ?_
  | refine e_sub ?_
  | refine e_and ?_
  | refine e_or ?_
  | refine e_not ?_
  | refine e_ite ?_
  | refine e_chn ?_
  | refine e_cal ?_
  | refine e_bif ?_
  | refine e_bmt ?_
  | refine e_isi ?_
  | refine e_fld ?_
  | refine e_kcn ?_
  | refine e_prp ?_
  | refine e_app ?_
  | refine e_ctr ?_
  | refine e_mth ?_
  | refine e_slc ?_
  | refine o_none ?_
  | refine o_somI ?_
  | refine e_newL ?_
  | refine e_frzV ?_
  | refine e_neg ?_
  | refine es_star ?_
  | refine e_lc ?_
  | refine g_nm ?_
  | refine g_sb ?_
  | refine g_at ?_
  | refine gs_nil ?_
  | refine gs_cons ?_
  | refine i_valP ?_
  | refine i_enmP ?_
  | refine i_zipP ?_
  | refine i_rngP ?_
  | refine ea_nil ?_
  | refine ea_one ?_
  | refine b_add ?_
  | refine b_sub ?_
  | refine c_eqi ?_
  | refine c_lt ?_
  | refine c_gt ?_
  | refine c_ge ?_
  | refine if_tt ?_
  | refine if_ff ?_
  | refine xbl ?_
  | refine xint ?_
  | refine xlst ?_
  | refine xle ?_
  | refine xle2 ?_
  | refine lv_ret rfl ?_
  | refine lv_retT rfl ?_
  | refine lv_nx ?_
  | refine xok rfl ?_
  | refine xsome rfl ?_
  | refine xbm rfl ?_
  | refine And.intro rfl ?_
  | refine And.intro (Nat.le_of_ble_eq_true rfl) ?_)
local macro_rules | `(tactic| walk_at "sp") => `(tactic| repeat' (walk_at "sp1"; try dsimp only [List.set]))
inductive CK where
  | first | last | less | greater | near (m : Int)
  deriving DecidableEq, Inhabited
def labK : CK → Str
  | .first => "first" | .last => "last" | .less => "less" | .greater => "greater" | .near m => Str.ofString "near:" ++ strOfInt m
def cellD : CK → D
  | .first => .ins 0 [.str "first"] | .last => .ins 1 [.str "last"] | .less => .ins 2 [.str "less"] | .greater => .ins 3 [.str "greater"]
  | .near m => .ins 4 [.str (Str.ofString "near:" ++ strOfInt m), .int m]
def OD : Option Int → D
  | none => .non
  | some i => .int i
def absI (i : Int) : Int := if i < 0 then -i else i
def keep1 : CK → Int → Int → Int × Int
  | .first, h, c => (h, c)
  | .last, h, c => (c, h)
  | .less, h, c => (if c < h then c else h, if c > h then c else h)
  | .greater, h, c => (if c > h then c else h, if c < h then c else h)
  | .near m, h, c => if absI (c - m) < absI (h - m) then (c, h) else (h, c)
def stepK (a : List (Option Int) × Option Int) (x : CK × Option Int) : List (Option Int) × Option Int := match a.2, x.2 with
  | some n, some h => (a.1 ++ [some (keep1 x.1 h n).1], some (keep1 x.1 h n).2)
  | n, none => (a.1 ++ [n], none)
  | none, some h => (a.1 ++ [some h], none)
def passK (cs : List CK) (hs : List (Option Int)) (n : Option Int) : List (Option Int) × Option Int := (cs.zip hs).foldl stepK ([], n)
/-- what the world is asked -/
structure Has (p : Pg) (L : List (Nat × Fn)) : Prop where
  fn : ∀ i f, (i, f) ∈ L → p.fn i = some f
section
variable {p : Pg} {n : Nat} {m : List MO}
theorem ite_bl {k : Bool} {A B : Prop} (h1 : k = true → A) (h2 : k = false → B) : if k = true then A else B := by
  cases k with
  | true => exact h1 rfl
  | false => rw [if_neg (by simp)]; exact h2 rfl
theorem if_no {c : Prop} [Decidable c] {A B : Prop} (h : ¬ c) (k : B) : if decide c = true then A else B := by rw [decide_eq_false h]; exact if_ff k
theorem if_yes {c : Prop} [Decidable c] {A B : Prop} (h : c) (k : A) : if decide c = true then A else B := by rw [decide_eq_true h]; exact if_tt k
theorem run0 (h : p.fn 0 = some F0) (v lo hi : Int) : OP ((callF p (n + 1)).1 0 [.int v, .int lo, .int hi] m) (fun r => r = (.bl (decide (lo ≤ v) && decide (v ≤ hi)), m)) := by
  rw [call_succ h]
  refine run_leave [some (.int v), some (.int lo), some (.int hi)] rfl rfl rfl ?_
  walk_at "sp"
  refine ite_bl (fun e => ?_) (fun e => ?_)
  · walk_at "sp"
    rw [e]; rfl
  · walk_at "sp"
    rw [e]; rfl
theorem P_enum : ∀ (xs : List D) (n i : Nat), (enumL n xs)[i]? = (xs[i]?).map fun x => .tup [.int ((n + i : Nat) : Int), x]
  | [], n, i => by simp [enumL]
  | x :: r, n, 0 => by simp [enumL]
  | x :: r, n, i + 1 => by
    simp only [enumL, List.getElem?_cons_succ, P_enum r (n + 1) i]
    have : n + 1 + i = n + (i + 1) := by omega
    rw [this]
theorem P_elen : ∀ (xs : List D) (n : Nat), (enumL n xs).length = xs.length
  | [], n => rfl
  | x :: r, n => by simp [enumL, P_elen r (n + 1)]
theorem P_zip : ∀ (xs ys : List D) (i : Nat), (zipL xs ys)[i]? = match xs[i]?, ys[i]? with | some x, some y => some (.tup [x, y]) | _, _ => none
  | [], ys, i => by simp [zipL]
  | x :: r, [], i => by simp [zipL]
  | x :: r, y :: t, 0 => by simp [zipL]
  | x :: r, y :: t, i + 1 => by simp only [zipL, List.getElem?_cons_succ, P_zip r t i]
theorem P_zlen : ∀ (xs ys : List D), (zipL xs ys).length = min xs.length ys.length
  | [], ys => by simp [zipL]
  | x :: r, [] => by simp [zipL]
  | x :: r, y :: t => by simp only [zipL, List.length_cons, P_zlen r t]; omega
/-- check_row of numbers within the bounds -/
theorem run2 (h0 : p.fn 0 = some F0) (h2 : p.fn 2 = some F2) (xs : List Int) (k : Nat) (hx : ∀ x ∈ xs, -(10 ^ 9) ≤ x ∧ x ≤ 10 ^ 9) (hl : xs.length ≤ k) : OP ((callF p (n + 2)).1 2 [.lst (xs.map D.int), .int k] m) (fun r => r = (.non, m)) := by
  rw [call_succ h2]
  refine run_leave [some (.lst (xs.map D.int)), some (.int k), none, none] rfl rfl rfl ?_
  walk_at "sp"
  refine OP_for (fun i s => ∃ a b, s = ⟨[some (.lst (xs.map D.int)), some (.int k), a, b], m⟩) ⟨_, _, rfl⟩ ?_ ?_
  · rintro t ⟨a, b, rfl⟩
    walk_at "sp"
  · rintro i d t hi ⟨a, b, rfl⟩
    rw [P_enum, List.getElem?_map] at hi
    cases hv : xs[i]? with
    | none => rw [hv] at hi; cases hi
    | some v =>
      rw [hv] at hi
      cases hi
      have hlt := (List.getElem?_eq_some_iff.mp hv).1
      have hb := hx v (List.mem_of_getElem? hv)
      refine for_turn (g_tp rfl rfl ?_)
      walk_at "sp"
      refine if_no (by omega) ?_
      walk_at "sp"
      refine (run0 h0 _ _ _).mono ?_
      rintro r rfl
      walk_at "sp"
      have e1 : decide ((0 : Int) - 1000000000 ≤ v) = true := decide_eq_true (by omega)
      have e2 : decide (v ≤ (1000000000 : Int)) = true := decide_eq_true (by omega)
      rw [e1, e2]
      refine if_ff ?_
      walk_at "sp"
      exact ⟨_, _, rfl⟩
def cK : CK → Nat | .first => 0 | .last => 1 | .less => 2 | .greater => 3 | .near _ => 4
def fK : CK → Nat | .first => 4 | .last => 8 | .less => 10 | .greater => 12 | .near _ => 15
def FK : CK → Fn | .first => F4 | .last => F8 | .less => F10 | .greater => F12 | .near _ => F15
structure CellH (p : Pg) (c : CK) : Prop where
  mt : p.meth (cK c) 0 = some (fK c)
  fn : p.fn (fK c) = some (FK c)
theorem cls_cell (m : List MO) (c : CK) : clsOf m (cellD c) = some (cK c) := by cases c <;> rfl
theorem own_cell (m : List MO) (c : CK) : isOwn m (cellD c) = true := by unfold isOwn; rw [cls_cell]; rfl
theorem cell_call {c : CK} (h : CellH p c) (a b : Int) (s : S) : OP (callM (wN p (n + 1)) (cellD c) 0 [.int a, .int b] s) (fun r => r = (.tup [.int (keep1 c a b).1, .int (keep1 c a b).2], s)) := by
  refine callM_ok (cls_cell _ _) h.mt ?_
  refine OP.mono (P := fun r => r = (.tup [.int (keep1 c a b).1, .int (keep1 c a b).2], s.m)) ?_ fun r e => by rw [e]
  show OP ((callF p (n + 1)).1 (fK c) [cellD c, .int a, .int b] s.m) _
  rw [call_succ h.fn]
  cases c with
  | first =>
    refine run_leave [some (cellD .first), some (.int a), some (.int b)] rfl rfl rfl ?_
    walk_at "sp"
    rfl
  | last =>
    refine run_leave [some (cellD .last), some (.int a), some (.int b)] rfl rfl rfl ?_
    walk_at "sp"
    rfl
  | less =>
    refine run_leave [some (cellD .less), some (.int a), some (.int b)] rfl rfl rfl ?_
    walk_at "sp"
    rfl
  | greater =>
    refine run_leave [some (cellD .greater), some (.int a), some (.int b)] rfl rfl rfl ?_
    walk_at "sp"
    rfl
  | near k =>
    refine run_leave [some (cellD (.near k)), some (.int a), some (.int b)] rfl rfl rfl ?_
    walk_at "sp"
    by_cases hh : absI (b - k) < absI (a - k)
    · refine if_yes hh ?_
      walk_at "sp"
      simp only [keep1, if_pos hh]
    · refine if_no hh ?_
      walk_at "sp"
      simp only [keep1, if_neg hh]
theorem getTop (m : List MO) (a : MO) : (m ++ [a])[m.length]? = some a := by simp
theorem setTop (m : List MO) (a b : MO) : (m ++ [a]).set m.length b = m ++ [b] := by simp
theorem knd_top (m : List MO) (xs : List D) : kindM (m ++ [.lst xs]) .append (.ref m.length) = true := by
  show (match rslv (m ++ [.lst xs]) (.ref m.length) with | .lst _ => true | _ => false) = true
  have : rslv (m ++ [.lst xs]) (.ref m.length) = .lst xs := by
    show (match (m ++ [MO.lst xs])[m.length]? with | some (.lst xs) => D.lst xs | some (.dct es) => .dct es | _ => .ref m.length) = _
    rw [getTop]
  rw [this]
theorem app_top (m : List MO) (xs : List D) (y : D) (h : xs.length < sizeL) : bmD (m ++ [.lst xs]) .append (.ref m.length) [y] = .ok (.non, m ++ [.lst (xs ++ [y])]) := by
  show (match (m ++ [MO.lst xs])[m.length]? with | some (.lst ys) => (do gd (decide (ys.length < sizeL)); .ok (.non, (m ++ [MO.lst xs]).set m.length (.lst (ys ++ [y]))) : Out (D × List MO)) | _ => .bad) = _
  rw [getTop]
  dsimp only
  rw [decide_eq_true h, setTop]
  rfl
theorem nonOD (m : List MO) (o : Option Int) : nonD m (OD o) = some o.isNone := by cases o <;> rfl
theorem clo_OD (n : Nat) (o : Option Int) : cloD n (OD o) = true := by cases o <;> rfl
theorem clo_ODs (n : Nat) : ∀ l : List (Option Int), cloDs n (l.map OD) = true
  | [] => rfl
  | a :: r => by simp only [List.map_cons, cloDs, clo_OD, clo_ODs n r, Bool.and_self]
theorem run19 {cs : List CK} {hs : List (Option Int)} {o : Option Int} (h : p.fn 19 = some F19) (hc : ∀ c ∈ cs, CellH p c) (hl : cs.length < 1000) : OP ((callF p (n + 2)).1 19 [.tup (cs.map cellD), .tup (hs.map OD), OD o] m)
    (fun r => r = (.tup [.tup ((passK cs hs o).1.map OD), OD (passK cs hs o).2], m)) := by
  rw [call_succ h]
  refine run_leave [some (.tup (cs.map cellD)), some (.tup (hs.map OD)), some (OD o), none, none, none] rfl rfl rfl ?_
  walk_at "sp"
  refine OP_for (fun i s => ∃ a b, s = ⟨[some (.tup (cs.map cellD)), some (.tup (hs.map OD)), some (OD (((cs.zip hs).take i).foldl stepK ([], o)).2), some (.ref m.length), a, b], m ++ [.lst ((((cs.zip hs).take i).foldl stepK ([], o)).1.map OD)]⟩ ∧ (((cs.zip hs).take i).foldl stepK ([], o)).1.length = min i (cs.zip hs).length) ⟨_, _, rfl, by simp⟩ ?_ ?_
  · rintro t ⟨a, b, rfl, hlen⟩
    have e : (cs.zip hs).take (zipL (cs.map cellD) (hs.map OD)).length = cs.zip hs := by
      rw [P_zlen]
      apply List.take_of_length_le
      simp
    rw [e]
    walk_at "sp"
    refine f_of (b := .tuple) (by decide) (z := .tup ((passK cs hs o).1.map OD)) ?_ ?_
    · show (do .ok (.tup (← opt (seqOf (m ++ _) (.ref m.length)))) : Out D) = _
      simp only [seqOf, getTop]
      rfl
    walk_at "sp"
    refine lv_retT ?_ rfl
    simp only [cloD, cloDs, clo_ODs, clo_OD, Bool.and_self]
  · rintro i d t hi ⟨a, b, rfl, hlen⟩
    rw [P_zip, List.getElem?_map, List.getElem?_map] at hi
    cases hcv : cs[i]? with
    | none => rw [hcv] at hi; cases hi
    | some c =>
      cases hhv : hs[i]? with
      | none => rw [hcv, hhv] at hi; cases hi
      | some hv =>
        rw [hcv, hhv] at hi
        cases hi
        have hz : (cs.zip hs)[i]? = some (c, hv) := by rw [List.getElem?_zip_eq_some]; exact ⟨hcv, hhv⟩
        have hlt : i < (cs.zip hs).length := (List.getElem?_eq_some_iff.mp hz).1
        have hci := hc c (List.mem_of_getElem? hcv)
        have htk : (cs.zip hs).take (i + 1) = (cs.zip hs).take i ++ [(c, hv)] := by rw [List.take_add_one, hz]; rfl
        have hil : i < 1000 := by
          have := (List.getElem?_eq_some_iff.mp hcv).1
          omega
        rw [htk, List.foldl_append, List.foldl_cons, List.foldl_nil]
        generalize hst : ((cs.zip hs).take i).foldl stepK ([], o) = st at *
        obtain ⟨acc, cur⟩ := st
        dsimp only at hlen ⊢
        have hacc : acc.length < sizeL := by
          show acc.length < 16777216
          omega
        refine for_turn (g_tp rfl rfl ?_)
        have app : ∀ (y : Option Int), bmD (m ++ [MO.lst (acc.map OD)]) .append (.ref m.length) [OD y] = .ok (.non, m ++ [MO.lst ((acc ++ [y]).map OD)]) := by
          intro y
          rw [app_top _ _ _ (by rw [List.length_map]; exact hacc), List.map_append]
          rfl
        walk_at "sp"
        refine c_is (nonOD _ _) ?_
        walk_at "sp"
        cases cur with
        | none =>
          walk_at "sp"
          refine ⟨knd_top _ _, ?_⟩
          walk_at "sp"
          refine c_is (nonOD _ _) ?_
          walk_at "sp"
          cases hv with
          | none =>
            walk_at "sp"
            refine xbm (app none) ?_
            walk_at "sp"
            exact ⟨_, _, rfl, by show (acc ++ [none]).length = _; rw [List.length_append, hlen, List.length_singleton]; omega⟩
          | some hv =>
            walk_at "sp"
            refine xbm (app (some hv)) ?_
            walk_at "sp"
            exact ⟨_, _, rfl, by show (acc ++ [some hv]).length = _; rw [List.length_append, hlen, List.length_singleton]; omega⟩
        | some cv =>
          walk_at "sp"
          refine c_is (nonOD _ _) ?_
          walk_at "sp"
          cases hv with
          | none =>
            walk_at "sp"
            refine ⟨knd_top _ _, ?_⟩
            walk_at "sp"
            refine xbm (app (some cv)) ?_
            walk_at "sp"
            exact ⟨_, _, rfl, by show (acc ++ [some cv]).length = _; rw [List.length_append, hlen, List.length_singleton]; omega⟩
          | some hv =>
            walk_at "sp"
            refine ⟨own_cell _ _, ?_⟩
            walk_at "sp"
            refine (cell_call hci hv cv _).mono ?_
            rintro r rfl
            refine g_tp rfl rfl ?_
            walk_at "sp"
            refine ⟨knd_top _ _, ?_⟩
            walk_at "sp"
            refine xbm (app (some (keep1 c hv cv).1)) ?_
            walk_at "sp"
            exact ⟨_, _, rfl, by show (acc ++ [some (keep1 c hv cv).1]).length = _; rw [List.length_append, hlen, List.length_singleton]; omega⟩
end
end SV
set_option linter.all false
set_option Elab.async false
set_option maxHeartbeats 4000000
namespace SV
open PySem
local macro_rules | `(tactic| walk_at "sp1") => `(tactic| first
  | refine ss_cons ?_
  | refine e_var rfl ?_
  | refine e_cst ?_
  | refine ss_nil ?_
  | refine q_asg ?_
  | refine s_ret ?_
  | refine s_ifs ?_
  | refine q_exp ?_
  | refine q_par ?_
  | refine s_for ?_
  | refine es_cons ?_
  | refine es_nil ?_
  | refine e_tup ?_
  | refine e_lst ?_
  | refine e_bin ?_
  | refine e_cmp ?_
  | refine e_sub ?_
  | refine e_and ?_
  | refine e_or ?_
  | refine e_not ?_
  | refine e_ite ?_
  | refine e_chn ?_
  | refine e_cal ?_
  | refine e_bif ?_
  | refine e_bmt ?_
  | refine e_isi ?_
  | refine e_fld ?_
  | refine e_kcn ?_
  | refine e_prp ?_
  | refine e_app ?_
  | refine e_ctr ?_
  | refine e_mth ?_
  | refine e_slc ?_
  | refine o_none ?_
  | refine o_somI ?_
  | refine e_newL ?_
  | refine e_frzV ?_
  | refine e_neg ?_
  | refine es_star ?_
  | refine e_lc ?_
  | refine g_nm ?_
  | refine g_sb ?_
  | refine g_at ?_
  | refine gs_nil ?_
  | refine gs_cons ?_
  | refine i_valP ?_
  | refine i_enmP ?_
  | refine i_zipP ?_
  | refine i_rngP ?_
  | refine ea_nil ?_
  | refine ea_one ?_
  | refine b_add ?_
  | refine b_sub ?_
  | refine c_eqi ?_
  | refine c_lt ?_
  | refine c_gt ?_
  | refine c_ge ?_
  | refine if_tt ?_
  | refine if_ff ?_
  | refine xbl ?_
  | refine xint ?_
  | refine xlst ?_
  | refine xle ?_
  | refine xle2 ?_
  | refine lv_ret rfl ?_
  | refine lv_retT rfl ?_
  | refine lv_nx ?_
  | refine xok rfl ?_
  | refine xsome rfl ?_
  | refine xbm rfl ?_
  | refine And.intro rfl ?_
  | refine And.intro (Nat.le_of_ble_eq_true rfl) ?_)
local macro_rules | `(tactic| walk_at "sp") => `(tactic| repeat' (walk_at "sp1"; try dsimp only [List.set]))
def chainD (cs : List CK) : D := .ins 5 [.tup (cs.map cellD)]
section
variable {p : Pg} {n : Nat} {m : List MO}
/-- a cell is made -/
structure MakeH (p : Pg) (c : Nat) (z : Str) : Prop where
  it : p.init c = some 3
  kc : p.kcon c 0 = some (.str z)
  fn : p.fn 3 = some F3
theorem eq_cells_nil (m : List MO) : ∀ {cs : List CK}, cs ≠ [] → cmpD m .Eq (.tup (cs.map cellD)) (.tup []) = .ok (.bl false)
  | [], h => absurd rfl h
  | c :: r, _ => by
    show (match eqD (.tup (cellD c :: r.map cellD)) (.tup []) with | some b => .ok (.bl b) | none => do .ok (.bl (← opt (eqX (.tup (cellD c :: r.map cellD)) (.tup [])))) : Out D) = _
    have h : okD 59 (cellD c) = false := by cases c <;> rfl
    have e : eqD (.tup (cellD c :: r.map cellD)) (.tup []) = none := by
      show (if okD 60 (.tup (cellD c :: r.map cellD)) && okD 60 (.tup []) then _ else none) = _
      have : okD 60 (.tup (cellD c :: r.map cellD)) = false := by
        show List.all (cellD c :: r.map cellD) (okD 59) = false
        rw [List.all_cons, h]; rfl
      rw [this]; rfl
    rw [e]
    rfl
theorem clo_cell (n : Nat) (c : CK) : cloD n (cellD c) = true := by cases c <;> rfl
theorem clo_cells (n : Nat) : ∀ cs : List CK, cloDs n (cs.map cellD) = true
  | [] => rfl
  | c :: r => by simp only [List.map_cons, cloDs, clo_cell, clo_cells n r, Bool.and_self]
theorem make_cell {c : CK} (hn : ∀ k, c ≠ .near k) (h : MakeH p (cK c) (labK c)) (s : S) : OP (makeD (wN p (n + 1)) (cK c) [] s) (fun r => r = (cellD c, s)) := by
  have e1 : (callF p (n + 1)).1 3 [.ref s.m.length] (s.m ++ [.obj (cK c) []]) = .ok (.non, s.m ++ [.obj (cK c) [(0, .str (labK c))]]) := by
    have : OP ((callF p (n + 1)).1 3 [.ref s.m.length] (s.m ++ [.obj (cK c) []])) (fun r => r = (.non, s.m ++ [.obj (cK c) [(0, .str (labK c))]])) := by
      rw [call_succ h.fn]
      refine run_keep [some (.ref s.m.length)] rfl rfl rfl ?_
      refine ss_cons (q_asg (e_kcn ?_))
      walk_at "sp"
      refine ⟨cK c, .str (labK c), ?_, h.kc, ?_⟩
      · show (match (s.m ++ [MO.obj (cK c) []])[s.m.length]? with | some (.obj c _) => some c | _ => none) = _
        rw [getTop]
      walk_at "sp"
      refine ⟨s.m.length, cK c, [], rfl, getTop _ _, ?_, by decide, ?_⟩
      · cases c <;> first | rfl | exact absurd rfl (hn _)
      rw [setTop]
      walk_at "sp"
      exact rfl
    obtain ⟨r, e, rfl⟩ := this
    exact e
  refine ⟨_, ?_, rfl⟩
  unfold makeD
  have e2 : (wN p (n + 1)).init (cK c) = some 3 := h.it
  have e3 : flds (cK c) = some [0] := by cases c <;> first | rfl | exact absurd rfl (hn _)
  rw [e2]
  dsimp only
  rw [show (wN p (n + 1)).call 3 [.ref s.m.length] (s.m ++ [.obj (cK c) []]) = _ from e1]
  show (match flds (cK c) with | none => _ | some gs => _) = _
  rw [e3]
  dsimp only
  rw [getTop]
  dsimp only
  rw [if_pos ⟨rfl, rfl, exOk_app _ _ _, rfl⟩, List.take_left]
  cases c <;> first | rfl | exact absurd rfl (hn _)
/-- a chain is made -/
theorem make_chain (hi : p.init 5 = some 20) (hf : p.fn 20 = some F20) (cs : List CK) (h1 : cs ≠ []) (h8 : cs.length ≤ 8) (s : S) : OP (makeD (wN p (n + 1)) 5 (cs.map cellD) s) (fun r => r = (chainD cs, s)) := by
  have e1 : (callF p (n + 1)).1 20 (.ref s.m.length :: cs.map cellD) (s.m ++ [.obj 5 []]) = .ok (.non, s.m ++ [.obj 5 [(2, .tup (cs.map cellD))]]) := by
    have : OP ((callF p (n + 1)).1 20 (.ref s.m.length :: cs.map cellD) (s.m ++ [.obj 5 []])) (fun r => r = (.non, s.m ++ [.obj 5 [(2, .tup (cs.map cellD))]])) := by
      rw [call_succ hf]
      refine run_keep (ys := [.ref s.m.length, .tup (cs.map cellD)]) [some (.ref s.m.length), some (.tup (cs.map cellD)), none, none] ?_ rfl rfl ?_
      · unfold argsOf
        rw [if_pos (show F20.star = true from rfl), if_pos ⟨by show 2 ≤ _; simp, by show _ ≤ 16777216; simp; omega⟩]
        rfl
      walk_at "sp"
      refine c_of (z := .bl false) (.inr rfl) (eq_cells_nil _ h1) ?_
      walk_at "sp"
      refine OP_for (fun i t => ∃ a b, t = ⟨[some (.ref s.m.length), some (.tup (cs.map cellD)), a, b], s.m ++ [.obj 5 []]⟩) ⟨_, _, rfl⟩ ?_ ?_
      · rintro t ⟨a, b, rfl⟩
        walk_at "sp"
        refine ⟨s.m.length, 5, [], rfl, getTop _ _, rfl, by decide, ?_⟩
        rw [setTop]
        walk_at "sp"
        exact rfl
      · rintro i d t hi ⟨a, b, rfl⟩
        rw [P_enum, List.getElem?_map] at hi
        cases hcv : cs[i]? with
        | none => rw [hcv] at hi; cases hi
        | some c =>
          rw [hcv] at hi
          cases hi
          have hlt := (List.getElem?_eq_some_iff.mp hcv).1
          refine for_turn (g_tp rfl rfl ?_)
          walk_at "sp"
          refine if_no (by omega) ?_
          walk_at "sp"
          refine ⟨true, by cases c <;> rfl, ?_⟩
          walk_at "sp"
          exact ⟨_, _, rfl⟩
    obtain ⟨r, e, rfl⟩ := this
    exact e
  refine ⟨_, ?_, rfl⟩
  unfold makeD
  have e2 : (wN p (n + 1)).init 5 = some 20 := hi
  rw [e2]
  dsimp only
  rw [show (wN p (n + 1)).call 20 (.ref s.m.length :: cs.map cellD) (s.m ++ [.obj 5 []]) = _ from e1]
  have e4 : inS s (Out.ok (D.non, s.m ++ [.obj 5 [(2, .tup (cs.map cellD))]])) = .ok (.non, ⟨s.e, s.m ++ [.obj 5 [(2, .tup (cs.map cellD))]]⟩) := rfl
  rw [e4]
  dsimp only
  rw [show flds 5 = some [2] from rfl]
  dsimp only
  rw [getTop]
  dsimp only
  rw [if_pos ⟨rfl, rfl, exOk_app _ _ _, by show (cloD s.m.length (.tup (cs.map cellD)) && true) = true; rw [Bool.and_true, cloD, clo_cells]⟩, List.take_left]
  rfl
def stepR (cs : List CK) (a : List (Option Int) × List (Option Int)) (x : Int) : List (Option Int) × List (Option Int) := (a.1 ++ [(passK cs a.2 (some x)).2], (passK cs a.2 (some x)).1)
def runK (cs : List CK) (row : List Int) : List (Option Int) × List (Option Int) := row.foldl (stepR cs) ([], List.replicate cs.length none)
theorem reps (k : Nat) : (List.replicate k [D.non]).flatten = (List.replicate k (none : Option Int)).map OD := by
  induction k with
  | zero => rfl
  | succ k ih => rw [List.replicate_succ, List.replicate_succ, List.flatten_cons, ih]; rfl
theorem run23 (h : p.fn 23 = some F23) (cs : List CK) (h8 : cs.length ≤ 8) : OP ((callF p (n + 1)).1 23 [chainD cs] m) (fun r => r = (.tup ((List.replicate cs.length none).map OD), m)) := by
  rw [call_succ h]
  refine run_leave [some (chainD cs)] rfl rfl rfl ?_
  walk_at "sp"
  rw [List.length_map]
  refine b_of (z := .tup (List.replicate (cs.length : Int).toNat [D.non]).flatten) (by decide) ?_ ?_
  · show (do gd (decide (_)); .ok _ : Out D) = _
    rw [decide_eq_true]
    · simp [Bind.bind, Out.bind, gd]
    · simp; omega
  rw [Int.toNat_natCast, reps]
  refine lv_ret ?_ rfl
  simp only [cloD, clo_ODs]
structure ChainH (p : Pg) : Prop where
  f0 : p.fn 0 = some F0
  f2 : p.fn 2 = some F2
  f19 : p.fn 19 = some F19
  f20 : p.fn 20 = some F20
  f22 : p.fn 22 = some F22
  f23 : p.fn 23 = some F23
  f29 : p.fn 29 = some F29
  f7 : p.fn 7 = some F7
  i5 : p.init 5 = some 20
  m0 : p.meth 5 0 = some 29
  m11 : p.meth 5 11 = some 22
  m12 : p.meth 5 12 = some 23
theorem run29 (h : ChainH p) {cs : List CK} (hc : ∀ c ∈ cs, CellH p c) (h8 : cs.length ≤ 8) (row : List Int) (hx : ∀ x ∈ row, -(10 ^ 9) ≤ x ∧ x ≤ 10 ^ 9) (hl : row.length ≤ 1000) :
    OP ((callF p (n + 3)).1 29 [chainD cs, .lst (row.map D.int)] m) (fun r => r = (.tup [.lst ((runK cs row).1.map OD), .tup ((runK cs row).2.map OD)], m)) := by
  rw [call_succ h.f29]
  refine run_leave [some (chainD cs), some (.lst (row.map D.int)), none, none, none, none] rfl rfl rfl ?_
  walk_at "sp"
  refine (run2 (n := n) h.f0 h.f2 row 1000 hx hl).mono ?_
  rintro r rfl
  walk_at "sp"
  refine callM_ok (g := 23) rfl h.m12 ?_
  refine (run23 (n := n + 1) h.f23 cs h8).mono ?_
  rintro r rfl
  walk_at "sp"
  refine OP_for (fun i s => ∃ a b, s = ⟨[some (chainD cs), some (.lst (row.map D.int)), some (.ref m.length), some (.tup (((row.take i).foldl (stepR cs) ([], List.replicate cs.length none)).2.map OD)), a, b], m ++ [.lst (((row.take i).foldl (stepR cs) ([], List.replicate cs.length none)).1.map OD)]⟩ ∧ ((row.take i).foldl (stepR cs) ([], List.replicate cs.length none)).1.length = min i row.length) ⟨_, _, rfl, by simp⟩ ?_ ?_
  · rintro t ⟨a, b, rfl, hlen⟩
    rw [List.length_map, List.take_length]
    refine ss_cons (s_ret (e_tup (es_cons (e_frzR (e_var rfl ⟨_, rfl, getTop _ _, ?_⟩)))))
    dsimp only [List.map_cons, List.map_nil]
    rw [setTop]
    walk_at "sp"
    refine lv_retT ?_ rfl
    simp only [cloD, cloDs, clo_ODs, Bool.and_self]
  · rintro i d t hi ⟨a, b, rfl, hlen⟩
    rw [List.getElem?_map] at hi
    cases hv : row[i]? with
    | none => rw [hv] at hi; cases hi
    | some x =>
      rw [hv] at hi
      cases hi
      have hlt : i < row.length := (List.getElem?_eq_some_iff.mp hv).1
      have htk : row.take (i + 1) = row.take i ++ [x] := by rw [List.take_add_one, hv]; rfl
      rw [htk, List.foldl_append, List.foldl_cons, List.foldl_nil]
      generalize hst : (row.take i).foldl (stepR cs) ([], List.replicate cs.length none) = st at *
      obtain ⟨outs, held⟩ := st
      dsimp only at hlen ⊢
      refine for_turn (g_nm ?_)
      walk_at "sp"
      refine (run19 (n := n) (o := some x) (hs := held) h.f19 hc (by omega)).mono ?_
      rintro r rfl
      refine g_tp rfl rfl ?_
      walk_at "sp"
      refine ⟨knd_top _ _, ?_⟩
      walk_at "sp"
      refine xbm (app_top _ _ _ (by rw [List.length_map]; show _ < 16777216; omega)) ?_
      walk_at "sp"
      refine ⟨some (.int x), some (OD (passK cs held (some x)).2), ?_, by show (outs ++ [_]).length = _; rw [List.length_append, hlen, List.length_singleton]; omega⟩
      simp only [stepR, List.map_append, List.map_cons, List.map_nil]
theorem lab_cell (h : p.fn 7 = some F7) (c : CK) (hm : p.meth (cK c) 10 = some 7) (s : S) : OP (callM (wN p (n + 1)) (cellD c) 10 [] s) (fun r => r = (.str (labK c), s)) := by
  refine callM_ok (cls_cell _ _) hm ?_
  refine OP.mono (P := fun r => r = (.str (labK c), s.m)) ?_ fun r e => by rw [e]
  show OP ((callF p (n + 1)).1 7 [cellD c] s.m) _
  rw [call_succ h]
  refine run_leave [some (cellD c)] rfl rfl rfl ?_
  refine ss_cons (s_ret (e_fld ?_))
  cases c <;> (walk_at "sp"; try rfl)
theorem strL_str : ∀ ss : List Str, strL (ss.map D.str) = some ss
  | [] => rfl
  | a :: r => by simp only [List.map_cons, strL, strL_str r, Option.map_some]
theorem run22 (h : ChainH p) (cs : List CK) (hm' : ∀ c ∈ cs, p.meth (cK c) 10 = some 7) (h8 : cs.length ≤ 8) (hs : ∀ c ∈ cs, (labK c).length ≤ 100) :
    OP ((callF p (n + 2)).1 22 [chainD cs] m) (fun r => r = (.str (Str.join " " (cs.map labK)), m)) := by
  rw [call_succ h.f22]
  refine run_leave [some (chainD cs), none, none] rfl rfl rfl ?_
  refine ss_cons (s_ret (e_bmt (e_cst ⟨rfl, es_cons (e_lcI (xs := cs.map cellD) (s' := ⟨[some (chainD cs), none, none], m⟩) (fun i ys m' => m' = m ∧ ys = (cs.take i).map fun c => D.str (labK c)) ?_ ?_ ?_ (by decide) ⟨rfl, rfl⟩ ?_ ?_)⟩)))
  · walk_at "sp"
  · rw [List.length_map]; show _ ≤ 16777216; omega
  · simp [chainD]
  · rintro i x ys m' hx ⟨rfl, rfl⟩ hm
    rw [List.getElem?_map] at hx
    cases hcv : cs[i]? with
    | none => rw [hcv] at hx; cases hx
    | some c =>
      rw [hcv] at hx
      cases hx
      refine ea_nil ⟨rfl, if_tt (e_prp (e_var rfl ?_))⟩
      refine (lab_cell h.f7 c (hm' c (List.mem_of_getElem? hcv)) _).mono ?_
      rintro r rfl
      refine ⟨m', rfl, rfl, rfl, ?_⟩
      rw [List.take_add_one, hcv, List.map_append]
      rfl
  · rintro ys m' ⟨rfl, rfl⟩ hm
    rw [List.length_map, List.take_length]
    refine es_nil ?_
    have hj : bmD (m' ++ [MO.dead]) .join (.str " ") [.lst (cs.map fun c => D.str (labK c))] = .ok (.str (Str.join " " (cs.map labK)), m' ++ [.dead]) := by
      show (do
        let ss ← opt (strL (cs.map fun c => D.str (labK c)))
        gd (decide (_ ≤ _))
        .ok (.str (Str.join " " ss), m' ++ [.dead]) : Out (D × List MO)) = _
      have e : (cs.map fun c => D.str (labK c)) = (cs.map labK).map D.str := by rw [List.map_map]; rfl
      rw [e, strL_str]
      show (gd (decide (((cs.map labK).map (·.length)).sum + (cs.map labK).length * (" " : Str).length ≤ sizeL)) >>= _) = _
      rw [decide_eq_true]
      · rfl
      · have h3 : ∀ l : List CK, (∀ c ∈ l, (labK c).length ≤ 100) → ((l.map labK).map (·.length)).sum ≤ l.length * 100 := by
          intro l
          induction l with
          | nil => intro _; simp
          | cons a r ih =>
            intro hh
            have h1 := hh a (by simp)
            have h2 := ih (fun c hc => hh c (by simp [hc]))
            simp only [List.map_cons, List.sum_cons, List.length_cons]
            omega
        have h4 := h3 cs hs
        have h5 : (" " : Str).length = 1 := by decide +kernel
        rw [h5, List.length_map]
        show _ ≤ 16777216
        omega
    refine xbm hj ?_
    walk_at "sp"
end
end SV
set_option linter.all false
set_option Elab.async false
set_option maxHeartbeats 4000000
namespace SV
open PySem
local macro_rules | `(tactic| walk_at "sp1") => `(tactic| first
  | refine ss_cons ?_
  | refine e_var rfl ?_
  | refine e_cst ?_
  | refine ss_nil ?_
  | refine q_asg ?_
  | refine s_ret ?_
  | refine s_ifs ?_
  | refine q_exp ?_
  | refine q_par ?_
  | refine s_for ?_
  | refine es_cons ?_
  | refine es_nil ?_
  | refine e_tup ?_
  | refine e_lst ?_
  | refine e_bin ?_
  | refine e_cmp ?_
  | refine e_sub ?_
  | refine e_and ?_
  | refine e_or ?_
  | refine e_not ?_
  | refine e_ite ?_
  | refine e_chn ?_
  | refine e_cal ?_
  | refine e_bif ?_
  | refine e_bmt ?_
  | refine e_isi ?_
  | refine e_fld ?_
  | refine e_kcn ?_
  | refine e_prp ?_
  | refine e_app ?_
  | refine e_ctr ?_
  | refine e_mth ?_
  | refine e_slc ?_
  | refine o_none ?_
  | refine o_somI ?_
  | refine e_newL ?_
  | refine e_frzV ?_
  | refine e_neg ?_
  | refine es_star ?_
  | refine e_lc ?_
  | refine g_nm ?_
  | refine g_sb ?_
  | refine g_at ?_
  | refine gs_nil ?_
  | refine gs_cons ?_
  | refine i_valP ?_
  | refine i_enmP ?_
  | refine i_zipP ?_
  | refine i_rngP ?_
  | refine ea_nil ?_
  | refine ea_one ?_
  | refine b_add ?_
  | refine b_sub ?_
  | refine c_eqi ?_
  | refine c_lt ?_
  | refine c_gt ?_
  | refine c_ge ?_
  | refine if_tt ?_
  | refine if_ff ?_
  | refine xbl ?_
  | refine xint ?_
  | refine xlst ?_
  | refine xle ?_
  | refine xle2 ?_
  | refine lv_ret rfl ?_
  | refine lv_retT rfl ?_
  | refine lv_nx ?_
  | refine xok rfl ?_
  | refine xsome rfl ?_
  | refine xbm rfl ?_
  | refine And.intro rfl ?_
  | refine And.intro (Nat.le_of_ble_eq_true rfl) ?_)
local macro_rules | `(tactic| walk_at "sp") => `(tactic| repeat' (walk_at "sp1"; try dsimp only [List.set]))
def Dz (xs : List D) : Prop := ∃ (a b : Int) (bigs : List Int), xs = .int a :: .int b :: bigs.map .int ∧ 0 ≤ a ∧ 0 ≤ b ∧ (∀ x ∈ bigs, 0 ≤ x) ∧ bigs.length ≤ 100
section
variable {p : Pg} {n : Nat} {m : List MO}
theorem intsL (xs : List Int) : ∀ n : Nat, cloDs n (xs.map D.int) = true := by
  intro n
  induction xs with
  | nil => rfl
  | cons a r ih => show (true && _) = true; rw [ih]; rfl
theorem run100 (h : p.fn 100 = some F100) (ns : List Int) (hn : ns.length ≤ 63) (c : Int) (hc : 0 ≤ c) : OP ((callF p (n + 1)).1 100 [.scr ns, .int c] m) (fun r => ∃ xs, r = (.lst xs, m ++ [.dead]) ∧ Dz xs) := by
  rw [call_succ h]
  refine run_keep [some (.scr ns), some (.int c), none, none, none] rfl rfl rfl ?_
  refine ss_cons (q_asg (e_var rfl (g_nm ?_)))
  refine ss_cons (s_for (i_valP (e_var rfl ⟨_, rfl, ?_⟩)))
  refine OP_for (fun i s => ∃ (z : Int) (b : Option D), 0 ≤ z ∧ (b = none ∨ ∃ y, b = some (.int y)) ∧ s = ⟨[some (.scr ns), some (.int c), some (.int z), b, none], m⟩) ⟨c, none, hc, .inl rfl, rfl⟩ ?_ ?_
  · rintro t ⟨z, b, hz, hb, rfl⟩
    refine ss_cons (s_ret (e_bin ?_))
    refine e_lst (es_cons (e_var rfl (es_cons (e_cst (es_nil ⟨Nat.le_of_ble_eq_true rfl, ?_⟩)))))
    refine e_lcI (xs := ns.map D.int) (s' := ⟨[some (.scr ns), some (.int c), some (.int z), b, none], m⟩) (fun i ys m' => m' = m ∧ ∃ bigs : List Int, ys = bigs.map .int ∧ (∀ x ∈ bigs, 0 ≤ x) ∧ bigs.length ≤ i) ?_ ?_ ?_ (by decide) ⟨rfl, [], rfl, by simp, by simp⟩ ?_ ?_
    · exact i_valP (e_var rfl ⟨_, rfl, rfl⟩)
    · rw [List.length_map]; show _ ≤ 16777216; omega
    · rcases hb with rfl | ⟨y, rfl⟩ <;> simp
    · rintro i x ys m' hx ⟨rfl, bigs, rfl, hb1, hb2⟩ hm
      rw [List.getElem?_map] at hx
      cases hv : ns[i]? with
      | none => rw [hv] at hx; cases hx
      | some v =>
        rw [hv] at hx
        cases hx
        refine ea_one (e_cmp (e_var rfl (e_bin (e_cst (e_cst ?_)))))
        refine b_of (z := .int (10 ^ 18)) (by decide) rfl ?_
        refine c_ge ⟨_, rfl, rfl, ?_⟩
        dsimp only
        by_cases hge : (10 : Int) ^ 18 ≤ v
        · rw [decide_eq_true hge]
          refine if_tt (e_var rfl ⟨m', rfl, rfl, rfl, bigs ++ [v], by simp, ?_, by simp; omega⟩)
          intro x hx
          rcases List.mem_append.mp hx with h1 | h1
          · exact hb1 x h1
          · have := List.mem_singleton.mp h1
            omega
        · rw [decide_eq_false hge]
          exact if_ff ⟨rfl, bigs, rfl, hb1, by omega⟩
    · rintro ys m' ⟨rfl, bigs, rfl, hb1, hb2⟩ hm
      rw [List.length_map] at hb2
      refine b_of (z := .lst (.int z :: .int 0 :: bigs.map .int)) (by decide) ?_ ?_
      · show (do gd (decide (_)); .ok _ : Out D) = _
        rw [decide_eq_true]
        · rfl
        · show [D.int z, D.int 0].length + (bigs.map D.int).length ≤ 16777216
          rw [List.length_map]
          show 2 + _ ≤ _
          omega
      refine ⟨_, rfl, z, 0, bigs, rfl, hz, by omega, hb1, by omega⟩
  · rintro i d t hi ⟨z, b, hz, hb, rfl⟩
    rw [List.getElem?_map] at hi
    cases hv : ns[i]? with
    | none => rw [hv] at hi; cases hi
    | some v =>
      rw [hv] at hi
      cases hi
      refine for_turn (g_nm ?_)
      refine ss_cons (q_asg (e_bin (e_bin (e_bin (e_var rfl (e_cst (b_mul (.inr (by decide)) ?_)))))))
      refine e_bif (es_cons (e_var rfl (es_nil (f_of (by decide) rfl (b_add (e_cst ?_))))))
      refine b_mod (by decide) (g_nm (ss_nil ⟨_, _, ?_, .inr ⟨v, rfl⟩, rfl⟩))
      exact Int.emod_nonneg _ (by decide)
theorem getM {k : Nat} (hk : k < m.length) (o : MO) : (m.set k o)[k]? = some o := by rw [List.getElem?_set]; simp [hk]
theorem sq_M {k : Nat} (hk : k < m.length) (ys : List D) : seqOf (m.set k (.lst ys)) (.ref k) = some ys := by
  show (match (m.set k (MO.lst ys))[k]? with | some (.lst xs) => some xs | _ => none) = _
  rw [getM hk]
theorem rs_M {k : Nat} (hk : k < m.length) (ys : List D) : rslv (m.set k (.lst ys)) (.ref k) = .lst ys := by
  show (match (m.set k (MO.lst ys))[k]? with | some (.lst xs) => D.lst xs | some (.dct es) => .dct es | _ => .ref k) = _
  rw [getM hk]
theorem dc_M {k : Nat} (hk : k < m.length) (ys : List D) : dctOf (m.set k (.lst ys)) (.ref k) = none := by
  show (match (m.set k (MO.lst ys))[k]? with | some (.dct es) => some es | _ => none) = _
  rw [getM hk]
theorem own_M {k : Nat} (hk : k < m.length) (ys : List D) : isOwn (m.set k (.lst ys)) (.ref k) = false := by
  unfold isOwn
  show (match (m.set k (MO.lst ys))[k]? with | some (.obj c _) => some c | _ => none).isSome = false
  rw [getM hk]
  rfl
theorem ixN (j l : Nat) (h : j < l) : ixOf (j : Int) l = some j := by
  unfold ixOf
  rw [if_pos (by omega), if_pos (by omega)]
  rfl
theorem sub_M {w : W} {e : List (Option D)} {P : D × S → Prop} {k : Nat} (hk : k < m.length) {ys : List D} (j : Nat) {d : D} (hj : ys[j]? = some d) (q : P (d, ⟨e, m.set k (.lst ys)⟩)) : OP (subF w (.ref k) (.int (j : Int)) ⟨e, m.set k (.lst ys)⟩) P := by
  refine u_of (own_M hk _) (z := d) ?_ q
  show subD (m.set k (.lst ys)) (.ref k) (.int j) = _
  have hl := (List.getElem?_eq_some_iff.mp hj).1
  unfold subD
  rw [dc_M hk]
  show (do
    let xs ← opt (seqOf (m.set k (.lst ys)) (.ref k))
    let i ← opt (ixOf (j : Int) xs.length)
    opt xs[i]? : Out D) = _
  rw [sq_M hk]
  show (do
    let i ← opt (ixOf (j : Int) ys.length)
    opt ys[i]? : Out D) = _
  rw [ixN _ _ hl]
  show opt ys[j]? = _
  rw [hj]; rfl
theorem len_M {w : W} {e : List (Option D)} {P : D × S → Prop} {k : Nat} (hk : k < m.length) {ys : List D} (q : P (.int ys.length, ⟨e, m.set k (.lst ys)⟩)) : OP (bifF w .len [.ref k] ⟨e, m.set k (.lst ys)⟩) P := by
  refine f_len (own_M hk _) (z := .int ys.length) ?_ q
  show (match dctOf (m.set k (.lst ys)) (.ref k) with
    | some es => do gd (kindOk es (.int 0)); .ok (.int es.length)
    | none => do .ok (.int (← opt (seqOf (m.set k (.lst ys)) (.ref k))).length) : Out D) = _
  rw [dc_M hk, sq_M hk]
  rfl
theorem kind_M {k : Nat} (hk : k < m.length) (ys : List D) : kindM (m.set k (.lst ys)) .pop1 (.ref k) = true := by
  show (match rslv (m.set k (.lst ys)) (.ref k) with | .lst _ => true | _ => false) = true
  rw [rs_M hk]
theorem pop_M {k : Nat} (hk : k < m.length) {ys : List D} (j : Nat) (hj2 : (j : Int) < 2 ^ 62) {d : D} (hj : ys[j]? = some d) : bmD (m.set k (.lst ys)) .pop1 (.ref k) [.int (j : Int)] = .ok (d, m.set k (.lst (ys.eraseIdx j))) := by
  have hl := (List.getElem?_eq_some_iff.mp hj).1
  show (match (m.set k (MO.lst ys))[k]? with
      | some (.lst ys) => do
        gd (decide (-(2 ^ 62) ≤ (j : Int) ∧ (j : Int) < 2 ^ 62))
        let i ← opt (ixOf (j : Int) ys.length)
        let y ← opt ys[i]?
        .ok (y, (m.set k (MO.lst _)).set k (.lst (ys.eraseIdx i)))
      | _ => .bad : Out (D × List MO)) = _
  rw [getM hk]
  dsimp only
  rw [decide_eq_true ⟨by omega, hj2⟩, ixN _ _ hl]
  show (do let y ← opt ys[j]?; .ok (y, (m.set k (MO.lst ys)).set k (.lst (ys.eraseIdx j))) : Out (D × List MO)) = _
  rw [hj, List.set_set]
  rfl
theorem put_M {k : Nat} (hk : k < m.length) {ys : List D} (j : Nat) (hj : j < ys.length) (v : D) : putD (m.set k (.lst ys)) (.ref k) (.int (j : Int)) v = .ok (m.set k (.lst (ys.set j v))) := by
  show (match (m.set k (MO.lst ys))[k]? with
    | some (.lst ys) => (do let n ← opt (ixOf (j : Int) ys.length); .ok ((m.set k (MO.lst _)).set k (.lst (ys.set n v))) : Out (List MO))
    | some (.dct es) => _
    | _ => .bad) = _
  rw [getM hk]
  dsimp only
  rw [ixN _ _ hj]
  show Out.ok ((m.set k (MO.lst ys)).set k (.lst (ys.set j v))) = _
  rw [List.set_set]
theorem run101 (h : p.fn 101 = some F101) {k : Nat} {xs : List D} (hm : m[k]? = some (.lst xs)) (hD : Dz xs) (c : Int) (hc : 0 < c ∧ c < 2 ^ 62) :
    OP ((callF p (n + 1)).1 101 [.ref k, .int c] m) (fun r => ∃ (v : Int) (ys : List D), r = (.int v, m.set k (.lst ys)) ∧ 0 ≤ v ∧ v < c ∧ Dz ys) := by
  have hk : k < m.length := (List.getElem?_eq_some_iff.mp hm).1
  have hm0 : m = m.set k (.lst xs) := by
    apply List.ext_getElem?
    intro j
    rw [List.getElem?_set]
    by_cases hj : k = j
    · subst hj; rw [if_pos rfl, if_pos hk, hm]
    · simp [hj]
  rw [call_succ h]
  refine run_leave [some (.ref k), some (.int c), none] rfl rfl rfl ?_
  have fin : ∀ {e : List (Option D)} {v : Int} {ys : List D}, 0 ≤ v → v < c → Dz ys → LeaveP m (fun r => ∃ (v : Int) (ys : List D), r = (.int v, m.set k (.lst ys)) ∧ 0 ≤ v ∧ v < c ∧ Dz ys) (.ret (.int v), ⟨e, m.set k (.lst ys)⟩) := by
    intro e v ys h1 h2 h3
    refine lv_set rfl ?_ ⟨v, ys, rfl, h1, h2, h3⟩
    obtain ⟨a, b, bigs, rfl, _⟩ := h3
    exact intsL (a :: b :: bigs) _
  rw [show (⟨[some (.ref k), some (.int c), none], m⟩ : S) = ⟨[some (.ref k), some (.int c), none], m.set k (.lst xs)⟩ from by rw [← hm0]]
  obtain ⟨a, b, bigs, rfl, ha, hb, hB, hL⟩ := hD
  -- behind the first if
  have rest : ∀ (b : Int) (bigs : List Int), 0 ≤ b → (∀ x ∈ bigs, 0 ≤ x) → bigs.length ≤ 100 → OP (exSs (wN p n) none (F101.body.drop 1) ⟨[some (.ref k), some (.int c), none], m.set k (.lst (.int a :: .int b :: bigs.map .int))⟩) (LeaveP m (fun r => ∃ (v : Int) (ys : List D), r = (.int v, m.set k (.lst ys)) ∧ 0 ≤ v ∧ v < c ∧ Dz ys)) := by
    intro b bigs hb hB hL
    refine ss_cons (s_ifs (e_cmp (e_sub (e_var rfl (e_cst (sub_M hk 1 rfl (e_cst (c_gt ⟨_, rfl, ?_⟩))))))))
    refine ite_bl (fun e => ?_) (fun e => ?_)
    · refine ss_cons (q_asg (e_bin (e_sub (e_var rfl (e_cst (sub_M hk 1 rfl (e_var rfl (b_mod hc.1 (g_nm ?_)))))))))
      refine ss_cons (q_asg (e_bin (e_sub (e_var rfl (e_cst (sub_M hk 1 rfl (e_var rfl (b_div hc ?_))))))))
      refine g_sb (e_var rfl (e_cst ⟨_, put_M hk 1 (by simp) _, ?_⟩))
      refine ss_cons (s_ret (e_var rfl ?_))
      exact fin (Int.emod_nonneg _ (by omega)) (Int.emod_lt_of_pos _ hc.1) ⟨a, b / c, bigs, rfl, ha, Int.ediv_nonneg hb (by omega), hB, hL⟩
    · refine ss_nil ?_
      refine ss_cons (q_asg (e_bin (e_bin (e_bin (e_sub (e_var rfl (e_cst (sub_M hk 0 rfl (e_cst (b_mul (.inr (by decide)) (e_cst (b_add (e_cst (b_mod (by decide) ?_)))))))))))))) 
      refine g_sb (e_var rfl (e_cst ⟨_, put_M hk 0 (by simp) _, ?_⟩))
      have hz : 0 ≤ (a * 48271 + 11) % 2147483647 := Int.emod_nonneg _ (by decide)
      refine ss_cons (s_ret (e_bin (e_bin (e_sub (e_var rfl (e_cst (sub_M hk 0 rfl (e_cst (b_div (by decide) (e_var rfl (b_mod hc.1 ?_)))))))))))
      exact fin (Int.emod_nonneg _ (by omega)) (Int.emod_lt_of_pos _ hc.1) ⟨(a * 48271 + 11) % 2147483647, b, bigs, rfl, hz, hb, hB, hL⟩
  refine ss_cons (s_ifs (e_and (e_cmp (e_sub (e_var rfl (e_cst (sub_M hk 1 rfl (e_cst (c_eqi ⟨_, rfl, ?_⟩)))))))))
  refine ite_bl (fun e => ?_) (fun e => ?_)
  · refine e_cmp (e_bif (es_cons (e_var rfl (es_nil (len_M hk (e_cst (c_gt ⟨_, rfl, ?_⟩)))))))
    refine ite_bl (fun e2 => ?_) (fun e2 => ?_)
    · cases bigs with
      | nil => exact absurd (of_decide_eq_true e2) (by simp)
      | cons c1 r =>
        refine ss_cons (q_asg (e_bmt (e_var rfl ⟨kind_M hk _, es_cons (e_cst (es_nil ⟨_, _, pop_M hk 2 (by decide) rfl, ?_⟩))⟩)))
        refine g_sb (e_var rfl (e_cst ⟨_, put_M hk 1 (by simp) _, ?_⟩))
        refine ss_nil ?_
        exact rest c1 r (hB _ (by simp)) (fun x hx => hB x (by simp [hx])) (by simp at hL; omega)
    · exact ss_nil (rest b bigs hb hB hL)
  · refine ⟨_, rfl, if_ff (ss_nil (rest b bigs hb hB hL))⟩
theorem setSame {k : Nat} {o : MO} (hm : m[k]? = some o) : m.set k o = m := by
  have hk : k < m.length := (List.getElem?_eq_some_iff.mp hm).1
  apply List.ext_getElem?
  intro j
  rw [List.getElem?_set]
  by_cases hj : k = j
  · subst hj; rw [if_pos rfl, if_pos hk, hm]
  · simp [hj]
theorem sub_K {w : W} {e : List (Option D)} {P : D × S → Prop} {k : Nat} {ys : List D} (hm : m[k]? = some (.lst ys)) (j : Nat) {d : D} (hj : ys[j]? = some d) (q : P (d, ⟨e, m⟩)) : OP (subF w (.ref k) (.int (j : Int)) ⟨e, m⟩) P := by
  have hk : k < m.length := (List.getElem?_eq_some_iff.mp hm).1
  have := sub_M (w := w) (e := e) (P := P) (m := m) hk j hj (by rw [setSame hm]; exact q)
  rwa [setSame hm] at this
theorem sub_V {w : W} {s : S} {P : D × S → Prop} {ys : List D} (j : Nat) {d : D} (hj : ys[j]? = some d) (q : P (d, s)) : OP (subF w (.lst ys) (.int (j : Int)) s) P := by
  refine u_of rfl (z := d) ?_ q
  have hl := (List.getElem?_eq_some_iff.mp hj).1
  show (do
    let i ← opt (ixOf (j : Int) ys.length)
    opt ys[i]? : Out D) = _
  rw [ixN _ _ hl]
  show opt ys[j]? = _
  rw [hj]; rfl
theorem rs_K {k : Nat} {ys : List D} (hm : m[k]? = some (.lst ys)) : rslv m (.ref k) = .lst ys := by
  show (match m[k]? with | some (.lst xs) => D.lst xs | some (.dct es) => .dct es | _ => .ref k) = _
  rw [hm]
theorem slc_K {k : Nat} {ys : List D} (hm : m[k]? = some (.lst ys)) (l h : Option Int) : slcD m (.ref k) l h = .ok (.lst (sliceL ys l h)) := by
  show (match rslv m (.ref k) with
    | .lst xs => .ok (.lst (sliceL xs l h))
    | _ => .bad : Out D) = _
  rw [rs_K hm]
theorem put_K {k : Nat} {ys : List D} (hm : m[k]? = some (.lst ys)) (j : Nat) (hj : j < ys.length) (v : D) : putD m (.ref k) (.int (j : Int)) v = .ok (m.set k (.lst (ys.set j v))) := by
  have hk : k < m.length := (List.getElem?_eq_some_iff.mp hm).1
  have := put_M (m := m) hk j hj v
  rwa [setSame hm] at this
theorem sl_take {α : Type} (xs : List α) (i : Nat) : sliceL xs none (some (i : Int)) = xs.take i := by
  show (xs.take (clampI (i : Int) xs.length)).drop 0 = _
  rw [List.drop_zero]
  unfold clampI
  rw [if_neg (by omega)]
  show xs.take (min i xs.length) = _
  by_cases h : i ≤ xs.length
  · rw [Nat.min_eq_left h]
  · rw [Nat.min_eq_right (by omega), List.take_length, List.take_of_length_le (by omega)]
theorem sl_drop {α : Type} (xs : List α) (i : Nat) : sliceL xs (some ((i : Int) + 1)) none = xs.drop (i + 1) := by
  show (xs.take xs.length).drop (clampI ((i : Int) + 1) xs.length) = _
  rw [List.take_length]
  unfold clampI
  rw [if_neg (by omega)]
  have : ((i : Int) + 1).toNat = i + 1 := by omega
  rw [this]
  by_cases h : i + 1 ≤ xs.length
  · rw [Nat.min_eq_left h]
  · rw [Nat.min_eq_right (by omega), List.drop_length, List.drop_eq_nil_of_le (by omega)]
theorem b_addL {w : W} {s : S} {P : D × S → Prop} {a b : List D} (h : a.length + b.length ≤ sizeL) (q : P (.lst (a ++ b), s)) : OP (binF w .Add (.lst a) (.lst b) s) P := by
  refine b_of (by decide) (z := .lst (a ++ b)) ?_ q
  show (do gd (decide (a.length + b.length ≤ sizeL)); .ok _ : Out D) = _
  rw [decide_eq_true h]
  rfl
theorem P_rng : ∀ (k : Nat) (a : Int) (i : Nat), (rangeL a k 1)[i]? = if i < k then some (D.int (a + i)) else none
  | 0, a, i => by simp [rangeL]
  | k + 1, a, 0 => by simp [rangeL]
  | k + 1, a, i + 1 => by
    simp only [rangeL, List.getElem?_cons_succ, P_rng k (a + 1) i]
    by_cases h : i < k
    · rw [if_pos h, if_pos (by omega)]; congr 2; omega
    · rw [if_neg h, if_neg (by omega)]
theorem P_rlen : ∀ (k : Nat) (a : Int), (rangeL a k 1).length = k
  | 0, a => rfl
  | k + 1, a => by simp only [rangeL, List.length_cons, P_rlen k]
theorem stepK_acc (acc : List (Option Int)) (o : Option Int) (x : CK × Option Int) : stepK (acc, o) x = (acc ++ (stepK ([], o) x).1, (stepK ([], o) x).2) := by
  obtain ⟨c, h⟩ := x
  cases o <;> cases h <;> rfl
theorem foldK (l : List (CK × Option Int)) : ∀ (acc : List (Option Int)) (o : Option Int), l.foldl stepK (acc, o) = (acc ++ (l.foldl stepK ([], o)).1, (l.foldl stepK ([], o)).2) := by
  induction l with
  | nil => intro acc o; simp
  | cons x r ih =>
    intro acc o
    rw [List.foldl_cons, List.foldl_cons, stepK_acc acc o x]
    rw [ih (acc ++ _), ih (stepK ([], o) x).1 (stepK ([], o) x).2, List.append_assoc]
theorem passK_s (c : CK) (cs : List CK) (h : Int) (hs : List (Option Int)) (y : Int) : passK (c :: cs) (some h :: hs) (some y) = (some (keep1 c h y).1 :: (passK cs hs (some (keep1 c h y).2)).1, (passK cs hs (some (keep1 c h y).2)).2) := by
  show (((c, some h) :: cs.zip hs).foldl stepK ([], some y)) = _
  rw [List.foldl_cons]
  show (cs.zip hs).foldl stepK ([some (keep1 c h y).1], some (keep1 c h y).2) = _
  rw [foldK]
  rfl
theorem passK_0 : ∀ (cs : List CK) (hs : List (Option Int)), cs.length = hs.length → passK cs hs none = (hs, none)
  | [], [], _ => rfl
  | [], _ :: _, h => by cases h
  | _ :: _, [], h => by cases h
  | c :: cs, o :: hs, h => by
    show (((c, o) :: cs.zip hs).foldl stepK ([], none)) = _
    rw [List.foldl_cons]
    have : stepK ([], none) (c, o) = ([o], none) := by cases o <;> rfl
    rw [this, foldK]
    have := passK_0 cs hs (by simpa using h)
    unfold passK at this
    rw [this]
    rfl
theorem passK_n (c : CK) (cs : List CK) (hs : List (Option Int)) (y : Int) (hl : cs.length = hs.length) : passK (c :: cs) (none :: hs) (some y) = (some y :: hs, none) := by
  show (((c, none) :: cs.zip hs).foldl stepK ([], some y)) = _
  rw [List.foldl_cons]
  show (cs.zip hs).foldl stepK ([some y], none) = _
  rw [foldK]
  have := passK_0 cs hs hl
  unfold passK at this
  rw [this]
  rfl
theorem passK_len : ∀ (cs : List CK) (hs : List (Option Int)) (o : Option Int), cs.length = hs.length → (passK cs hs o).1.length = hs.length
  | cs, hs, none, h => by rw [passK_0 _ _ h]
  | [], [], some y, _ => rfl
  | [], _ :: _, some y, h => by cases h
  | _ :: _, [], some y, h => by cases h
  | c :: cs, some a :: hs, some y, h => by
    rw [passK_s]
    show (passK cs hs _).1.length + 1 = _
    rw [passK_len cs hs _ (by simpa using h)]; rfl
  | c :: cs, none :: hs, some y, h => by rw [passK_n _ _ _ _ (by simpa using h)]; rfl
theorem c_eqS {w : W} {s : S} {P : D × S → Prop} {x y : Str} {b : Bool} (hb : (x == y) = b) (h : P (.bl b, s)) : OP (cmpF w .Eq (.str x) (.str y) s) P := by
  refine c_eq (b := b) rfl ?_ h
  show some (x == y) = _
  rw [hb]
theorem c_neS {w : W} {s : S} {P : D × S → Prop} {x y : Str} {b : Bool} (hb : (x == y) = b) (h : P (.bl (!b), s)) : OP (cmpF w .NotEq (.str x) (.str y) s) P := by
  refine c_ne (b := b) ?_ h
  show some (x == y) = _
  rw [hb]
def plainK : CK → Bool
  | .near _ => false
  | _ => true
theorem run105 (h : p.fn 105 = some F105) (c : CK) (hc : plainK c = true) (a b : Int) : OP ((callF p (n + 1)).1 105 [.str (labK c), .int a, .int b] m) (fun r => r = (.tup [.int (keep1 c a b).1, .int (keep1 c a b).2], m)) := by
  rw [call_succ h]
  refine run_leave [some (.str (labK c)), some (.int a), some (.int b), none] rfl rfl rfl ?_
  cases c with
  | near k => cases hc
  | first =>
    refine ss_cons (s_ifs (e_cmp (e_var rfl (e_cst (c_eqS (b := false) (by decide +kernel) (xbl (if_ff (ss_nil ?_))))))))
    refine ss_cons (s_ifs (e_cmp (e_var rfl (e_cst (c_eqS (b := false) (by decide +kernel) (xbl (if_ff (ss_nil ?_))))))))
    refine ss_cons (s_ifs (e_cmp (e_var rfl (e_cst (c_eqS (b := false) (by decide +kernel) (xbl (if_ff (ss_nil ?_))))))))
    refine ss_cons (s_ifs (e_cmp (e_var rfl (e_cst (c_neS (b := true) (by decide +kernel) (xbl (if_ff (ss_nil ?_))))))))
    walk_at "sp"
    rfl
  | last =>
    refine ss_cons (s_ifs (e_cmp (e_var rfl (e_cst (c_eqS (b := true) (by decide +kernel) (xbl (if_tt ?_)))))))
    walk_at "sp"
    rfl
  | less =>
    refine ss_cons (s_ifs (e_cmp (e_var rfl (e_cst (c_eqS (b := false) (by decide +kernel) (xbl (if_ff (ss_nil ?_))))))))
    refine ss_cons (s_ifs (e_cmp (e_var rfl (e_cst (c_eqS (b := true) (by decide +kernel) (xbl (if_tt ?_)))))))
    walk_at "sp"
    rfl
  | greater =>
    refine ss_cons (s_ifs (e_cmp (e_var rfl (e_cst (c_eqS (b := false) (by decide +kernel) (xbl (if_ff (ss_nil ?_))))))))
    refine ss_cons (s_ifs (e_cmp (e_var rfl (e_cst (c_eqS (b := false) (by decide +kernel) (xbl (if_ff (ss_nil ?_))))))))
    refine ss_cons (s_ifs (e_cmp (e_var rfl (e_cst (c_eqS (b := true) (by decide +kernel) (xbl (if_tt ?_)))))))
    walk_at "sp"
    rfl
theorem ods_len (hs : List (Option Int)) : (hs.map OD).length = hs.length := List.length_map _
theorem run106 (h5 : p.fn 105 = some F105) (h : p.fn 106 = some F106) (cs : List CK) (hc : ∀ c ∈ cs, plainK c = true) (hs : List (Option Int)) (hl : cs.length = hs.length) (h8 : cs.length ≤ 100) (x : Int) :
    OP ((callF p (n + 2)).1 106 [.lst (cs.map fun c => D.str (labK c)), .lst (hs.map OD), .int x] m) (fun r => r = (.tup [.lst ((passK cs hs (some x)).1.map OD), OD (passK cs hs (some x)).2], m)) := by
  rw [call_succ h]
  refine run_leave [some (.lst (cs.map fun c => D.str (labK c))), some (.lst (hs.map OD)), some (.int x), none, none] rfl rfl rfl ?_
  refine ss_cons (q_asg (e_newL (e_bif (es_cons (e_var rfl (es_nil (f_of (by decide) (z := .lst (hs.map OD)) rfl ⟨_, rfl, g_nm ?_⟩)))))))
  refine ss_cons (s_for (i_rngP (es_cons (e_bif (es_cons (e_var rfl (es_nil (f_len (z := .int (cs.map fun c => D.str (labK c)).length) rfl rfl (es_nil ⟨rangeL 0 cs.length 1, ?_, ?_⟩)))))))))
  · rw [List.length_map]
    show (do gd (decide (-(2 ^ 61) ≤ (cs.length : Int) ∧ (cs.length : Int) < 2 ^ 61)); .ok (rangeL 0 (cs.length : Int).toNat 1) : Out (List D)) = _
    rw [decide_eq_true (by omega), Int.toNat_natCast]
    rfl
  dsimp only [List.set]
  refine OP_for (fun i s => ∃ (pre : List (Option Int)) (y : Int) (b : Option D), s = ⟨[some (.lst (cs.map fun c => D.str (labK c))), some (.lst (hs.map OD)), some (.int y), some (.ref m.length), b], m ++ [.lst ((pre ++ hs.drop i).map OD)]⟩ ∧ pre.length = i ∧
    passK cs hs (some x) = (pre ++ (passK (cs.drop i) (hs.drop i) (some y)).1, (passK (cs.drop i) (hs.drop i) (some y)).2)) ⟨[], x, none, rfl, rfl, by simp⟩ ?_ ?_
  · rintro t ⟨pre, y, b, rfl, hpre, hp⟩
    rw [P_rlen] at hpre hp ⊢
    rw [List.drop_length, hl, List.drop_length] at hp
    rw [hl, List.drop_length, List.append_nil]
    have hp : passK cs hs (some x) = (pre, some y) := by rw [hp]; simp [passK]
    rw [hp]
    refine ss_cons (s_ret (e_tup (es_cons (e_frzR (e_var rfl ⟨_, rfl, getTop _ _, ?_⟩)))))
    rw [setTop]
    refine es_cons (e_var (d := .int y) (by simp) (es_nil ⟨Nat.le_of_ble_eq_true rfl, ?_⟩))
    refine lv_retT ?_ rfl
    simp only [cloD, cloDs, clo_ODs, Bool.and_self]
  · rintro i d t hi ⟨pre, y, b, rfl, hpre, hp⟩
    rw [P_rng] at hi
    by_cases hil : i < cs.length
    · rw [if_pos hil] at hi
      have hi : D.int (i : Int) = d := by have := Option.some.inj hi; rw [← this]; congr 1; omega
      subst hi
      have hdc : cs.drop i = cs[i] :: cs.drop (i + 1) := List.drop_eq_getElem_cons hil
      have hih : i < hs.length := by omega
      have hdh : hs.drop i = hs[i] :: hs.drop (i + 1) := List.drop_eq_getElem_cons hih
      have hld : (cs.drop (i + 1)).length = (hs.drop (i + 1)).length := by simp [hl]
      have hcp := hc cs[i] (List.getElem_mem _)
      generalize hcv : cs[i] = c at *
      generalize hhv : hs[i] = hv at *
      rw [hdc, hdh] at hp
      rw [hdh]
      have hg : ((pre ++ hv :: hs.drop (i + 1)).map OD)[i]? = some (OD hv) := by
        rw [List.getElem?_map, List.getElem?_append_right (by omega), hpre, Nat.sub_self]; rfl
      have hgw : (cs.map fun c => D.str (labK c))[i]? = some (.str (labK c)) := by
        rw [List.getElem?_map, List.getElem?_eq_getElem hil, hcv]; rfl
      have hlen : ((pre ++ hv :: hs.drop (i + 1)).map OD).length = hs.length := by
        rw [List.length_map, List.length_append, hpre, List.length_cons, List.length_drop]; omega
      refine for_turn (g_nm ?_)
      dsimp only [List.set]
      refine ss_cons (s_ifs (e_cmp (e_sub (e_var rfl (e_var rfl (sub_K (getTop _ _) i hg (e_cst (c_is (nonOD _ _) ⟨_, rfl, ?_⟩))))))))
      cases hv with
      | none =>
        rw [passK_n _ _ _ _ hld] at hp
        refine if_tt (ss_cons (s_ret (e_tup (es_cons (e_bin (e_bin (e_slc (e_var rfl (o_none (o_somI (e_var rfl ?_)))))))))))
        refine ⟨_, rfl, _, slc_K (getTop _ _) _ _, ?_⟩
        rw [sl_take]
        refine e_lst (es_cons (e_var rfl (es_nil ⟨Nat.le_of_ble_eq_true rfl, ?_⟩)))
        refine b_addL ?_ ?_
        · rw [List.length_take, hlen]; show _ + 1 ≤ 16777216; omega
        refine e_slc (e_var rfl (o_somI (e_bin (e_var rfl (e_cst (b_add ?_))))))
        refine ⟨_, rfl, o_none ⟨_, slc_K (getTop _ _) _ _, ?_⟩⟩
        rw [sl_drop]
        refine b_addL ?_ (es_cons (e_cst (es_nil ⟨Nat.le_of_ble_eq_true rfl, ?_⟩)))
        · rw [List.length_append, List.length_take, List.length_drop, hlen]; show _ + 1 + _ ≤ 16777216; omega
        have ee : ((pre ++ none :: hs.drop (i + 1)).map OD).take i ++ [D.int y] ++ ((pre ++ none :: hs.drop (i + 1)).map OD).drop (i + 1) = ((pre ++ some y :: hs.drop (i + 1)).map OD) := by
          subst hpre
          simp [List.map_append, List.take_append, List.drop_append, OD]
        rw [ee, hp]
        refine lv_retT ?_ rfl
        simp only [cloD, cloDs, clo_ODs, Bool.and_self]
      | some a =>
        rw [passK_s] at hp
        refine if_ff (ss_nil ?_)
        refine ss_cons (q_asg (e_cal ?_))
        refine es_cons (e_sub (e_var rfl (e_var rfl (sub_V i hgw ?_))))
        refine es_cons (e_sub (e_var rfl (e_var rfl (sub_K (getTop _ _) i hg ?_))))
        refine es_cons (e_var rfl (es_nil ?_))
        refine (run105 (n := n) h5 c hcp a y).mono ?_
        rintro r rfl
        refine g_tp rfl rfl (gs_cons (g_sb (e_var rfl (e_var rfl ?_))))
        refine ⟨_, put_K (getTop _ _) i (by rw [hlen]; exact hih) _, ?_⟩
        refine gs_cons (g_nm (gs_nil (ss_nil ?_)))
        dsimp only [List.set]
        rw [setTop]
        refine ⟨pre ++ [some (keep1 c a y).1], (keep1 c a y).2, some (.int i), ?_, by simp [hpre], by rw [hp]; simp⟩
        congr 3
        subst hpre
        simp [List.map_append, List.set_append_right, OD]
    · rw [if_neg hil] at hi; cases hi
end
end SV
set_option linter.all false
set_option Elab.async false
set_option maxHeartbeats 4000000
namespace SV
open PySem
section
variable {p : Pg} {n : Nat} {m : List MO}
theorem reps1 (k : Nat) : (List.replicate k [D.non]).flatten = (List.replicate k (none : Option Int)).map OD := reps k
/-- the law's own run of a row -/
theorem run107 (h5 : p.fn 105 = some F105) (h6 : p.fn 106 = some F106) (h : p.fn 107 = some F107) (cs : List CK) (hc : ∀ c ∈ cs, plainK c = true) (h8 : cs.length ≤ 100) (row : List Int) (hl : row.length ≤ 1000) :
    OP ((callF p (n + 3)).1 107 [.lst (cs.map fun c => D.str (labK c)), .lst (row.map D.int)] m) (fun r => r = (.tup [.lst ((runK cs row).1.map OD), .lst ((runK cs row).2.map OD)], m)) := by
  rw [call_succ h]
  refine run_leave [some (.lst (cs.map fun c => D.str (labK c))), some (.lst (row.map D.int)), none, none, none, none] rfl rfl rfl ?_
  refine ss_cons (q_par (es_cons (e_newL (e_lst (es_nil ⟨Nat.le_of_ble_eq_true rfl, _, rfl, ?_⟩)))))
  refine es_cons (e_bin (e_lst (es_cons (e_cst (es_nil ⟨Nat.le_of_ble_eq_true rfl, ?_⟩)))))
  refine e_bif (es_cons (e_var rfl (es_nil (f_len (z := .int (cs.map fun c => D.str (labK c)).length) rfl rfl ?_))))
  rw [List.length_map]
  refine b_of (z := .lst (List.replicate (cs.length : Int).toNat [D.non]).flatten) (by decide) ?_ ?_
  · show (do gd (decide (1 * (cs.length : Int).toNat ≤ sizeL ∧ -(2 ^ 62) < (cs.length : Int) ∧ (cs.length : Int) < 2 ^ 62)); .ok _ : Out D) = _
    rw [decide_eq_true]
    · rfl
    · refine ⟨?_, by omega, by omega⟩
      show _ ≤ 16777216
      omega
  rw [Int.toNat_natCast, reps1]
  refine es_nil (gs_cons (g_nm (gs_cons (g_nm (gs_nil ?_)))))
  dsimp only [List.set]
  refine ss_cons (s_for (i_valP (e_var rfl ⟨_, rfl, ?_⟩)))
  refine OP_for (fun i s => ∃ a b, s = ⟨[some (.lst (cs.map fun c => D.str (labK c))), some (.lst (row.map D.int)), some (.ref m.length), some (.lst (((row.take i).foldl (stepR cs) ([], List.replicate cs.length none)).2.map OD)), a, b], m ++ [.lst (((row.take i).foldl (stepR cs) ([], List.replicate cs.length none)).1.map OD)]⟩ ∧
    ((row.take i).foldl (stepR cs) ([], List.replicate cs.length none)).1.length = min i row.length ∧ cs.length = ((row.take i).foldl (stepR cs) ([], List.replicate cs.length none)).2.length) ⟨_, _, rfl, by simp, by simp⟩ ?_ ?_
  · rintro t ⟨a, b, rfl, hlen, hl2⟩
    rw [List.length_map, List.take_length]
    refine ss_cons (s_ret (e_tup (es_cons (e_frzR (e_var rfl ⟨_, rfl, getTop _ _, ?_⟩)))))
    rw [setTop]
    refine es_cons (e_var (d := .lst ((row.foldl (stepR cs) ([], List.replicate cs.length none)).2.map OD)) (by simp) (es_nil ⟨Nat.le_of_ble_eq_true rfl, ?_⟩))
    refine lv_retT ?_ rfl
    simp only [cloD, cloDs, clo_ODs, Bool.and_self]
  · rintro i d t hi ⟨a, b, rfl, hlen, hl2⟩
    rw [List.getElem?_map] at hi
    cases hv : row[i]? with
    | none => rw [hv] at hi; cases hi
    | some x =>
      rw [hv] at hi
      cases hi
      have hlt : i < row.length := (List.getElem?_eq_some_iff.mp hv).1
      have htk : row.take (i + 1) = row.take i ++ [x] := by rw [List.take_add_one, hv]; rfl
      rw [htk, List.foldl_append, List.foldl_cons, List.foldl_nil]
      generalize hst : (row.take i).foldl (stepR cs) ([], List.replicate cs.length none) = st at *
      obtain ⟨outs, held⟩ := st
      dsimp only at hlen hl2 ⊢
      refine for_turn (g_nm ?_)
      dsimp only [List.set]
      refine ss_cons (q_asg (e_cal (es_cons (e_var rfl (es_cons (e_var rfl (es_cons (e_var rfl (es_nil ?_)))))))))
      refine (run106 (n := n) h5 h6 cs hc held hl2 h8 x).mono ?_
      rintro r rfl
      refine g_tp rfl rfl (gs_cons (g_nm (gs_cons (g_nm (gs_nil ?_)))))
      dsimp only [List.set]
      refine ss_cons (q_exp (e_bmt (e_var rfl ⟨knd_top _ _, es_cons (e_var rfl (es_nil ⟨_, _, app_top _ _ _ (by rw [List.length_map]; show _ < 16777216; omega), ?_⟩))⟩)))
      refine ss_nil ⟨some (.int x), some (OD (passK cs held (some x)).2), ?_, by show (outs ++ [_]).length = _; rw [List.length_append, hlen, List.length_singleton]; omega, ?_⟩
      · simp only [stepR, List.map_append, List.map_cons, List.map_nil]
      · show cs.length = (passK cs held (some x)).1.length
        rw [passK_len _ _ _ hl2, hl2]
def KS : List CK := [.first, .greater, .last, .less]
def prodK : Nat → List (List CK)
  | 0 => [[]]
  | k + 1 => (prodK k).flatMap fun w => KS.map fun c => w ++ [c]
theorem prodK_len : ∀ (k : Nat), (prodK k).length = 4 ^ k
  | 0 => rfl
  | k + 1 => by
    have : ∀ l : List (List CK), (l.flatMap fun w => KS.map fun c => w ++ [c]).length = 4 * l.length := by
      intro l
      induction l with
      | nil => rfl
      | cons a r ih => rw [List.flatMap_cons, List.length_append, ih, List.length_cons]; simp [KS]; omega
    rw [prodK, this, prodK_len k, Nat.pow_succ]; omega
theorem prodK_w : ∀ (k : Nat) (w : List CK), w ∈ prodK k → w.length = k ∧ ∀ c ∈ w, c ∈ KS
  | 0, w, h => by simp [prodK] at h; subst h; simp
  | k + 1, w, h => by
    rw [prodK, List.mem_flatMap] at h
    obtain ⟨v, hv, hw⟩ := h
    rw [List.mem_map] at hw
    obtain ⟨c, hc, rfl⟩ := hw
    obtain ⟨h1, h2⟩ := prodK_w k v hv
    refine ⟨by simp [h1], ?_⟩
    intro d hd
    rcases List.mem_append.mp hd with h | h
    · exact h2 d h
    · rw [List.mem_singleton.mp h]; exact hc
theorem KS_plain {c : CK} (h : c ∈ KS) : plainK c = true ∧ (∀ k, c ≠ .near k) := by
  simp [KS] at h
  rcases h with rfl | rfl | rfl | rfl <;> exact ⟨rfl, by intro k h; cases h⟩
end
end SV
set_option linter.all false
set_option Elab.async false
set_option maxHeartbeats 4000000
namespace SV
open PySem
def EqO (own : List Nat) (e e' : List (Option D)) : Prop := e.length = e'.length ∧ ∀ j, j ∉ own → e[j]? = e'[j]?
theorem EqO.refl (own : List Nat) (e : List (Option D)) : EqO own e e := ⟨rfl, fun _ _ => rfl⟩
theorem EqO.trans {own : List Nat} {a b c : List (Option D)} (h : EqO own a b) (k : EqO own b c) : EqO own a c := ⟨h.1.trans k.1, fun j hj => (h.2 j hj).trans (k.2 j hj)⟩
theorem EqO.mono {own own1 : List Nat} {a b : List (Option D)} (h : EqO own1 a b) (hs : ∀ j ∈ own1, j ∈ own) : EqO own a b := ⟨h.1, fun j hj => h.2 j fun q => hj (hs j q)⟩
theorem EqO.wipe (own : List Nat) (e : List (Option D)) : EqO own e (wipeE own e) := ⟨(wipe_len _ _).symm, fun j hj => by rw [wipeE_get]; simp [hj]⟩
theorem EqO.set {own : List Nat} {k : Nat} (hk : k ∈ own) (e : List (Option D)) (v : Option D) : EqO own e (e.set k v) := ⟨by simp, fun j hj => by rw [List.getElem?_set, if_neg (fun h => hj (by rw [← h]; exact hk))]⟩
theorem wipe_eq {own : List Nat} {a b : List (Option D)} (h : EqO own a b) : wipeE own a = wipeE own b := by
  apply List.ext_getElem?
  intro j
  rw [wipeE_get, wipeE_get, h.1]
  by_cases hj : j ∈ own
  · by_cases h2 : j < b.length
    · simp [hj, h2]
    · have h3 : ¬ j < a.length := by rw [h.1]; exact h2
      simp [hj, h2, h3, List.getElem?_eq_none (Nat.le_of_not_lt h2), List.getElem?_eq_none (Nat.le_of_not_lt h3)]
  · simp [hj, h.2 j hj]
theorem back_eq {own : List Nat} {a b : List (Option D)} (h : EqO own a b) : backE own a b = a := by
  apply List.ext_getElem?
  intro j
  rw [back_get a own b j h.1.symm]
  by_cases hj : j ∈ own
  · rw [if_pos hj]
  · rw [if_neg hj, h.2 j hj]
theorem flat_len {α β : Type} (f : α → List β) (k : Nat) (hf : ∀ x, (f x).length = k) : ∀ xs : List α, (xs.flatMap f).length = xs.length * k
  | [] => by simp
  | a :: r => by rw [List.flatMap_cons, List.length_append, hf, flat_len f k hf r, List.length_cons, Nat.add_mul]; omega
section
variable {w : W} {s s' : S} {P : D × S → Prop}
theorem e_lc2P {e : Ex} {own own1 : List Nat} {k k1 : Nat} {it it1 : It} {xs zs : List D} {g : D → D → D}
    (hi : OP (evI w it s) (fun p => p = (xs, s'))) (hn : ∀ o ∈ s'.e, o ≠ some (.ref s'.m.length)) (hk : k ∈ own) (hk1 : k1 ∈ own1) (hs : ∀ j ∈ own1, j ∈ own) (hl : xs.length * zs.length ≤ sizeL)
    (hz : ∀ x m1, x ∈ xs → OP (evI w it1 ⟨(wipeE own s'.e).set k (some x), m1⟩) (fun p => p = (zs, ⟨(wipeE own s'.e).set k (some x), m1⟩)))
    (he : ∀ x z m1, x ∈ xs → z ∈ zs → OP (evE w e ⟨(wipeE own1 ((wipeE own s'.e).set k (some x))).set k1 (some z), m1⟩) (fun q => q = (g x z, ⟨(wipeE own1 ((wipeE own s'.e).set k (some x))).set k1 (some z), m1⟩)))
    (hd : P (.lst (xs.flatMap fun x => zs.map (g x)), ⟨s'.e, s'.m ++ [.dead]⟩)) : OP (evE w (.frz (.lc2 e own own1 (.name k) it (.name k1) it1)) s) P := by
  refine e_frzX ?_
  simp only [evE, OP_bind]
  refine hi.mono ?_
  rintro p rfl
  dsimp only
  refine OP_lcL (fun i t => ∃ e', t = ⟨e', s'.m ++ [.lst ((xs.take i).flatMap fun x => zs.map (g x))]⟩ ∧ EqO own s'.e e') ⟨s'.e, rfl, EqO.refl _ _⟩ ?_ ?_
  · rintro t ⟨e', rfl, hE⟩
    rw [List.take_length]
    refine OP_ok.mpr ⟨s'.m.length, _, rfl, getTop _ _, ?_⟩
    show P (_, ⟨(backE own s'.e e').map _, (s'.m ++ [MO.lst _]).set s'.m.length .dead⟩)
    rw [back_eq hE, fz_map hn, setTop]
    exact hd
  · rintro i x t hx ⟨e', rfl, hE⟩
    have hxm := List.mem_of_getElem? hx
    have hlt := (List.getElem?_eq_some_iff.mp hx).1
    rw [OP_noX]
    simp only [OP_bind]
    refine g_nm ?_
    have hws : (wipeS own ⟨e', s'.m ++ [MO.lst ((xs.take i).flatMap fun x => zs.map (g x))]⟩) = ⟨wipeE own s'.e, s'.m ++ [.lst ((xs.take i).flatMap fun x => zs.map (g x))]⟩ := by
      show (⟨wipeE own e', _⟩ : S) = _
      rw [wipe_eq hE]
    rw [hws]
    refine (hz x _ hxm).mono ?_
    rintro p rfl
    dsimp only
    have htk : xs.take (i + 1) = xs.take i ++ [x] := by rw [List.take_add_one, hx]; rfl
    refine OP_lcL (fun j t => ∃ e', t = ⟨e', s'.m ++ [.lst (((xs.take i).flatMap fun x => zs.map (g x)) ++ (zs.take j).map (g x))]⟩ ∧ EqO own1 ((wipeE own s'.e).set k (some x)) e') ⟨_, by simp, EqO.refl _ _⟩ ?_ ?_
    · rintro t ⟨e', rfl, hE'⟩
      rw [List.take_length, htk, List.flatMap_append]
      refine ⟨e', by simp, ?_⟩
      exact (EqO.wipe own s'.e).trans ((EqO.set hk _ _).trans (hE'.mono hs))
    · rintro j z t hzj ⟨e', rfl, hE'⟩
      have hjlt := (List.getElem?_eq_some_iff.mp hzj).1
      refine OP_bind.mpr (g_nm ?_)
      have hws : (wipeS own1 ⟨e', s'.m ++ [MO.lst (((xs.take i).flatMap fun x => zs.map (g x)) ++ (zs.take j).map (g x))]⟩) = ⟨wipeE own1 ((wipeE own s'.e).set k (some x)), s'.m ++ [MO.lst (((xs.take i).flatMap fun x => zs.map (g x)) ++ (zs.take j).map (g x))]⟩ := by
        show (⟨wipeE own1 e', _⟩ : S) = _
        rw [wipe_eq hE']
      rw [hws]
      refine OP_bind.mpr ((he x z _ hxm (List.mem_of_getElem? hzj)).mono ?_)
      rintro q rfl
      dsimp only
      unfold addM
      dsimp only
      rw [getTop]
      refine OP_bind.mpr (OP_gd.mpr ⟨decide_eq_true ?_, OP_ok.mpr ⟨(wipeE own1 ((wipeE own s'.e).set k (some x))).set k1 (some z), ?_, ?_⟩⟩)
      · rw [List.length_append, flat_len _ zs.length (fun x => List.length_map _), List.length_map, List.length_take, List.length_take, Nat.min_eq_left (by omega), Nat.min_eq_left (by omega)]
        have h1 : (i + 1) * zs.length ≤ xs.length * zs.length := Nat.mul_le_mul_right _ hlt
        rw [Nat.add_mul] at h1
        omega
      · rw [setTop, List.take_add_one, hzj, List.map_append, List.append_assoc]
        rfl
      · exact (EqO.wipe own1 _).trans (EqO.set hk1 _ _)
end
def cntN (o : List (Option Int)) : Nat := (o.filter Option.isNone).length
def foundK (row : List Int) (o : List (Option Int)) : Option (List CK) := if cntN o = 0 then none else (prodK (cntN o)).find? fun w => decide ((runK w row).1 = o)
def chO : Option (List CK) → D
  | none => .non
  | some w => chainD w
theorem ok_OD (o : Option Int) (k : Nat) : okD k (OD o) = true := by cases k <;> cases o <;> rfl
theorem ok_ODs (l : List (Option Int)) (k : Nat) : okD (k + 1) (.lst (l.map OD)) = true := by
  show (l.map OD).all (okD k) = true
  rw [List.all_eq_true]
  intro x hx
  obtain ⟨o, _, rfl⟩ := List.mem_map.mp hx
  exact ok_OD _ _
theorem eqB_OD (a b : Option Int) : eqB (OD a) (OD b) = decide (a = b) := by
  cases a with
  | none => cases b with
    | none => rfl
    | some j => rfl
  | some i => cases b with
    | none => rfl
    | some j =>
      show (i == j) = _
      by_cases h : i = j
      · simp [h]
      · simp [h]
theorem eqB_ODs : ∀ a b : List (Option Int), eqBs (a.map OD) (b.map OD) = decide (a = b)
  | [], [] => rfl
  | [], _ :: _ => rfl
  | _ :: _, [] => rfl
  | x :: a, y :: b => by
    show (eqB (OD x) (OD y) && eqBs (a.map OD) (b.map OD)) = _
    rw [eqB_OD, eqB_ODs a b]
    by_cases h : x = y <;> by_cases h2 : a = b <;> simp [h, h2]
theorem eq_ODs (a b : List (Option Int)) : eqD (.lst (a.map OD)) (.lst (b.map OD)) = some (decide (a = b)) := by
  show (if okD 60 (.lst (a.map OD)) && okD 60 (.lst (b.map OD)) then some (eqB (.lst (a.map OD)) (.lst (b.map OD))) else none) = _
  rw [ok_ODs, ok_ODs]
  show some (eqBs _ _) = _
  rw [eqB_ODs]
section
variable {p : Pg} {n : Nat} {m : List MO}
/-- what the chains ask of the program -/
structure AllH (p : Pg) : Prop extends ChainH p where
  cell : ∀ c : CK, plainK c = true → CellH p c
  m10 : ∀ c : CK, plainK c = true → p.meth (cK c) 10 = some 7
  mks : ∀ c : CK, plainK c = true → MakeH p (cK c) (labK c)
  f46 : p.fn 46 = some F46
theorem seqOf_tup (m : List MO) (xs : List D) : seqOf m (.tup xs) = some xs := rfl
theorem run46 (h : AllH p) (row : List Int) (hx : ∀ x ∈ row, -(10 ^ 9) ≤ x ∧ x ≤ 10 ^ 9) (hl : row.length ≤ 1000) (o : List (Option Int)) (ho : o.length ≤ 1000) (h5 : cntN o ≤ 5) :
    OP ((callF p (n + 4)).1 46 [.lst (row.map D.int), .lst (o.map OD)] m) (fun r => r = (chO (foundK row o), m)) := by
  rw [call_succ h.f46]
  refine run_leave [some (.lst (row.map D.int)), some (.lst (o.map OD)), none, none, none, none, none, none, none, none] rfl rfl rfl ?_
  refine ss_cons (q_exp (e_cal (es_cons (e_var rfl (es_cons (e_cst (es_nil ?_)))))))
  refine (run2 (n := n + 1) h.f0 h.f2 row 1000 hx hl).mono ?_
  rintro r rfl
  dsimp only
  refine ss_cons (s_ifs (e_not (e_isi (e_var rfl ⟨true, rfl, _, rfl, _, rfl, if_ff (ss_nil ?_)⟩))))
  refine ss_cons (q_asg (e_bif (es_cons ?_)))
  refine e_lcI (xs := o.map OD) (s' := ⟨[some (.lst (row.map D.int)), some (.lst (o.map OD)), none, none, none, none, none, none, none, none], m⟩) (fun i ys m' => m' = m ∧ ys = ((o.take i).filter Option.isNone).map OD) ?_ ?_ ?_ (by decide) ⟨rfl, rfl⟩ ?_ ?_
  · exact i_valP (e_var rfl ⟨_, rfl, rfl⟩)
  · rw [List.length_map]; show _ ≤ 16777216; omega
  · simp
  · rintro i x ys m' hx ⟨rfl, rfl⟩ hm
    rw [List.getElem?_map] at hx
    cases hv : o[i]? with
    | none => rw [hv] at hx; cases hx
    | some v =>
      rw [hv] at hx
      cases hx
      refine ea_one (e_cmp (e_var rfl (e_cst (c_is (nonOD _ _) ⟨_, rfl, rfl, ?_⟩))))
      dsimp only
      have htk : o.take (i + 1) = o.take i ++ [v] := by rw [List.take_add_one, hv]; rfl
      rw [htk, List.filter_append, List.map_append]
      cases v with
      | none =>
        refine if_tt (e_var rfl ⟨m', rfl, rfl, rfl, ?_⟩)
        rfl
      | some v =>
        refine if_ff ⟨rfl, ?_⟩
        simp
  · rintro ys m' ⟨rfl, rfl⟩ hm
    rw [List.length_map, List.take_length]
    refine es_nil (f_len (z := .int ((o.filter Option.isNone).map OD).length) rfl rfl (g_nm ?_))
    rw [List.length_map]
    dsimp only [List.set]
    show OP (exSs _ _ _ ⟨[some (.lst (row.map D.int)), some (.lst (o.map OD)), some (.int (cntN o)), none, none, none, none, none, none, none], m' ++ [.dead]⟩) _
    refine ss_cons (s_ifs (e_cmp (e_var rfl (e_cst (c_gt ⟨_, rfl, ?_⟩)))))
    refine if_no (by omega) (ss_nil ?_)
    refine ss_cons (s_ifs (e_cmp (e_var rfl (e_cst (c_eqi ⟨_, rfl, ?_⟩)))))
    by_cases h0 : cntN o = 0
    · refine if_yes (by omega) (ss_cons (s_ret (e_cst (lv_retT rfl ?_))))
      unfold foundK
      rw [if_pos h0]
      rfl
    · refine if_no (by omega) (ss_nil ?_)
      refine ss_cons (q_asg (e_lst (es_cons (e_tup (es_nil ⟨Nat.le_of_ble_eq_true rfl, es_nil ⟨Nat.le_of_ble_eq_true rfl, g_nm ?_⟩⟩)))))
      dsimp only [List.set]
      refine ss_cons (s_for (i_rngP (es_cons (e_var rfl (es_nil ⟨rangeL 0 (cntN o) 1, ?_, ?_⟩)))))
      · show (do gd (decide (-(2 ^ 61) ≤ (cntN o : Int) ∧ (cntN o : Int) < 2 ^ 61)); .ok (rangeL 0 (cntN o : Int).toNat 1) : Out (List D)) = _
        rw [decide_eq_true (by omega), Int.toNat_natCast]
        rfl
      refine OP_for (fun i s => ∃ t b, i ≤ cntN o ∧ s = ⟨[some (.lst (row.map D.int)), some (.lst (o.map OD)), some (.int (cntN o)), some (.lst ((prodK i).map fun w => D.tup (w.map cellD))), b, none, none, none, none, none], m' ++ t⟩ ∧ (b = none ∨ ∃ j, b = some (.int j))) ⟨[.dead], none, Nat.zero_le _, rfl, .inl rfl⟩ ?_ ?_
      · rintro t ⟨t, b, _, rfl, hb⟩
        rw [P_rlen]
        refine ss_cons (s_for (i_valP (e_var rfl ⟨_, rfl, ?_⟩)))
        refine OP_for (fun i s => ∃ b5, s = ⟨[some (.lst (row.map D.int)), some (.lst (o.map OD)), some (.int (cntN o)), some (.lst ((prodK (cntN o)).map fun w => D.tup (w.map cellD))), b, b5, none, none, none, none], m' ++ t⟩ ∧ ((prodK (cntN o)).take i).find? (fun w => decide ((runK w row).1 = o)) = none) ⟨none, rfl, rfl⟩ ?_ ?_
        · rintro t2 ⟨b5, rfl, hf⟩
          rw [List.length_map, List.take_length] at hf
          refine ss_cons (s_ret (e_cst (lv_retT rfl ?_)))
          unfold foundK
          rw [if_neg h0, hf]
          rfl
        · rintro i d t2 hi ⟨b5, rfl, hf⟩
          rw [List.getElem?_map] at hi
          cases hv : (prodK (cntN o))[i]? with
          | none => rw [hv] at hi; cases hi
          | some w =>
            rw [hv] at hi
            cases hi
            obtain ⟨hw1, hw2⟩ := prodK_w _ w (List.mem_of_getElem? hv)
            have htk : (prodK (cntN o)).take (i + 1) = (prodK (cntN o)).take i ++ [w] := by rw [List.take_add_one, hv]; rfl
            have hwn : w ≠ [] := by intro e; subst e; simp at hw1; omega
            refine for_turn (g_nm ?_)
            dsimp only [List.set]
            refine ss_cons (s_ifs (e_cmp (e_sub (e_app (e_ctr (es_star (e_var rfl ⟨_, rfl, es_nil ?_⟩)))))))
            rw [List.append_nil]
            refine (make_chain (n := n + 2) h.i5 h.f20 w hwn (by omega) _).mono ?_
            rintro r rfl
            refine ⟨rfl, es_cons (e_var rfl (es_nil (callM_ok (g := 29) rfl h.m0 ?_)))⟩
            refine (run29 (n := n) h.toChainH (fun c hc => h.cell c (KS_plain (hw2 c hc)).1) (by omega) row hx hl).mono ?_
            rintro r rfl
            refine e_cst (u_of (z := .lst ((runK w row).1.map OD)) rfl rfl (e_var rfl (c_eq rfl (eq_ODs _ _) ⟨_, rfl, ?_⟩)))
            by_cases heq : (runK w row).1 = o
            · refine if_yes heq (ss_cons (s_ret (e_ctr (es_star (e_var rfl ⟨_, rfl, es_nil ?_⟩)))))
              rw [List.append_nil]
              refine (make_chain (n := n + 2) h.i5 h.f20 w hwn (by omega) _).mono ?_
              rintro r rfl
              refine lv_retT ?_ ?_
              · simp only [chainD, cloD, cloDs, clo_cells, Bool.and_self]
              · have : foundK row o = some w := by
                  unfold foundK
                  rw [if_neg h0]
                  have hsp : prodK (cntN o) = (prodK (cntN o)).take (i + 1) ++ (prodK (cntN o)).drop (i + 1) := (List.take_append_drop _ _).symm
                  rw [hsp, htk, List.find?_append, List.find?_append, hf]
                  simp [heq]
                rw [this]
                rfl
            · refine if_no heq (ss_nil (ss_nil ⟨_, rfl, ?_⟩))
              rw [htk, List.find?_append, hf]
              simp [heq]
      · rintro i d t hi ⟨t, b, hic, rfl, hb⟩
        rw [P_rng] at hi
        by_cases hil : i < cntN o
        · rw [if_pos hil] at hi
          have hi : D.int (i : Int) = d := by have := Option.some.inj hi; rw [← this]; congr 1; omega
          subst hi
          refine for_turn (g_nm ?_)
          dsimp only [List.set]
          refine ss_cons (q_asg ?_)
          have mkc : ∀ (c : CK) (s : S), c ∈ KS → OP (makeD (wN p (n + 3)) (cK c) [] s) (fun r => r = (cellD c, s)) := fun c s hc => make_cell (n := n + 2) (KS_plain hc).2 (h.mks c (KS_plain hc).1) s
          refine e_lc2P (xs := (prodK i).map fun w => D.tup (w.map cellD)) (zs := KS.map cellD) (g := fun x z => match x with | .tup xs => .tup (xs ++ [z]) | _ => .non)
            (s' := ⟨[some (.lst (row.map D.int)), some (.lst (o.map OD)), some (.int (cntN o)), some (.lst ((prodK i).map fun w => D.tup (w.map cellD))), some (.int (i : Int)), none, none, none, none, none], m' ++ t⟩) ?_ ?_ (by decide) (by decide) (by decide) ?_ ?_ ?_ ?_
          · exact i_valP (e_var rfl ⟨_, rfl, rfl⟩)
          · simp
          · rw [List.length_map, List.length_map, prodK_len]
            have : 4 ^ i ≤ 4 ^ 5 := Nat.pow_le_pow_right (by decide) (by omega)
            show 4 ^ i * 4 ≤ 16777216
            omega
          · intro x m1 hxm
            refine i_valP (e_tup ?_)
            refine es_cons (e_ctr (es_nil ((mkc .first _ (by decide)).mono ?_)))
            rintro r rfl
            refine es_cons (e_ctr (es_nil ((mkc .greater _ (by decide)).mono ?_)))
            rintro r rfl
            refine es_cons (e_ctr (es_nil ((mkc .last _ (by decide)).mono ?_)))
            rintro r rfl
            refine es_cons (e_ctr (es_nil ((mkc .less _ (by decide)).mono ?_)))
            rintro r rfl
            exact es_nil ⟨Nat.le_of_ble_eq_true rfl, _, rfl, rfl⟩
          · intro x z m1 hxm hzm
            obtain ⟨w, hw, rfl⟩ := List.mem_map.mp hxm
            obtain ⟨hw1, hw2⟩ := prodK_w _ w hw
            refine e_bin (e_var rfl (e_tup (es_cons (e_var rfl (es_nil ⟨Nat.le_of_ble_eq_true rfl, ?_⟩)))))
            refine b_of (z := .tup (w.map cellD ++ [z])) (by decide) ?_ rfl
            show (do gd (decide ((w.map cellD).length + 1 ≤ sizeL)); .ok _ : Out D) = _
            rw [decide_eq_true]
            · rfl
            · rw [List.length_map, hw1]; show _ ≤ 16777216; omega
          · refine g_nm (ss_nil ⟨t ++ [.dead], some (.int i), hil, ?_, .inr ⟨_, rfl⟩⟩)
            dsimp only [List.set]
            have : ((prodK i).map fun w => D.tup (w.map cellD)).flatMap (fun x => (KS.map cellD).map ((fun x z => match x with | .tup xs => D.tup (xs ++ [z]) | _ => .non) x)) = (prodK (i + 1)).map fun w => D.tup (w.map cellD) := by
              rw [prodK, List.map_flatMap, List.flatMap_map]
              congr 1
              funext w
              simp [KS]
            rw [this, List.append_assoc]
        · rw [if_neg hil] at hi; cases hi
end
end SV
set_option linter.all false
set_option Elab.async false
set_option maxHeartbeats 4000000
namespace SV
open PySem
theorem cntN_app (a b : List (Option Int)) : cntN (a ++ b) = cntN a + cntN b := by unfold cntN; rw [List.filter_append, List.length_append]
theorem cntN_s (i : Int) (r : List (Option Int)) : cntN (some i :: r) = cntN r := rfl
theorem cntN_n (r : List (Option Int)) : cntN (none :: r) = cntN r + 1 := rfl
theorem cntN_le (r : List (Option Int)) : cntN r ≤ r.length := List.length_filter_le _ _
theorem passK_cnt : ∀ (cs : List CK) (hs : List (Option Int)) (y : Int), cs.length = hs.length → cntN [(passK cs hs (some y)).2] + cntN (passK cs hs (some y)).1 = cntN hs
  | [], [], y, _ => rfl
  | [], _ :: _, y, h => by cases h
  | _ :: _, [], y, h => by cases h
  | c :: cs, some a :: hs, y, h => by
    rw [passK_s]
    have := passK_cnt cs hs (keep1 c a y).2 (by simpa using h)
    rw [cntN_s, cntN_s, this]
  | c :: cs, none :: hs, y, h => by
    rw [passK_n _ _ _ _ (by simpa using h), cntN_n hs]
    show 1 + cntN hs = _
    omega
theorem runK_inv (cs : List CK) (row : List Int) : cntN (runK cs row).1 + cntN (runK cs row).2 = cs.length ∧ cs.length = (runK cs row).2.length ∧ (runK cs row).1.length = row.length := by
  have key : ∀ (row : List Int) (a : List (Option Int) × List (Option Int)), cs.length = a.2.length → cntN (row.foldl (stepR cs) a).1 + cntN (row.foldl (stepR cs) a).2 = cntN a.1 + cntN a.2 ∧ cs.length = (row.foldl (stepR cs) a).2.length ∧ (row.foldl (stepR cs) a).1.length = a.1.length + row.length := by
    intro row
    induction row with
    | nil => intro a h; exact ⟨rfl, h, rfl⟩
    | cons x r ih =>
      intro a h
      rw [List.foldl_cons]
      have h2 : cs.length = (stepR cs a x).2.length := by
        show _ = (passK cs a.2 (some x)).1.length
        rw [passK_len _ _ _ h, h]
      obtain ⟨i1, i2, i3⟩ := ih _ h2
      refine ⟨?_, i2, ?_⟩
      · rw [i1]
        show cntN (a.1 ++ [(passK cs a.2 (some x)).2]) + cntN (passK cs a.2 (some x)).1 = _
        rw [cntN_app]
        have := passK_cnt cs a.2 x h
        omega
      · rw [i3]
        show (a.1 ++ [_]).length + _ = _
        rw [List.length_append, List.length_singleton, List.length_cons]; omega
  obtain ⟨h1, h2, h3⟩ := key row ([], List.replicate cs.length none) (by simp)
  refine ⟨?_, h2, ?_⟩
  · unfold runK
    rw [h1]
    have : ∀ k, cntN (List.replicate k (none : Option Int)) = k := by
      intro k
      induction k with
      | zero => rfl
      | succ k ih => rw [List.replicate_succ, cntN_n, ih]
    rw [this]
    show 0 + _ = _
    omega
  · unfold runK
    rw [h3]
    simp
def lab (c : CK) : D := .str (labK c)
theorem ok_lab {c : CK} (hc : c ∈ KS) : okD 59 (lab c) = true := by
  simp [KS] at hc
  rcases hc with rfl | rfl | rfl | rfl <;> decide +kernel
theorem lab_short {c : CK} (hc : c ∈ KS) : (labK c).length ≤ 100 := by
  simp [KS] at hc
  rcases hc with rfl | rfl | rfl | rfl <;> decide +kernel
theorem eq_labs_nil {w : List CK} (h : ∀ c ∈ w, c ∈ KS) : eqD (.lst (w.map lab)) (.lst []) = some (decide (w = [])) := by
  show (if okD 60 (.lst (w.map lab)) && okD 60 (.lst []) then some (eqB (.lst (w.map lab)) (.lst [])) else none) = _
  have e : okD 60 (.lst (w.map lab)) = true := by
    show (w.map lab).all (okD 59) = true
    rw [List.all_eq_true]
    intro x hx
    obtain ⟨c, hc, rfl⟩ := List.mem_map.mp hx
    exact ok_lab (h c hc)
  rw [e]
  show some (eqBs (w.map lab) []) = _
  cases w <;> rfl
theorem strL_lab : ∀ w : List CK, strL (w.map lab) = some (w.map labK)
  | [] => rfl
  | a :: r => by simp only [List.map_cons, lab, strL]; rw [show (strL (r.map fun c => lab c)) = some (r.map labK) from strL_lab r]; rfl
theorem join_ok (m : List MO) (w : List CK) (h8 : w.length ≤ 8) (hs : ∀ c ∈ w, (labK c).length ≤ 100) : bmD m .join (.str " ") [.lst (w.map lab)] = .ok (.str (Str.join " " (w.map labK)), m) := by
  show (do
    let ss ← opt (strL (w.map lab))
    gd (decide (_ ≤ _))
    .ok (.str (Str.join " " ss), m) : Out (D × List MO)) = _
  rw [strL_lab]
  show (gd (decide (((w.map labK).map (·.length)).sum + (w.map labK).length * (" " : Str).length ≤ sizeL)) >>= _) = _
  rw [decide_eq_true]
  · rfl
  · have h3 : ∀ l : List CK, (∀ c ∈ l, (labK c).length ≤ 100) → ((l.map labK).map (·.length)).sum ≤ l.length * 100 := by
      intro l
      induction l with
      | nil => intro _; simp
      | cons a r ih =>
        intro hh
        have h1 := hh a (by simp)
        have h2 := ih (fun c hc => hh c (by simp [hc]))
        simp only [List.map_cons, List.sum_cons, List.length_cons]
        omega
    have h4 := h3 w hs
    have h5 : (" " : Str).length = 1 := by decide +kernel
    rw [h5, List.length_map]
    show _ ≤ 16777216
    omega
section
variable {p : Pg} {n : Nat}
/-- one number from the law's own random list -/
theorem below (h : p.fn 101 = some F101) {xs : List D} {t : List MO} (hD : Dz xs) (c : Int) (hc : 0 < c ∧ c < 2 ^ 62) :
    OP ((callF p (n + 1)).1 101 [.ref 1, .int c] (.dead :: .lst xs :: t)) (fun r => ∃ (v : Int) (ys : List D), r = (.int v, .dead :: .lst ys :: t) ∧ 0 ≤ v ∧ v < c ∧ Dz ys) :=
  (run101 (m := .dead :: .lst xs :: t) (k := 1) h rfl hD c hc).mono fun r ⟨v, ys, e, h⟩ => ⟨v, ys, e, h⟩
end
theorem count_none (m : List MO) (o : List (Option Int)) : bmD m .count (.lst (o.map OD)) [.non] = .ok (.int (cntN o), m) := by
  show (do .ok (.int (← opt (countD .non (o.map OD))), m) : Out (D × List MO)) = _
  have e : countD .non (o.map OD) = some (cntN o) := by
    unfold countD
    have : (o.map OD).all (okD 60) = true := by
      rw [List.all_eq_true]
      intro x hx
      obtain ⟨a, _, rfl⟩ := List.mem_map.mp hx
      exact ok_OD _ _
    rw [this]
    show some ((o.map OD).countP fun y => eqB y .non) = _
    congr 1
    unfold cntN
    rw [List.countP_map, List.countP_eq_length_filter]
    congr 1
    apply List.filter_congr
    intro a _
    show eqB (OD a) (OD none) = _
    rw [eqB_OD]
    cases a <;> rfl
  rw [e]
  rfl
theorem rng_ok (k : Nat) (h : k < 1000) : rngD [.int (k : Int)] = .ok (rangeL 0 k 1) := by
  show (do gd (decide (-(2 ^ 61) ≤ (k : Int) ∧ (k : Int) < 2 ^ 61)); .ok (rangeL 0 (k : Int).toNat 1) : Out (List D)) = _
  rw [decide_eq_true (by omega), Int.toNat_natCast]
  rfl
def nrB : Option D → Bool
  | some (.ref k) => k == 1
  | _ => true
theorem nr_env {e : List (Option D)} {L : Nat} (h : e.all nrB = true) (hL : L ≠ 1) : ∀ o ∈ e, o ≠ some (.ref L) := by
  intro o ho e'
  have h2 := List.all_eq_true.mp h o ho
  subst e'
  have : (L == 1) = true := h2
  simp at this
  exact hL this
theorem nr_scr (x : List Int) : nrB (some (.scr x)) = true := rfl
theorem nr_int (x : Int) : nrB (some (.int x)) = true := rfl
theorem nr_lst (x : List D) : nrB (some (.lst x)) = true := rfl
theorem nr_str (x : Str) : nrB (some (.str x)) = true := rfl
theorem nr_non : nrB (some .non) = true := rfl
theorem nr_r1 : nrB (some (.ref 1)) = true := rfl
theorem nr_0 : nrB none = true := rfl
theorem find_congr {α : Type} {p q : α → Bool} : ∀ {l : List α}, (∀ x ∈ l, p x = q x) → l.find? p = l.find? q
  | [], _ => rfl
  | a :: r, h => by
    rw [List.find?_cons, List.find?_cons, h a (by simp), find_congr (l := r) fun x hx => h x (by simp [hx])]
def exprD : Option (List CK) → D
  | none => .non
  | some w => .str (Str.join " " (w.map labK))
theorem exprD_non (m : List MO) (o : Option (List CK)) : nonD m (exprD o) = some o.isNone := by cases o <;> rfl
theorem nr_expr (o : Option (List CK)) : nrB (some (exprD o)) = true := by cases o <;> rfl
theorem slc_V (m : List MO) (ys : List D) (l h : Option Int) : slcD m (.lst ys) l h = .ok (.lst (sliceL ys l h)) := rfl
theorem found_mem {row : List Int} {o : List (Option Int)} {w : List CK} (h : foundK row o = some w) : w ∈ prodK (cntN o) := by
  unfold foundK at h
  split at h
  · cases h
  · exact List.mem_of_find?_eq_some h
theorem foldR_take (cs : List CK) (row : List Int) (j : Nat) : (runK cs (row.take j)).1 = (runK cs row).1.take j := by
  have key : ∀ (row : List Int) (a : List (Option Int) × List (Option Int)), ∃ t, (row.foldl (stepR cs) a).1 = a.1 ++ t := by
    intro row
    induction row with
    | nil => intro a; exact ⟨[], by simp⟩
    | cons x r ih =>
      intro a
      obtain ⟨t, e⟩ := ih (stepR cs a x)
      refine ⟨[(passK cs a.2 (some x)).2] ++ t, ?_⟩
      rw [List.foldl_cons, e]
      show (a.1 ++ [(passK cs a.2 (some x)).2]) ++ t = _
      rw [List.append_assoc]
  have h1 : (runK cs row).1 = (row.foldl (stepR cs) ([], List.replicate cs.length none)).1 := rfl
  have hsp : row.foldl (stepR cs) ([], List.replicate cs.length none) = (row.drop j).foldl (stepR cs) (runK cs (row.take j)) := by
    unfold runK
    rw [← List.foldl_append, List.take_append_drop]
  obtain ⟨t, e⟩ := key (row.drop j) (runK cs (row.take j))
  rw [h1, hsp, e]
  have hl := (runK_inv cs (row.take j)).2.2
  by_cases hj : j ≤ row.length
  · rw [List.length_take, Nat.min_eq_left hj] at hl
    generalize (runK cs (row.take j)).1 = A at *
    rw [List.take_append_of_le_length (by omega), List.take_of_length_le (by omega)]
  · have : row.drop j = [] := List.drop_eq_nil_of_le (by omega)
    rw [this] at e
    have et : t = [] := by
      have e' : (runK cs (row.take j)).1 = (runK cs (row.take j)).1 ++ t := e
      have := congrArg List.length e'
      rw [List.length_append] at this
      exact List.eq_nil_of_length_eq_zero (by omega)
    rw [List.length_take] at hl
    generalize (runK cs (row.take j)).1 = A at *
    rw [et, List.append_nil, List.take_of_length_le (by omega)]
theorem passK_out (cs : List CK) (hs : List (Option Int)) (y : Int) (h : cs.length = hs.length) : ((passK cs hs (some y)).2 = none ↔ 0 < cntN hs) := by
  induction cs generalizing hs y with
  | nil =>
    cases hs with
    | nil => exact ⟨fun e => (by cases e), fun e => (by cases e)⟩
    | cons _ _ => cases h
  | cons c cs ih =>
    cases hs with
    | nil => cases h
    | cons o hs =>
      cases o with
      | none =>
        rw [passK_n _ _ _ _ (by simpa using h), cntN_n]
        exact ⟨fun _ => by omega, fun _ => rfl⟩
      | some a =>
        rw [passK_s, cntN_s]
        exact ih hs _ (by simpa using h)
/-- the first of the numbers that come out are None, one for each cell -/
theorem runK_none (cs : List CK) : ∀ row : List Int, cntN (runK cs row).2 = cs.length - row.length ∧ ∀ i, i < row.length → ((runK cs row).1[i]? = some none ↔ i < cs.length) := by
  have key : ∀ (l : Nat) (row : List Int), row.length = l → cntN (runK cs row).2 = cs.length - row.length ∧ ∀ i, i < row.length → ((runK cs row).1[i]? = some none ↔ i < cs.length) := by
    intro l
    induction l with
    | zero =>
      intro row hl
      have : row = [] := List.eq_nil_of_length_eq_zero hl
      subst this
      refine ⟨?_, fun i h => absurd h (by simp)⟩
      have := (runK_inv cs []).1
      have e : cntN (runK cs []).1 = 0 := rfl
      simp only [List.length_nil]
      omega
    | succ l ih =>
      intro row hl
      obtain ⟨r, x, rfl⟩ : ∃ r x, row = r ++ [x] := ⟨row.dropLast, row.getLast (by intro e; rw [e] at hl; cases hl), (List.dropLast_concat_getLast _).symm⟩
      have hrl : r.length = l := by simpa using hl
      obtain ⟨i1, i2⟩ := ih r hrl
      have hst : runK cs (r ++ [x]) = stepR cs (runK cs r) x := by
        unfold runK
        rw [List.foldl_append]; rfl
      obtain ⟨_, hh, hol⟩ := runK_inv cs r
      have hc := passK_cnt cs (runK cs r).2 x hh
      have ho := passK_out cs (runK cs r).2 x hh
      rw [hst]
      refine ⟨?_, ?_⟩
      · show cntN (passK cs (runK cs r).2 (some x)).1 = _
        rw [List.length_append, List.length_singleton]
        by_cases h0 : 0 < cntN (runK cs r).2
        · have h1 := ho.mpr h0
          rw [h1] at hc
          have : cntN [(none : Option Int)] = 1 := rfl
          omega
        · have h1 : cntN [(passK cs (runK cs r).2 (some x)).2] = 0 := by
            cases hv : (passK cs (runK cs r).2 (some x)).2 with
            | none => exact absurd (ho.mp hv) h0
            | some v => rfl
          omega
      · intro i hi
        rw [List.length_append, List.length_singleton] at hi
        show ((runK cs r).1 ++ [(passK cs (runK cs r).2 (some x)).2])[i]? = some none ↔ _
        by_cases hi2 : i < r.length
        · rw [List.getElem?_append_left (by omega)]
          exact i2 i hi2
        · have : i = (runK cs r).1.length := by omega
          subst this
          rw [List.getElem?_append_right (Nat.le_refl _), Nat.sub_self]
          show some _ = some none ↔ _
          rw [Option.some.injEq, ho, i1]
          omega
  exact fun row => key _ row rfl
theorem runK_cnt (cs : List CK) (row : List Int) (h : cs.length ≤ row.length) : cntN (runK cs row).1 = cs.length := by
  have h1 := (runK_inv cs row).1
  have h2 := (runK_none cs row).1
  omega
/-- no chain lets out more or fewer numbers than came -/
theorem found_len {row : List Int} {o : List (Option Int)} (h : o.length ≠ row.length) : foundK row o = none := by
  unfold foundK
  split
  · rfl
  · rw [List.find?_eq_none]
    intro w _
    have : (runK w row).1 ≠ o := by
      intro e
      have := (runK_inv w row).2.2
      rw [e] at this
      exact h this
    simp [this]
end SV
set_option linter.all false
set_option Elab.async false
set_option maxHeartbeats 4000000
namespace SV
open PySem
theorem cps_app (a b : Str) : (a ++ b).cps.toList = a.cps.toList ++ b.cps.toList := by
  show (a.cps ++ b.cps).toList = _
  simp
def labC : CK → List Nat
  | .first => [102, 105, 114, 115, 116] | .last => [108, 97, 115, 116] | .less => [108, 101, 115, 115] | .greater => [103, 114, 101, 97, 116, 101, 114] | .near _ => []
theorem labC_ok {c : CK} (h : c ∈ KS) : (labK c).cps.toList = labC c := by
  simp [KS] at h
  rcases h with rfl | rfl | rfl | rfl <;> decide +kernel
def T : List CK → List Nat
  | [] => []
  | [x] => labC x
  | x :: y :: r => labC x ++ 32 :: T (y :: r)
theorem T_ok : ∀ w : List CK, (∀ c ∈ w, c ∈ KS) → (Str.join " " (w.map labK)).cps.toList = T w
  | [], _ => rfl
  | [x], h => labC_ok (h x (by simp))
  | x :: y :: r, h => by
    show ((labK x ++ (" " : Str)) ++ Str.join " " ((y :: r).map labK)).cps.toList = _
    rw [cps_app, cps_app, labC_ok (h x (by simp)), T_ok (y :: r) (fun c hc => h c (List.mem_cons_of_mem _ hc))]
    have : (" " : Str).cps.toList = [32] := by decide +kernel
    rw [this]
    simp [T]
def ordK (k : Nat) : Bool := decide ((prodK k).Pairwise fun a b => ¬ (T b < T a))
theorem ord_ok : ∀ k, k ≤ 3 → (prodK k).Pairwise fun a b => ¬ (T b < T a) := by
  intro k hk
  have h0 : ordK 0 = true := by decide +kernel
  have h1 : ordK 1 = true := by decide +kernel
  have h2 : ordK 2 = true := by decide +kernel
  have h3 : ordK 3 = true := by decide +kernel
  have : k = 0 ∨ k = 1 ∨ k = 2 ∨ k = 3 := by omega
  rcases this with rfl | rfl | rfl | rfl
  · exact of_decide_eq_true h0
  · exact of_decide_eq_true h1
  · exact of_decide_eq_true h2
  · exact of_decide_eq_true h3
theorem find_first {α : Type} {R : α → α → Prop} {l : List α} {q : α → Bool} {a b : α} (hp : l.Pairwise R) (hr : ∀ x, R x x) (ha : l.find? q = some a) (hb : b ∈ l) (hq : q b = true) : R a b := by
  rw [List.find?_eq_some_iff_append] at ha
  obtain ⟨_, as, bs, rfl, h2⟩ := ha
  rw [List.pairwise_append] at hp
  rcases List.mem_append.mp hb with h | h
  · have := h2 b h
    rw [hq] at this
    cases this
  · rcases List.mem_cons.mp h with h | h
    · rw [h]; exact hr a
    · exact List.rel_of_pairwise_cons hp.2.1 h
/-- what a row cut short lets find -/
theorem found_short {row : List Int} {o : List (Option Int)} {w : List CK} {l : Nat} (hl : 1 ≤ l ∧ l ≤ 3) (hr : l + 1 ≤ row.length) (hc : cntN o = l) (h : foundK row o = some w) :
    ∃ v, foundK (row.take (l + 1)) (o.take (l + 1)) = some v ∧ ¬ (T w < T v) ∧ v.length = l ∧ ∀ c ∈ v, c ∈ KS := by
  have hm := found_mem h
  have ho : (runK w row).1 = o := by
    unfold foundK at h
    split at h
    · cases h
    · have := List.find?_some h
      exact of_decide_eq_true this
  rw [hc] at hm
  obtain ⟨hw1, hw2⟩ := prodK_w _ w hm
  have ht : (runK w (row.take (l + 1))).1 = o.take (l + 1) := by rw [foldR_take, ho]
  have hcs : cntN (o.take (l + 1)) = l := by
    rw [← ht, runK_cnt w _ (by rw [List.length_take]; omega), hw1]
  have hf : foundK (row.take (l + 1)) (o.take (l + 1)) = (prodK l).find? fun v => decide ((runK v (row.take (l + 1))).1 = o.take (l + 1)) := by
    unfold foundK
    rw [hcs, if_neg (by omega)]
  have hsome : ((prodK l).find? fun v => decide ((runK v (row.take (l + 1))).1 = o.take (l + 1))).isSome = true := by
    rw [List.find?_isSome]
    exact ⟨w, hm, decide_eq_true ht⟩
  obtain ⟨v, hv⟩ := Option.isSome_iff_exists.mp hsome
  have hvm := List.mem_of_find?_eq_some hv
  obtain ⟨hv1, hv2⟩ := prodK_w _ v hvm
  refine ⟨v, by rw [hf, hv], ?_, hv1, hv2⟩
  exact find_first (R := fun a b => ¬ (T b < T a)) (ord_ok l hl.2) (fun x => List.lt_irrefl _) hv hm (decide_eq_true ht)
section
variable {p : Pg} {n : Nat} {m : List MO}
theorem run24 (h : p.fn 24 = some F24) (cs : List CK) : OP ((callF p (n + 1)).1 24 [chainD cs] m) (fun r => r = (.int cs.length, m)) := by
  rw [call_succ h]
  refine run_leave [some (chainD cs)] rfl rfl rfl ?_
  refine ss_cons (s_ret (e_bif (es_cons (e_fld (e_var rfl ⟨.tup (cs.map cellD), rfl, es_nil (f_len (z := .int (cs.map cellD).length) rfl rfl ?_)⟩)))))
  refine lv_ret rfl ?_
  rw [List.length_map]
theorem len_own (h : p.fn 24 = some F24) (hm : p.meth 5 3 = some 24) (cs : List CK) (h8 : cs.length ≤ 8) {s : S} {P : D × S → Prop} (q : P (.int cs.length, s)) : OP (bifF (wN p (n + 1)) .len [chainD cs] s) P := by
  show OP (lenF (wN p (n + 1)) (chainD cs) s) P
  unfold lenF
  rw [if_pos (show isOwn s.m (chainD cs) = true from rfl)]
  refine OP_bind.mpr (callM_ok (g := 24) rfl hm ?_)
  refine (run24 (n := n) h cs).mono ?_
  rintro r rfl
  refine OP_bind.mpr (OP_gd.mpr ⟨decide_eq_true (by omega), OP_ok.mpr q⟩)
theorem c_leS {w : W} {s : S} {P : D × S → Prop} {x y : Str} (hb : ¬ (y.cps.toList < x.cps.toList)) (h : P (.bl true, s)) : OP (cmpF w .LtE (.str x) (.str y) s) P := by
  refine c_of (.inl (by intro z; cases z)) (z := .bl true) ?_ h
  show Out.ok (D.bl (!decide (y.cps.toList < x.cps.toList))) = _
  rw [decide_eq_false hb]
  rfl
theorem c_neI {w : W} {s : S} {P : D × S → Prop} {i j : Int} (hb : i = j) (h : P (.bl false, s)) : OP (cmpF w .NotEq (.int i) (.int j) s) P := by
  refine c_ne (b := true) ?_ h
  show some (i == j) = _
  rw [hb]
  simp
theorem c_neB {w : W} {s : S} {P : D × S → Prop} (a b : Bool) (h : P (.bl (!(a == b)), s)) : OP (cmpF w .NotEq (.bl a) (.bl b) s) P := c_ne (b := (a == b)) rfl h
theorem sl_neg1 {α : Type} (xs : List α) : sliceL xs none (some (-1)) = xs.take (xs.length - 1) := by
  show (xs.take (clampI (-1) xs.length)).drop 0 = _
  rw [List.drop_zero]
  unfold clampI
  rw [if_pos (by decide)]
  congr 1
  omega
theorem n_int {w : W} {s : S} {P : D × S → Prop} {i : Int} (h : P (.int (-i), s)) : OP (negF w (.int i) s) P := ⟨(.int (-i), s), rfl, h⟩
end
end SV
set_option linter.all false
set_option Elab.async false
set_option maxRecDepth 100000
set_option maxHeartbeats 4000000
namespace SV
open PySem PySem.Spec PyProof.Rows L2
def topS (i : Nat) : Stmt := PySem.Challenge.pw_siftchain_k38_whole_made_chains_by_tryin.main.body.getD i (.Pass ⟨0, 0, 0, 0⟩)
def lFns : List (Str × Nat) := [("is_int_in", 0), ("check_row", 2), ("passed_on", 19), ("chain_for", 46), ("_law_random", 100), ("_law_below", 101), ("_law_kept", 105), ("_law_step", 106), ("_law_run", 107)]
def lCls : List (Str × Nat) := [("Cell", 0), ("Last", 1), ("Less", 2), ("Greater", 3), ("Chain", 5)]
def lAsk : List Nat := [0]
def lCI : List (Str × Int) := [("GREAT", 1000000000), ("MAX_ROW", 1000), ("MAX_MADE", 5)]
def lCS : List (Str × Str) := []
abbrev s0 : Stmt := (topS 10)
def N0 : List Str := ["value", "low", "high"]
abbrev c0 : Tc := ⟨N0, defScope s0, [], [], 0, false⟩
theorem g0_isinstance : isGlob c0 "isinstance" = true := by decide +kernel
theorem v0_0 : slotOf c0 "value" = some 0 := by decide +kernel
theorem g0_int : isGlob c0 "int" = true := by decide +kernel
theorem g0_bool : isGlob c0 "bool" = true := by decide +kernel
theorem v0_1 : slotOf c0 "low" = some 1 := by decide +kernel
theorem v0_2 : slotOf c0 "high" = some 2 := by decide +kernel
theorem b0 {CX : CXT} {P : Program} {wd : World} {K : PySem.W.Frag} {mg : Str → Option Value} {base : Heap} {q : Str} {f : Addr} {cd : Value} {A : Around} {outer : List Env} {s : Shared} {H : Hp} {E : XK} {g : Cfg} {w : SV.W} {k : Nat}
    (G : Gd (cxOf CX P wd K mg base N0 q (defScope s0) f cd A outer s H E) g c0) (T : Fx (cxOf CX P wd K mg base N0 q (defScope s0) f cd A outer s H E) g (WE E) w CX k) (D : Gt g lFns lCls lAsk lCI lCS) :
    PSs (cxOf CX P wd K mg base N0 q (defScope s0) f cd A outer s H E) (defBody s0) (tS g (WE E) false (exSs w none F0.body)) :=
    (pss_consD (ps_retD (x_and (x_isiB G T g0_isinstance (ev_var G v0_0) rfl g0_int ity_int) (x_and (x_not (x_isiB G T g0_isinstance (ev_var G v0_0) rfl g0_bool ity_bool)) (x_b1 (x_chn G (ev_var G v0_1) (ev_var G v0_0) (ev_var G v0_2) rfl)))))
    pss_nilD)
abbrev s2 : Stmt := (topS 11)
def N2 : List Str := ["row", "most", "index", "number"]
abbrev c2 : Tc := ⟨N2, defScope s2, [], [], 0, false⟩
theorem g2_isinstance : isGlob c2 "isinstance" = true := by decide +kernel
theorem v2_0 : slotOf c2 "row" = some 0 := by decide +kernel
theorem g2_list : isGlob c2 "list" = true := by decide +kernel
theorem g2_enumerate : isGlob c2 "enumerate" = true := by decide +kernel
theorem v2_2 : slotOf c2 "index" = some 2 := by decide +kernel
theorem k2_2 : (c2.sc.names.lookup ("index" : Str) == some NameKind.local || c2.sc.names.lookup ("index" : Str) == some NameKind.cell) = true := by decide +kernel
theorem v2_3 : slotOf c2 "number" = some 3 := by decide +kernel
theorem k2_3 : (c2.sc.names.lookup ("number" : Str) == some NameKind.local || c2.sc.names.lookup ("number" : Str) == some NameKind.cell) = true := by decide +kernel
theorem v2_1 : slotOf c2 "most" = some 1 := by decide +kernel
theorem g2_is_int_in : isGlob c2 "is_int_in" = true := by decide +kernel
theorem mF_is_int_in {g : Cfg} (D : Gt g lFns lCls lAsk lCI lCS) : (("is_int_in" : Str), 0) ∈ g.fns := mem_of D.fns (by decide +kernel)
theorem g2_GREAT : isGlob c2 "GREAT" = true := by decide +kernel
theorem mI_GREAT {g : Cfg} (D : Gt g lFns lCls lAsk lCI lCS) : (("GREAT" : Str), (1000000000 : Int)) ∈ g.cnI := mem_of D.cnI (by decide +kernel)
theorem b2 {CX : CXT} {P : Program} {wd : World} {K : PySem.W.Frag} {mg : Str → Option Value} {base : Heap} {q : Str} {f : Addr} {cd : Value} {A : Around} {outer : List Env} {s : Shared} {H : Hp} {E : XK} {g : Cfg} {w : SV.W} {k : Nat}
    (G : Gd (cxOf CX P wd K mg base N2 q (defScope s2) f cd A outer s H E) g c2) (T : Fx (cxOf CX P wd K mg base N2 q (defScope s2) f cd A outer s H E) g (WE E) w CX k) (D : Gt g lFns lCls lAsk lCI lCS) :
    PSs (cxOf CX P wd K mg base N2 q (defScope s2) f cd A outer s H E) (defBody s2) (tS g (WE E) false (exSs w none F2.body)) :=
    (pss_consD (ps_ifD (pt_not2 (t_val (x_isiB G T g2_isinstance (ev_var G v2_0) rfl g2_list ity_list) (fun _ => rfl))) (pss_consD (ps_rse0 D.xp)
    pss_nilD) pss_nilD)
    (pss_consD (ps_forE G T (i_enm G T g2_enumerate (ev_var G v2_0) rfl) (pg_tupD G (pgs_consD (g_name G v2_2 k2_2 rfl) (pgs_consD (g_name G v2_3 k2_3 rfl) pgs_nilD rfl) rfl) rfl rfl) (pss_consD (ps_ifD (t_or (t_cmp G (ev_var G v2_2) (ev_var G v2_1) rfl) (w_or1 (pt_not2 (t_val (ev_cal G T g2_is_int_in (mF_is_int_in D) (by decide) (a_cons (ev_var G v2_3) (a_cons (x_bin G (by decide) ev_cint (ev_gint G T g2_GREAT (mI_GREAT D))) (a_cons (ev_gint G T g2_GREAT (mI_GREAT D)) pa_nilD rfl) rfl) rfl) rfl) (fun _ => rfl))))) (pss_consD (ps_rse0 D.xp)
    pss_nilD) pss_nilD)
    pss_nilD) (fun _ => rfl))
    pss_nilD))
abbrev s3 : Stmt := (inClass (topS 12) 1)
def N3 : List Str := ["self"]
abbrev c3 : Tc := ⟨N3, defScope s3, [], [], 0, false⟩
theorem v3_0 : slotOf c3 "self" = some 0 := by decide +kernel
theorem b3 {CX : CXT} {P : Program} {wd : World} {K : PySem.W.Frag} {mg : Str → Option Value} {base : Heap} {q : Str} {f : Addr} {cd : Value} {A : Around} {outer : List Env} {s : Shared} {H : Hp} {E : XK} {g : Cfg} {w : SV.W} {k : Nat}
    (G : Gd (cxOf CX P wd K mg base N3 q (defScope s3) f cd A outer s H E) g c3) (T : Fx (cxOf CX P wd K mg base N3 q (defScope s3) f cd A outer s H E) g (WE E) w CX k) (D : Gt g lFns lCls lAsk lCI lCS) :
    PSs (cxOf CX P wd K mg base N3 q (defScope s3) f cd A outer s H E) (defBody s3) (tS g (WE E) false (exSs w none F3.body)) :=
    (pss_consD (s_fld G T rfl (ev_var G v3_0) (x_kcn G T rfl (ev_var G v3_0)) rfl)
    pss_nilD)
abbrev s4 : Stmt := (inClass (topS 12) 2)
def N4 : List Str := ["self", "held", "came"]
abbrev c4 : Tc := ⟨N4, defScope s4, [], [], 0, false⟩
theorem v4_1 : slotOf c4 "held" = some 1 := by decide +kernel
theorem v4_2 : slotOf c4 "came" = some 2 := by decide +kernel
theorem b4 {CX : CXT} {P : Program} {wd : World} {K : PySem.W.Frag} {mg : Str → Option Value} {base : Heap} {q : Str} {f : Addr} {cd : Value} {A : Around} {outer : List Env} {s : Shared} {H : Hp} {E : XK} {g : Cfg} {w : SV.W} {k : Nat}
    (G : Gd (cxOf CX P wd K mg base N4 q (defScope s4) f cd A outer s H E) g c4) (T : Fx (cxOf CX P wd K mg base N4 q (defScope s4) f cd A outer s H E) g (WE E) w CX k) (D : Gt g lFns lCls lAsk lCI lCS) :
    PSs (cxOf CX P wd K mg base N4 q (defScope s4) f cd A outer s H E) (defBody s4) (tS g (WE E) false (exSs w none F4.body)) :=
    (pss_consD (ps_retD (ev_tup (a_cons (ev_var G v4_1) (a_cons (ev_var G v4_2) pa_nilD rfl) rfl)))
    pss_nilD)
abbrev s7 : Stmt := (inClass (topS 12) 5)
def N7 : List Str := ["self"]
abbrev c7 : Tc := ⟨N7, defScope s7, [], [], 0, false⟩
theorem v7_0 : slotOf c7 "self" = some 0 := by decide +kernel
theorem b7 {CX : CXT} {P : Program} {wd : World} {K : PySem.W.Frag} {mg : Str → Option Value} {base : Heap} {q : Str} {f : Addr} {cd : Value} {A : Around} {outer : List Env} {s : Shared} {H : Hp} {E : XK} {g : Cfg} {w : SV.W} {k : Nat}
    (G : Gd (cxOf CX P wd K mg base N7 q (defScope s7) f cd A outer s H E) g c7) (T : Fx (cxOf CX P wd K mg base N7 q (defScope s7) f cd A outer s H E) g (WE E) w CX k) (D : Gt g lFns lCls lAsk lCI lCS) :
    PSs (cxOf CX P wd K mg base N7 q (defScope s7) f cd A outer s H E) (defBody s7) (tS g (WE E) false (exSs w none F7.body)) :=
    (pss_consD (ps_retD (x_fld G T rfl rfl (ev_var G v7_0)))
    pss_nilD)
abbrev s8 : Stmt := (inClass (topS 13) 1)
def N8 : List Str := ["self", "held", "came"]
abbrev c8 : Tc := ⟨N8, defScope s8, [], [], 0, false⟩
theorem v8_2 : slotOf c8 "came" = some 2 := by decide +kernel
theorem v8_1 : slotOf c8 "held" = some 1 := by decide +kernel
theorem b8 {CX : CXT} {P : Program} {wd : World} {K : PySem.W.Frag} {mg : Str → Option Value} {base : Heap} {q : Str} {f : Addr} {cd : Value} {A : Around} {outer : List Env} {s : Shared} {H : Hp} {E : XK} {g : Cfg} {w : SV.W} {k : Nat}
    (G : Gd (cxOf CX P wd K mg base N8 q (defScope s8) f cd A outer s H E) g c8) (T : Fx (cxOf CX P wd K mg base N8 q (defScope s8) f cd A outer s H E) g (WE E) w CX k) (D : Gt g lFns lCls lAsk lCI lCS) :
    PSs (cxOf CX P wd K mg base N8 q (defScope s8) f cd A outer s H E) (defBody s8) (tS g (WE E) false (exSs w none F8.body)) :=
    (pss_consD (ps_retD (ev_tup (a_cons (ev_var G v8_2) (a_cons (ev_var G v8_1) pa_nilD rfl) rfl)))
    pss_nilD)
abbrev s10 : Stmt := (inClass (topS 14) 1)
def N10 : List Str := ["self", "held", "came"]
abbrev c10 : Tc := ⟨N10, defScope s10, [], [], 0, false⟩
theorem g10_min : isGlob c10 "min" = true := by decide +kernel
theorem v10_1 : slotOf c10 "held" = some 1 := by decide +kernel
theorem v10_2 : slotOf c10 "came" = some 2 := by decide +kernel
theorem g10_max : isGlob c10 "max" = true := by decide +kernel
theorem b10 {CX : CXT} {P : Program} {wd : World} {K : PySem.W.Frag} {mg : Str → Option Value} {base : Heap} {q : Str} {f : Addr} {cd : Value} {A : Around} {outer : List Env} {s : Shared} {H : Hp} {E : XK} {g : Cfg} {w : SV.W} {k : Nat}
    (G : Gd (cxOf CX P wd K mg base N10 q (defScope s10) f cd A outer s H E) g c10) (T : Fx (cxOf CX P wd K mg base N10 q (defScope s10) f cd A outer s H E) g (WE E) w CX k) (D : Gt g lFns lCls lAsk lCI lCS) :
    PSs (cxOf CX P wd K mg base N10 q (defScope s10) f cd A outer s H E) (defBody s10) (tS g (WE E) false (exSs w none F10.body)) :=
    (pss_consD (ps_retD (ev_tup (a_cons (x_Bmin2 G T g10_min (a_cons (ev_var G v10_1) (a_cons (ev_var G v10_2) pa_nilD rfl) rfl) rfl) (a_cons (x_Bmax2 G T g10_max (a_cons (ev_var G v10_1) (a_cons (ev_var G v10_2) pa_nilD rfl) rfl) rfl) pa_nilD rfl) rfl)))
    pss_nilD)
abbrev s12 : Stmt := (inClass (topS 15) 1)
def N12 : List Str := ["self", "held", "came"]
abbrev c12 : Tc := ⟨N12, defScope s12, [], [], 0, false⟩
theorem g12_max : isGlob c12 "max" = true := by decide +kernel
theorem v12_1 : slotOf c12 "held" = some 1 := by decide +kernel
theorem v12_2 : slotOf c12 "came" = some 2 := by decide +kernel
theorem g12_min : isGlob c12 "min" = true := by decide +kernel
theorem b12 {CX : CXT} {P : Program} {wd : World} {K : PySem.W.Frag} {mg : Str → Option Value} {base : Heap} {q : Str} {f : Addr} {cd : Value} {A : Around} {outer : List Env} {s : Shared} {H : Hp} {E : XK} {g : Cfg} {w : SV.W} {k : Nat}
    (G : Gd (cxOf CX P wd K mg base N12 q (defScope s12) f cd A outer s H E) g c12) (T : Fx (cxOf CX P wd K mg base N12 q (defScope s12) f cd A outer s H E) g (WE E) w CX k) (D : Gt g lFns lCls lAsk lCI lCS) :
    PSs (cxOf CX P wd K mg base N12 q (defScope s12) f cd A outer s H E) (defBody s12) (tS g (WE E) false (exSs w none F12.body)) :=
    (pss_consD (ps_retD (ev_tup (a_cons (x_Bmax2 G T g12_max (a_cons (ev_var G v12_1) (a_cons (ev_var G v12_2) pa_nilD rfl) rfl) rfl) (a_cons (x_Bmin2 G T g12_min (a_cons (ev_var G v12_1) (a_cons (ev_var G v12_2) pa_nilD rfl) rfl) rfl) pa_nilD rfl) rfl)))
    pss_nilD)
abbrev s19 : Stmt := (topS 16)
def N19 : List Str := ["cells", "held", "number", "kept", "cell", "old"]
abbrev c19 : Tc := ⟨N19, defScope s19, [], [], 0, false⟩
theorem v19_3 : slotOf c19 "kept" = some 3 := by decide +kernel
theorem k19_3 : (c19.sc.names.lookup ("kept" : Str) == some NameKind.local || c19.sc.names.lookup ("kept" : Str) == some NameKind.cell) = true := by decide +kernel
theorem g19_zip : isGlob c19 "zip" = true := by decide +kernel
theorem v19_0 : slotOf c19 "cells" = some 0 := by decide +kernel
theorem v19_1 : slotOf c19 "held" = some 1 := by decide +kernel
theorem v19_4 : slotOf c19 "cell" = some 4 := by decide +kernel
theorem k19_4 : (c19.sc.names.lookup ("cell" : Str) == some NameKind.local || c19.sc.names.lookup ("cell" : Str) == some NameKind.cell) = true := by decide +kernel
theorem v19_5 : slotOf c19 "old" = some 5 := by decide +kernel
theorem k19_5 : (c19.sc.names.lookup ("old" : Str) == some NameKind.local || c19.sc.names.lookup ("old" : Str) == some NameKind.cell) = true := by decide +kernel
theorem v19_2 : slotOf c19 "number" = some 2 := by decide +kernel
theorem k19_2 : (c19.sc.names.lookup ("number" : Str) == some NameKind.local || c19.sc.names.lookup ("number" : Str) == some NameKind.cell) = true := by decide +kernel
theorem g19_tuple : isGlob c19 "tuple" = true := by decide +kernel
theorem b19 {CX : CXT} {P : Program} {wd : World} {K : PySem.W.Frag} {mg : Str → Option Value} {base : Heap} {q : Str} {f : Addr} {cd : Value} {A : Around} {outer : List Env} {s : Shared} {H : Hp} {E : XK} {g : Cfg} {w : SV.W} {k : Nat}
    (G : Gd (cxOf CX P wd K mg base N19 q (defScope s19) f cd A outer s H E) g c19) (T : Fx (cxOf CX P wd K mg base N19 q (defScope s19) f cd A outer s H E) g (WE E) w CX k) (D : Gt g lFns lCls lAsk lCI lCS) :
    PSs (cxOf CX P wd K mg base N19 q (defScope s19) f cd A outer s H E) (defBody s19) (tS g (WE E) false (exSs w none F19.body)) :=
    (pss_consD (s_asg (x_new (x_lst pa_nilD)) (g_name G v19_3 k19_3 rfl) rfl rfl rfl)
    (pss_consD (ps_forE G T (i_zip G T g19_zip (ev_var G v19_0) (ev_var G v19_1) rfl rfl) (pg_tupD G (pgs_consD (g_name G v19_4 k19_4 rfl) (pgs_consD (g_name G v19_5 k19_5 rfl) pgs_nilD rfl) rfl) rfl rfl) (pss_consD (ps_ifD (t_or (t_cmp G (ev_var G v19_2) ev_cnon rfl) (w_or1 (t_cmp G (ev_var G v19_5) ev_cnon rfl))) (pss_consD (s_exp (x_Mappend G rfl (ev_var G v19_3) (a_cons (ev_ite2 (t_cmp G (ev_var G v19_5) ev_cnon rfl) (ev_var G v19_2) (ev_var G v19_5)) pa_nilD rfl) rfl (by decide) rfl) rfl)
    (pss_consD (s_asg ev_cnon (g_name G v19_2 k19_2 rfl) rfl rfl rfl)
    pss_nilD)) (pss_consD (s_asg (x_app T (ev_var G v19_4) (a_cons (ev_var G v19_5) (a_cons (ev_var G v19_2) pa_nilD rfl) rfl) rfl rfl) (pg_tupD G (pgs_consD (g_name G v19_5 k19_5 rfl) (pgs_consD (g_name G v19_2 k19_2 rfl) pgs_nilD rfl) rfl) rfl rfl) rfl rfl rfl)
    (pss_consD (s_exp (x_Mappend G rfl (ev_var G v19_3) (a_cons (ev_var G v19_5) pa_nilD rfl) rfl (by decide) rfl) rfl)
    pss_nilD)))
    pss_nilD) (fun _ => rfl))
    (pss_consD (ps_retD (ev_tup (a_cons (x_Btuple G T g19_tuple (a_cons (ev_var G v19_3) pa_nilD rfl) rfl) (a_cons (ev_var G v19_2) pa_nilD rfl) rfl)))
    pss_nilD)))
abbrev s20 : Stmt := (inClass (topS 17) 1)
def N20 : List Str := ["self", "cells", "index", "cell"]
abbrev c20 : Tc := ⟨N20, defScope s20, [], [], 0, false⟩
theorem v20_1 : slotOf c20 "cells" = some 1 := by decide +kernel
theorem g20_enumerate : isGlob c20 "enumerate" = true := by decide +kernel
theorem v20_2 : slotOf c20 "index" = some 2 := by decide +kernel
theorem k20_2 : (c20.sc.names.lookup ("index" : Str) == some NameKind.local || c20.sc.names.lookup ("index" : Str) == some NameKind.cell) = true := by decide +kernel
theorem v20_3 : slotOf c20 "cell" = some 3 := by decide +kernel
theorem k20_3 : (c20.sc.names.lookup ("cell" : Str) == some NameKind.local || c20.sc.names.lookup ("cell" : Str) == some NameKind.cell) = true := by decide +kernel
theorem g20_Chain : isGlob c20 "Chain" = true := by decide +kernel
theorem mC_Chain {g : Cfg} (D : Gt g lFns lCls lAsk lCI lCS) : (("Chain" : Str), 5) ∈ g.clss := mem_of D.clss (by decide +kernel)
theorem g20_isinstance : isGlob c20 "isinstance" = true := by decide +kernel
theorem g20_Cell : isGlob c20 "Cell" = true := by decide +kernel
theorem mA_0 {g : Cfg} (D : Gt g lFns lCls lAsk lCI lCS) : 0 ∈ g.asks := mem_of D.asks (by decide +kernel)
theorem v20_0 : slotOf c20 "self" = some 0 := by decide +kernel
theorem b20 {CX : CXT} {P : Program} {wd : World} {K : PySem.W.Frag} {mg : Str → Option Value} {base : Heap} {q : Str} {f : Addr} {cd : Value} {A : Around} {outer : List Env} {s : Shared} {H : Hp} {E : XK} {g : Cfg} {w : SV.W} {k : Nat}
    (G : Gd (cxOf CX P wd K mg base N20 q (defScope s20) f cd A outer s H E) g c20) (T : Fx (cxOf CX P wd K mg base N20 q (defScope s20) f cd A outer s H E) g (WE E) w CX k) (D : Gt g lFns lCls lAsk lCI lCS) :
    PSs (cxOf CX P wd K mg base N20 q (defScope s20) f cd A outer s H E) (defBody s20) (tS g (WE E) false (exSs w none F20.body)) :=
    (pss_consD (ps_ifD (t_cmp G (ev_var G v20_1) (ev_tup pa_nilD) rfl) (pss_consD (ps_rse0 D.xp)
    pss_nilD) pss_nilD)
    (pss_consD (ps_forE G T (i_enm G T g20_enumerate (ev_var G v20_1) rfl) (pg_tupD G (pgs_consD (g_name G v20_2 k20_2 rfl) (pgs_consD (g_name G v20_3 k20_3 rfl) pgs_nilD rfl) rfl) rfl rfl) (pss_consD (ps_ifD (t_or (t_cmp G (ev_var G v20_2) (x_maxc G T g20_Chain (mC_Chain D)) rfl) (w_or1 (pt_not2 (t_val (x_isiO G T g20_isinstance (ev_var G v20_3) rfl g20_Cell (mA_0 D) (by decide +kernel)) (fun _ => rfl))))) (pss_consD (ps_rse0 D.xp)
    pss_nilD) pss_nilD)
    pss_nilD) (fun _ => rfl))
    (pss_consD (s_fld G T rfl (ev_var G v20_0) (ev_var G v20_1) rfl)
    pss_nilD)))
abbrev s22 : Stmt := (inClass (topS 17) 3)
def N22 : List Str := ["self", ".0", "cell"]
abbrev c22 : Tc := ⟨N22, defScope s22, [], [], 0, false⟩
theorem v22_0 : slotOf c22 "self" = some 0 := by decide +kernel
theorem b22 {CX : CXT} {P : Program} {wd : World} {K : PySem.W.Frag} {mg : Str → Option Value} {base : Heap} {q : Str} {f : Addr} {cd : Value} {A : Around} {outer : List Env} {s : Shared} {H : Hp} {E : XK} {g : Cfg} {w : SV.W} {k : Nat}
    (G : Gd (cxOf CX P wd K mg base N22 q (defScope s22) f cd A outer s H E) g c22) (T : Fx (cxOf CX P wd K mg base N22 q (defScope s22) f cd A outer s H E) g (WE E) w CX k) (D : Gt g lFns lCls lAsk lCI lCS) :
    PSs (cxOf CX P wd K mg base N22 q (defScope s22) f cd A outer s H E) (defBody s22) (tS g (WE E) false (exSs w none F22.body)) :=
    (pss_consD (ps_retD (x_Mjoin G rfl ev_cstr (a_cons (x_frz (ev_lcA G T (by decide +kernel) (by decide +kernel) (i_val G (x_fld G T rfl rfl (ev_var G v22_0))) (fun X1 G1 T1 h1 => (w_name G1 (by decide +kernel) (by decide +kernel) (by decide +kernel))) (fun X1 G1 T1 h1 => pts_nilD) (fun X1 G1 T1 h1 => (x_prp T1 rfl (by decide) (by decide) rfl (ev_var G1 (by decide +kernel)))) (fun _ => rfl))) pa_nilD rfl) rfl (by decide) rfl))
    pss_nilD)
abbrev s23 : Stmt := (inClass (topS 17) 4)
def N23 : List Str := ["self"]
abbrev c23 : Tc := ⟨N23, defScope s23, [], [], 0, false⟩
theorem g23_len : isGlob c23 "len" = true := by decide +kernel
theorem v23_0 : slotOf c23 "self" = some 0 := by decide +kernel
theorem b23 {CX : CXT} {P : Program} {wd : World} {K : PySem.W.Frag} {mg : Str → Option Value} {base : Heap} {q : Str} {f : Addr} {cd : Value} {A : Around} {outer : List Env} {s : Shared} {H : Hp} {E : XK} {g : Cfg} {w : SV.W} {k : Nat}
    (G : Gd (cxOf CX P wd K mg base N23 q (defScope s23) f cd A outer s H E) g c23) (T : Fx (cxOf CX P wd K mg base N23 q (defScope s23) f cd A outer s H E) g (WE E) w CX k) (D : Gt g lFns lCls lAsk lCI lCS) :
    PSs (cxOf CX P wd K mg base N23 q (defScope s23) f cd A outer s H E) (defBody s23) (tS g (WE E) false (exSs w none F23.body)) :=
    (pss_consD (ps_retD (x_bin G (by decide) (ev_tup (a_cons ev_cnon pa_nilD rfl)) (x_Blen G T g23_len (a_cons (x_fld G T rfl rfl (ev_var G v23_0)) pa_nilD rfl) rfl)))
    pss_nilD)
abbrev s24 : Stmt := (inClass (topS 17) 5)
def N24 : List Str := ["self"]
abbrev c24 : Tc := ⟨N24, defScope s24, [], [], 0, false⟩
theorem g24_len : isGlob c24 "len" = true := by decide +kernel
theorem v24_0 : slotOf c24 "self" = some 0 := by decide +kernel
theorem b24 {CX : CXT} {P : Program} {wd : World} {K : PySem.W.Frag} {mg : Str → Option Value} {base : Heap} {q : Str} {f : Addr} {cd : Value} {A : Around} {outer : List Env} {s : Shared} {H : Hp} {E : XK} {g : Cfg} {w : SV.W} {k : Nat}
    (G : Gd (cxOf CX P wd K mg base N24 q (defScope s24) f cd A outer s H E) g c24) (T : Fx (cxOf CX P wd K mg base N24 q (defScope s24) f cd A outer s H E) g (WE E) w CX k) (D : Gt g lFns lCls lAsk lCI lCS) :
    PSs (cxOf CX P wd K mg base N24 q (defScope s24) f cd A outer s H E) (defBody s24) (tS g (WE E) false (exSs w none F24.body)) :=
    (pss_consD (ps_retD (x_Blen G T g24_len (a_cons (x_fld G T rfl rfl (ev_var G v24_0)) pa_nilD rfl) rfl))
    pss_nilD)
abbrev s25 : Stmt := (inClass (topS 17) 6)
def N25 : List Str := ["self", "index"]
abbrev c25 : Tc := ⟨N25, defScope s25, [], [], 0, false⟩
theorem g25_is_int_in : isGlob c25 "is_int_in" = true := by decide +kernel
theorem v25_1 : slotOf c25 "index" = some 1 := by decide +kernel
theorem g25_len : isGlob c25 "len" = true := by decide +kernel
theorem v25_0 : slotOf c25 "self" = some 0 := by decide +kernel
theorem b25 {CX : CXT} {P : Program} {wd : World} {K : PySem.W.Frag} {mg : Str → Option Value} {base : Heap} {q : Str} {f : Addr} {cd : Value} {A : Around} {outer : List Env} {s : Shared} {H : Hp} {E : XK} {g : Cfg} {w : SV.W} {k : Nat}
    (G : Gd (cxOf CX P wd K mg base N25 q (defScope s25) f cd A outer s H E) g c25) (T : Fx (cxOf CX P wd K mg base N25 q (defScope s25) f cd A outer s H E) g (WE E) w CX k) (D : Gt g lFns lCls lAsk lCI lCS) :
    PSs (cxOf CX P wd K mg base N25 q (defScope s25) f cd A outer s H E) (defBody s25) (tS g (WE E) false (exSs w none F25.body)) :=
    (pss_consD (ps_ifD (pt_not2 (t_val (ev_cal G T g25_is_int_in (mF_is_int_in D) (by decide) (a_cons (ev_var G v25_1) (a_cons ev_cint (a_cons (x_bin G (by decide) (x_Blen G T g25_len (a_cons (x_fld G T rfl rfl (ev_var G v25_0)) pa_nilD rfl) rfl) ev_cint) pa_nilD rfl) rfl) rfl) rfl) (fun _ => rfl))) (pss_consD (ps_rse0 D.xp)
    pss_nilD) pss_nilD)
    (pss_consD (ps_retD (x_sub G T (x_fld G T rfl rfl (ev_var G v25_0)) (ev_var G v25_1) (fun _ _ => rfl) (fun _ _ => rfl)))
    pss_nilD))
abbrev s29 : Stmt := (inClass (topS 17) 11)
def N29 : List Str := ["self", "row", "outs", "held", "number", "out"]
abbrev c29 : Tc := ⟨N29, defScope s29, [], [], 0, false⟩
theorem g29_check_row : isGlob c29 "check_row" = true := by decide +kernel
theorem mF_check_row {g : Cfg} (D : Gt g lFns lCls lAsk lCI lCS) : (("check_row" : Str), 2) ∈ g.fns := mem_of D.fns (by decide +kernel)
theorem v29_1 : slotOf c29 "row" = some 1 := by decide +kernel
theorem g29_MAX_ROW : isGlob c29 "MAX_ROW" = true := by decide +kernel
theorem mI_MAX_ROW {g : Cfg} (D : Gt g lFns lCls lAsk lCI lCS) : (("MAX_ROW" : Str), (1000 : Int)) ∈ g.cnI := mem_of D.cnI (by decide +kernel)
theorem v29_2 : slotOf c29 "outs" = some 2 := by decide +kernel
theorem v29_3 : slotOf c29 "held" = some 3 := by decide +kernel
theorem l29_2 : (c29.sc.names.lookup ("outs" : Str) == some NameKind.local) = true := by decide +kernel
theorem l29_3 : (c29.sc.names.lookup ("held" : Str) == some NameKind.local) = true := by decide +kernel
theorem v29_0 : slotOf c29 "self" = some 0 := by decide +kernel
theorem v29_4 : slotOf c29 "number" = some 4 := by decide +kernel
theorem k29_4 : (c29.sc.names.lookup ("number" : Str) == some NameKind.local || c29.sc.names.lookup ("number" : Str) == some NameKind.cell) = true := by decide +kernel
theorem g29_passed_on : isGlob c29 "passed_on" = true := by decide +kernel
theorem mF_passed_on {g : Cfg} (D : Gt g lFns lCls lAsk lCI lCS) : (("passed_on" : Str), 19) ∈ g.fns := mem_of D.fns (by decide +kernel)
theorem k29_3 : (c29.sc.names.lookup ("held" : Str) == some NameKind.local || c29.sc.names.lookup ("held" : Str) == some NameKind.cell) = true := by decide +kernel
theorem v29_5 : slotOf c29 "out" = some 5 := by decide +kernel
theorem k29_5 : (c29.sc.names.lookup ("out" : Str) == some NameKind.local || c29.sc.names.lookup ("out" : Str) == some NameKind.cell) = true := by decide +kernel
theorem b29 {CX : CXT} {P : Program} {wd : World} {K : PySem.W.Frag} {mg : Str → Option Value} {base : Heap} {q : Str} {f : Addr} {cd : Value} {A : Around} {outer : List Env} {s : Shared} {H : Hp} {E : XK} {g : Cfg} {w : SV.W} {k : Nat}
    (G : Gd (cxOf CX P wd K mg base N29 q (defScope s29) f cd A outer s H E) g c29) (T : Fx (cxOf CX P wd K mg base N29 q (defScope s29) f cd A outer s H E) g (WE E) w CX k) (D : Gt g lFns lCls lAsk lCI lCS) :
    PSs (cxOf CX P wd K mg base N29 q (defScope s29) f cd A outer s H E) (defBody s29) (tS g (WE E) false (exSs w none F29.body)) :=
    (pss_consD (s_exp (ev_cal G T g29_check_row (mF_check_row D) (by decide) (a_cons (ev_var G v29_1) (a_cons (ev_gint G T g29_MAX_ROW (mI_MAX_ROW D)) pa_nilD rfl) rfl) rfl) rfl)
    (pss_consD (s_par G v29_2 v29_3 (by decide) l29_2 l29_3 (x_new (x_lst pa_nilD)) (x_prp T rfl (by decide) (by decide) rfl (ev_var G v29_0)) rfl rfl rfl)
    (pss_consD (ps_forE G T (i_val G (ev_var G v29_1)) (g_name G v29_4 k29_4 rfl) (pss_consD (s_asg (ev_cal G T g29_passed_on (mF_passed_on D) (by decide) (a_cons (x_fld G T rfl rfl (ev_var G v29_0)) (a_cons (ev_var G v29_3) (a_cons (ev_var G v29_4) pa_nilD rfl) rfl) rfl) rfl) (pg_tupD G (pgs_consD (g_name G v29_3 k29_3 rfl) (pgs_consD (g_name G v29_5 k29_5 rfl) pgs_nilD rfl) rfl) rfl rfl) rfl rfl rfl)
    (pss_consD (s_exp (x_Mappend G rfl (ev_var G v29_2) (a_cons (ev_var G v29_5) pa_nilD rfl) rfl (by decide) rfl) rfl)
    pss_nilD)) (fun _ => rfl))
    (pss_consD (ps_retD (ev_tup (a_cons (x_frz (ev_var G v29_2)) (a_cons (ev_var G v29_3) pa_nilD rfl) rfl)))
    pss_nilD))))
abbrev s46 : Stmt := (topS 20)
def N46 : List Str := ["row", "outs", "count", "made", "turn", "cells", ".0", "out", "some", "cell"]
abbrev c46 : Tc := ⟨N46, defScope s46, [], [], 0, false⟩
theorem g46_check_row : isGlob c46 "check_row" = true := by decide +kernel
theorem v46_0 : slotOf c46 "row" = some 0 := by decide +kernel
theorem g46_MAX_ROW : isGlob c46 "MAX_ROW" = true := by decide +kernel
theorem g46_isinstance : isGlob c46 "isinstance" = true := by decide +kernel
theorem v46_1 : slotOf c46 "outs" = some 1 := by decide +kernel
theorem g46_list : isGlob c46 "list" = true := by decide +kernel
theorem g46_len : isGlob c46 "len" = true := by decide +kernel
theorem v46_2 : slotOf c46 "count" = some 2 := by decide +kernel
theorem k46_2 : (c46.sc.names.lookup ("count" : Str) == some NameKind.local || c46.sc.names.lookup ("count" : Str) == some NameKind.cell) = true := by decide +kernel
theorem g46_MAX_MADE : isGlob c46 "MAX_MADE" = true := by decide +kernel
theorem mI_MAX_MADE {g : Cfg} (D : Gt g lFns lCls lAsk lCI lCS) : (("MAX_MADE" : Str), (5 : Int)) ∈ g.cnI := mem_of D.cnI (by decide +kernel)
theorem v46_3 : slotOf c46 "made" = some 3 := by decide +kernel
theorem k46_3 : (c46.sc.names.lookup ("made" : Str) == some NameKind.local || c46.sc.names.lookup ("made" : Str) == some NameKind.cell) = true := by decide +kernel
theorem g46_range : isGlob c46 "range" = true := by decide +kernel
theorem v46_4 : slotOf c46 "turn" = some 4 := by decide +kernel
theorem k46_4 : (c46.sc.names.lookup ("turn" : Str) == some NameKind.local || c46.sc.names.lookup ("turn" : Str) == some NameKind.cell) = true := by decide +kernel
theorem l46_3 : (c46.sc.names.lookup ("made" : Str) == some NameKind.local) = true := by decide +kernel
theorem mC_Cell {g : Cfg} (D : Gt g lFns lCls lAsk lCI lCS) : (("Cell" : Str), 0) ∈ g.clss := mem_of D.clss (by decide +kernel)
theorem mC_Greater {g : Cfg} (D : Gt g lFns lCls lAsk lCI lCS) : (("Greater" : Str), 3) ∈ g.clss := mem_of D.clss (by decide +kernel)
theorem mC_Last {g : Cfg} (D : Gt g lFns lCls lAsk lCI lCS) : (("Last" : Str), 1) ∈ g.clss := mem_of D.clss (by decide +kernel)
theorem mC_Less {g : Cfg} (D : Gt g lFns lCls lAsk lCI lCS) : (("Less" : Str), 2) ∈ g.clss := mem_of D.clss (by decide +kernel)
theorem v46_5 : slotOf c46 "cells" = some 5 := by decide +kernel
theorem k46_5 : (c46.sc.names.lookup ("cells" : Str) == some NameKind.local || c46.sc.names.lookup ("cells" : Str) == some NameKind.cell) = true := by decide +kernel
theorem g46_Chain : isGlob c46 "Chain" = true := by decide +kernel
theorem b46 {CX : CXT} {P : Program} {wd : World} {K : PySem.W.Frag} {mg : Str → Option Value} {base : Heap} {q : Str} {f : Addr} {cd : Value} {A : Around} {outer : List Env} {s : Shared} {H : Hp} {E : XK} {g : Cfg} {w : SV.W} {k : Nat}
    (G : Gd (cxOf CX P wd K mg base N46 q (defScope s46) f cd A outer s H E) g c46) (T : Fx (cxOf CX P wd K mg base N46 q (defScope s46) f cd A outer s H E) g (WE E) w CX k) (D : Gt g lFns lCls lAsk lCI lCS) :
    PSs (cxOf CX P wd K mg base N46 q (defScope s46) f cd A outer s H E) (defBody s46) (tS g (WE E) false (exSs w none F46.body)) :=
    (pss_consD (s_exp (ev_cal G T g46_check_row (mF_check_row D) (by decide) (a_cons (ev_var G v46_0) (a_cons (ev_gint G T g46_MAX_ROW (mI_MAX_ROW D)) pa_nilD rfl) rfl) rfl) rfl)
    (pss_consD (ps_ifD (pt_not2 (t_val (x_isiB G T g46_isinstance (ev_var G v46_1) rfl g46_list ity_list) (fun _ => rfl))) (pss_consD (ps_rse0 D.xp)
    pss_nilD) pss_nilD)
    (pss_consD (s_asg (x_Blen G T g46_len (a_cons (x_frz (ev_lcA G T (by decide +kernel) (by decide +kernel) (i_val G (ev_var G v46_1)) (fun X1 G1 T1 h1 => (w_name G1 (by decide +kernel) (by decide +kernel) (by decide +kernel))) (fun X1 G1 T1 h1 => (pts_oneD (t_cmp G1 (ev_var G1 (by decide +kernel)) ev_cnon rfl))) (fun X1 G1 T1 h1 => (ev_var G1 (by decide +kernel))) (fun _ => rfl))) pa_nilD rfl) rfl) (g_name G v46_2 k46_2 rfl) rfl rfl rfl)
    (pss_consD (ps_ifD (t_cmp G (ev_var G v46_2) (ev_gint G T g46_MAX_MADE (mI_MAX_MADE D)) rfl) (pss_consD (ps_rse0 D.xp)
    pss_nilD) pss_nilD)
    (pss_consD (ps_ifD (t_cmp G (ev_var G v46_2) ev_cint rfl) (pss_consD (ps_retD ev_cnon)
    pss_nilD) pss_nilD)
    (pss_consD (s_asg (x_lst (a_cons (ev_tup pa_nilD) pa_nilD rfl)) (g_name G v46_3 k46_3 rfl) rfl rfl rfl)
    (pss_consD (ps_forE G T (i_rng1 G T g46_range (ev_var G v46_2) rfl) (g_name G v46_4 k46_4 rfl) (pss_consD (ps_setLc2A G T v46_3 l46_3 (sw_true rfl (loc_G G l46_3) rfl (by decide +kernel)) (by decide +kernel) (by decide +kernel) (by decide +kernel) (i_val G (ev_var G v46_3)) (fun X1 G1 T1 h1 => (w_name G1 (by decide +kernel) (by decide +kernel) (by decide +kernel))) (fun X1 G1 T1 h1 => (i_val G1 (ev_tup (a_cons (ev_ctr0 G1 T1 (by decide +kernel) (mC_Cell D)) (a_cons (ev_ctr0 G1 T1 (by decide +kernel) (mC_Greater D)) (a_cons (ev_ctr0 G1 T1 (by decide +kernel) (mC_Last D)) (a_cons (ev_ctr0 G1 T1 (by decide +kernel) (mC_Less D)) pa_nilD rfl) rfl) rfl) rfl)))) (fun X1 G1 T1 h1 => (w_name G1 (by decide +kernel) (by decide +kernel) (by decide +kernel))) (fun X1 G1 T1 h1 => (x_bin G1 (by decide) (ev_var G1 (by decide +kernel)) (ev_tup (a_cons (ev_var G1 (by decide +kernel)) pa_nilD rfl)))) (fun _ => rfl) (fun _ _ => rfl))
    pss_nilD) (fun _ => rfl))
    (pss_consD (ps_forE G T (i_val G (ev_var G v46_3)) (g_name G v46_5 k46_5 rfl) (pss_consD (ps_ifD (t_cmp G (x_sub G T (x_app T (x_ctrS G T g46_Chain (mC_Chain D) (ev_var G v46_5)) (a_cons (ev_var G v46_0) pa_nilD rfl) rfl rfl) ev_cint (fun _ _ => rfl) (fun _ _ => rfl)) (ev_var G v46_1) rfl) (pss_consD (ps_retD (x_ctrS G T g46_Chain (mC_Chain D) (ev_var G v46_5)))
    pss_nilD) pss_nilD)
    pss_nilD) (fun _ => rfl))
    (pss_consD (ps_retD ev_cnon)
    pss_nilD)))))))))
abbrev s100 : Stmt := (topS 22)
def N100 : List Str := ["_law_script", "_law_salt", "_law_seed", "_law_cell", ".0"]
abbrev c100 : Tc := ⟨N100, defScope s100, [], [], 0, false⟩
theorem v100_1 : slotOf c100 "_law_salt" = some 1 := by decide +kernel
theorem v100_2 : slotOf c100 "_law_seed" = some 2 := by decide +kernel
theorem k100_2 : (c100.sc.names.lookup ("_law_seed" : Str) == some NameKind.local || c100.sc.names.lookup ("_law_seed" : Str) == some NameKind.cell) = true := by decide +kernel
theorem v100_0 : slotOf c100 "_law_script" = some 0 := by decide +kernel
theorem v100_3 : slotOf c100 "_law_cell" = some 3 := by decide +kernel
theorem k100_3 : (c100.sc.names.lookup ("_law_cell" : Str) == some NameKind.local || c100.sc.names.lookup ("_law_cell" : Str) == some NameKind.cell) = true := by decide +kernel
theorem g100_abs : isGlob c100 "abs" = true := by decide +kernel
theorem b100 {CX : CXT} {P : Program} {wd : World} {K : PySem.W.Frag} {mg : Str → Option Value} {base : Heap} {q : Str} {f : Addr} {cd : Value} {A : Around} {outer : List Env} {s : Shared} {H : Hp} {E : XK} {g : Cfg} {w : SV.W} {k : Nat}
    (G : Gd (cxOf CX P wd K mg base N100 q (defScope s100) f cd A outer s H E) g c100) (T : Fx (cxOf CX P wd K mg base N100 q (defScope s100) f cd A outer s H E) g (WE E) w CX k) (D : Gt g lFns lCls lAsk lCI lCS) :
    PSs (cxOf CX P wd K mg base N100 q (defScope s100) f cd A outer s H E) (defBody s100) (tS g (WE E) true (exSs w none F100.body)) :=
    (pss_consD (s_asg (ev_var G v100_1) (g_name G v100_2 k100_2 rfl) rfl rfl rfl)
    (pss_consD (ps_forE G T (i_val G (ev_var G v100_0)) (g_name G v100_3 k100_3 rfl) (pss_consD (s_asg (x_bin G (by decide) (x_bin G (by decide) (x_bin G (by decide) (ev_var G v100_2) ev_cint) (x_Babs G T g100_abs (a_cons (ev_var G v100_3) pa_nilD rfl) rfl)) ev_cint) (g_name G v100_2 k100_2 rfl) rfl rfl rfl)
    pss_nilD) (fun _ => rfl))
    (pss_consD (ps_retD (x_bin G (by decide) (x_lst (a_cons (ev_var G v100_2) (a_cons ev_cint pa_nilD rfl) rfl)) (x_frz (ev_lcA G T (by decide +kernel) (by decide +kernel) (i_val G (ev_var G v100_0)) (fun X1 G1 T1 h1 => (w_name G1 (by decide +kernel) (by decide +kernel) (by decide +kernel))) (fun X1 G1 T1 h1 => (pts_oneD (t_cmp G1 (ev_var G1 (by decide +kernel)) (x_bin G1 (by decide) ev_cint ev_cint) rfl))) (fun X1 G1 T1 h1 => (ev_var G1 (by decide +kernel))) (fun _ => rfl)))))
    pss_nilD)))
abbrev s101 : Stmt := (topS 23)
def N101 : List Str := ["_law_d", "_law_limit", "_law_result"]
abbrev c101 : Tc := ⟨N101, defScope s101, [], [], 0, false⟩
theorem v101_0 : slotOf c101 "_law_d" = some 0 := by decide +kernel
theorem g101_len : isGlob c101 "len" = true := by decide +kernel
theorem v101_1 : slotOf c101 "_law_limit" = some 1 := by decide +kernel
theorem v101_2 : slotOf c101 "_law_result" = some 2 := by decide +kernel
theorem k101_2 : (c101.sc.names.lookup ("_law_result" : Str) == some NameKind.local || c101.sc.names.lookup ("_law_result" : Str) == some NameKind.cell) = true := by decide +kernel
theorem b101 {CX : CXT} {P : Program} {wd : World} {K : PySem.W.Frag} {mg : Str → Option Value} {base : Heap} {q : Str} {f : Addr} {cd : Value} {A : Around} {outer : List Env} {s : Shared} {H : Hp} {E : XK} {g : Cfg} {w : SV.W} {k : Nat}
    (G : Gd (cxOf CX P wd K mg base N101 q (defScope s101) f cd A outer s H E) g c101) (T : Fx (cxOf CX P wd K mg base N101 q (defScope s101) f cd A outer s H E) g (WE E) w CX k) (D : Gt g lFns lCls lAsk lCI lCS) :
    PSs (cxOf CX P wd K mg base N101 q (defScope s101) f cd A outer s H E) (defBody s101) (tS g (WE E) false (exSs w none F101.body)) :=
    (pss_consD (ps_ifD (t_and (t_cmp G (x_sub G T (ev_var G v101_0) ev_cint (fun _ _ => rfl) (fun _ _ => rfl)) ev_cint rfl) (w_and1 (t_cmp G (x_Blen G T g101_len (a_cons (ev_var G v101_0) pa_nilD rfl) rfl) ev_cint rfl))) (pss_consD (s_asg (x_Mpop1 G rfl (ev_var G v101_0) (a_cons ev_cint pa_nilD rfl) rfl (by decide) rfl) (g_sub G (ev_var G v101_0) ev_cint rfl) rfl rfl rfl)
    pss_nilD) pss_nilD)
    (pss_consD (ps_ifD (t_cmp G (x_sub G T (ev_var G v101_0) ev_cint (fun _ _ => rfl) (fun _ _ => rfl)) ev_cint rfl) (pss_consD (s_asg (x_bin G (by decide) (x_sub G T (ev_var G v101_0) ev_cint (fun _ _ => rfl) (fun _ _ => rfl)) (ev_var G v101_1)) (g_name G v101_2 k101_2 rfl) rfl rfl rfl)
    (pss_consD (s_asg (x_bin G (by decide) (x_sub G T (ev_var G v101_0) ev_cint (fun _ _ => rfl) (fun _ _ => rfl)) (ev_var G v101_1)) (g_sub G (ev_var G v101_0) ev_cint rfl) rfl rfl rfl)
    (pss_consD (ps_retD (ev_var G v101_2))
    pss_nilD))) pss_nilD)
    (pss_consD (s_asg (x_bin G (by decide) (x_bin G (by decide) (x_bin G (by decide) (x_sub G T (ev_var G v101_0) ev_cint (fun _ _ => rfl) (fun _ _ => rfl)) ev_cint) ev_cint) ev_cint) (g_sub G (ev_var G v101_0) ev_cint rfl) rfl rfl rfl)
    (pss_consD (ps_retD (x_bin G (by decide) (x_bin G (by decide) (x_sub G T (ev_var G v101_0) ev_cint (fun _ _ => rfl) (fun _ _ => rfl)) ev_cint) (ev_var G v101_1)))
    pss_nilD))))
abbrev s105 : Stmt := (topS 24)
def N105 : List Str := ["_law_label", "_law_held", "_law_came", "_law_mark"]
abbrev c105 : Tc := ⟨N105, defScope s105, [], [], 0, false⟩
theorem v105_0 : slotOf c105 "_law_label" = some 0 := by decide +kernel
theorem v105_2 : slotOf c105 "_law_came" = some 2 := by decide +kernel
theorem v105_1 : slotOf c105 "_law_held" = some 1 := by decide +kernel
theorem g105_min : isGlob c105 "min" = true := by decide +kernel
theorem g105_max : isGlob c105 "max" = true := by decide +kernel
theorem g105_int : isGlob c105 "int" = true := by decide +kernel
theorem v105_3 : slotOf c105 "_law_mark" = some 3 := by decide +kernel
theorem k105_3 : (c105.sc.names.lookup ("_law_mark" : Str) == some NameKind.local || c105.sc.names.lookup ("_law_mark" : Str) == some NameKind.cell) = true := by decide +kernel
theorem g105_abs : isGlob c105 "abs" = true := by decide +kernel
theorem b105 {CX : CXT} {P : Program} {wd : World} {K : PySem.W.Frag} {mg : Str → Option Value} {base : Heap} {q : Str} {f : Addr} {cd : Value} {A : Around} {outer : List Env} {s : Shared} {H : Hp} {E : XK} {g : Cfg} {w : SV.W} {k : Nat}
    (G : Gd (cxOf CX P wd K mg base N105 q (defScope s105) f cd A outer s H E) g c105) (T : Fx (cxOf CX P wd K mg base N105 q (defScope s105) f cd A outer s H E) g (WE E) w CX k) (D : Gt g lFns lCls lAsk lCI lCS) :
    PSs (cxOf CX P wd K mg base N105 q (defScope s105) f cd A outer s H E) (defBody s105) (tS g (WE E) false (exSs w none F105.body)) :=
    (pss_consD (ps_ifD (t_cmp G (ev_var G v105_0) ev_cstr rfl) (pss_consD (ps_retD (ev_tup (a_cons (ev_var G v105_2) (a_cons (ev_var G v105_1) pa_nilD rfl) rfl)))
    pss_nilD) pss_nilD)
    (pss_consD (ps_ifD (t_cmp G (ev_var G v105_0) ev_cstr rfl) (pss_consD (ps_retD (ev_tup (a_cons (x_Bmin1 G T g105_min (a_cons (x_lst (a_cons (ev_var G v105_1) (a_cons (ev_var G v105_2) pa_nilD rfl) rfl)) pa_nilD rfl) rfl) (a_cons (x_Bmax1 G T g105_max (a_cons (x_lst (a_cons (ev_var G v105_1) (a_cons (ev_var G v105_2) pa_nilD rfl) rfl)) pa_nilD rfl) rfl) pa_nilD rfl) rfl)))
    pss_nilD) pss_nilD)
    (pss_consD (ps_ifD (t_cmp G (ev_var G v105_0) ev_cstr rfl) (pss_consD (ps_retD (ev_tup (a_cons (x_Bmax1 G T g105_max (a_cons (x_lst (a_cons (ev_var G v105_1) (a_cons (ev_var G v105_2) pa_nilD rfl) rfl)) pa_nilD rfl) rfl) (a_cons (x_Bmin1 G T g105_min (a_cons (x_lst (a_cons (ev_var G v105_1) (a_cons (ev_var G v105_2) pa_nilD rfl) rfl)) pa_nilD rfl) rfl) pa_nilD rfl) rfl)))
    pss_nilD) pss_nilD)
    (pss_consD (ps_ifD (t_cmp G (ev_var G v105_0) ev_cstr rfl) (pss_consD (s_asg (x_Bint G T g105_int (a_cons (x_slc (ev_var G v105_0) (o_some ev_cint) po_noneD) pa_nilD rfl) rfl) (g_name G v105_3 k105_3 rfl) rfl rfl rfl)
    (pss_consD (ps_ifD (t_cmp G (x_Babs G T g105_abs (a_cons (x_bin G (by decide) (ev_var G v105_2) (ev_var G v105_3)) pa_nilD rfl) rfl) (x_Babs G T g105_abs (a_cons (x_bin G (by decide) (ev_var G v105_1) (ev_var G v105_3)) pa_nilD rfl) rfl) rfl) (pss_consD (ps_retD (ev_tup (a_cons (ev_var G v105_2) (a_cons (ev_var G v105_1) pa_nilD rfl) rfl)))
    pss_nilD) pss_nilD)
    pss_nilD)) pss_nilD)
    (pss_consD (ps_retD (ev_tup (a_cons (ev_var G v105_1) (a_cons (ev_var G v105_2) pa_nilD rfl) rfl)))
    pss_nilD)))))
abbrev s106 : Stmt := (topS 25)
def N106 : List Str := ["_law_labels", "_law_held", "_law_number", "_law_found", "_law_k"]
abbrev c106 : Tc := ⟨N106, defScope s106, [], [], 0, false⟩
theorem g106_list : isGlob c106 "list" = true := by decide +kernel
theorem v106_1 : slotOf c106 "_law_held" = some 1 := by decide +kernel
theorem v106_3 : slotOf c106 "_law_found" = some 3 := by decide +kernel
theorem k106_3 : (c106.sc.names.lookup ("_law_found" : Str) == some NameKind.local || c106.sc.names.lookup ("_law_found" : Str) == some NameKind.cell) = true := by decide +kernel
theorem g106_range : isGlob c106 "range" = true := by decide +kernel
theorem g106_len : isGlob c106 "len" = true := by decide +kernel
theorem v106_0 : slotOf c106 "_law_labels" = some 0 := by decide +kernel
theorem v106_4 : slotOf c106 "_law_k" = some 4 := by decide +kernel
theorem k106_4 : (c106.sc.names.lookup ("_law_k" : Str) == some NameKind.local || c106.sc.names.lookup ("_law_k" : Str) == some NameKind.cell) = true := by decide +kernel
theorem v106_2 : slotOf c106 "_law_number" = some 2 := by decide +kernel
theorem g106__law_kept : isGlob c106 "_law_kept" = true := by decide +kernel
theorem mF__law_kept {g : Cfg} (D : Gt g lFns lCls lAsk lCI lCS) : (("_law_kept" : Str), 105) ∈ g.fns := mem_of D.fns (by decide +kernel)
theorem k106_2 : (c106.sc.names.lookup ("_law_number" : Str) == some NameKind.local || c106.sc.names.lookup ("_law_number" : Str) == some NameKind.cell) = true := by decide +kernel
theorem b106 {CX : CXT} {P : Program} {wd : World} {K : PySem.W.Frag} {mg : Str → Option Value} {base : Heap} {q : Str} {f : Addr} {cd : Value} {A : Around} {outer : List Env} {s : Shared} {H : Hp} {E : XK} {g : Cfg} {w : SV.W} {k : Nat}
    (G : Gd (cxOf CX P wd K mg base N106 q (defScope s106) f cd A outer s H E) g c106) (T : Fx (cxOf CX P wd K mg base N106 q (defScope s106) f cd A outer s H E) g (WE E) w CX k) (D : Gt g lFns lCls lAsk lCI lCS) :
    PSs (cxOf CX P wd K mg base N106 q (defScope s106) f cd A outer s H E) (defBody s106) (tS g (WE E) false (exSs w none F106.body)) :=
    (pss_consD (s_asg (x_new (x_Blist G T g106_list (a_cons (ev_var G v106_1) pa_nilD rfl) rfl)) (g_name G v106_3 k106_3 rfl) rfl rfl rfl)
    (pss_consD (ps_forE G T (i_rng1 G T g106_range (x_Blen G T g106_len (a_cons (ev_var G v106_0) pa_nilD rfl) rfl) rfl) (g_name G v106_4 k106_4 rfl) (pss_consD (ps_ifD (t_cmp G (x_sub G T (ev_var G v106_3) (ev_var G v106_4) (fun _ _ => rfl) (fun _ _ => rfl)) ev_cnon rfl) (pss_consD (ps_retD (ev_tup (a_cons (x_bin G (by decide) (x_bin G (by decide) (x_slc (ev_var G v106_3) po_noneD (o_some (ev_var G v106_4))) (x_lst (a_cons (ev_var G v106_2) pa_nilD rfl))) (x_slc (ev_var G v106_3) (o_some (x_bin G (by decide) (ev_var G v106_4) ev_cint)) po_noneD)) (a_cons ev_cnon pa_nilD rfl) rfl)))
    pss_nilD) pss_nilD)
    (pss_consD (s_asg (ev_cal G T g106__law_kept (mF__law_kept D) (by decide) (a_cons (x_sub G T (ev_var G v106_0) (ev_var G v106_4) (fun _ _ => rfl) (fun _ _ => rfl)) (a_cons (x_sub G T (ev_var G v106_3) (ev_var G v106_4) (fun _ _ => rfl) (fun _ _ => rfl)) (a_cons (ev_var G v106_2) pa_nilD rfl) rfl) rfl) rfl) (pg_tupD G (pgs_consD (g_sub G (ev_var G v106_3) (ev_var G v106_4) rfl) (pgs_consD (g_name G v106_2 k106_2 rfl) pgs_nilD rfl) rfl) rfl rfl) rfl rfl rfl)
    pss_nilD)) (fun _ => rfl))
    (pss_consD (ps_retD (ev_tup (a_cons (x_frz (ev_var G v106_3)) (a_cons (ev_var G v106_2) pa_nilD rfl) rfl)))
    pss_nilD)))
abbrev s107 : Stmt := (topS 26)
def N107 : List Str := ["_law_labels", "_law_row", "_law_outs", "_law_held", "_law_number", "_law_out"]
abbrev c107 : Tc := ⟨N107, defScope s107, [], [], 0, false⟩
theorem v107_2 : slotOf c107 "_law_outs" = some 2 := by decide +kernel
theorem v107_3 : slotOf c107 "_law_held" = some 3 := by decide +kernel
theorem l107_2 : (c107.sc.names.lookup ("_law_outs" : Str) == some NameKind.local) = true := by decide +kernel
theorem l107_3 : (c107.sc.names.lookup ("_law_held" : Str) == some NameKind.local) = true := by decide +kernel
theorem g107_len : isGlob c107 "len" = true := by decide +kernel
theorem v107_0 : slotOf c107 "_law_labels" = some 0 := by decide +kernel
theorem v107_1 : slotOf c107 "_law_row" = some 1 := by decide +kernel
theorem v107_4 : slotOf c107 "_law_number" = some 4 := by decide +kernel
theorem k107_4 : (c107.sc.names.lookup ("_law_number" : Str) == some NameKind.local || c107.sc.names.lookup ("_law_number" : Str) == some NameKind.cell) = true := by decide +kernel
theorem g107__law_step : isGlob c107 "_law_step" = true := by decide +kernel
theorem mF__law_step {g : Cfg} (D : Gt g lFns lCls lAsk lCI lCS) : (("_law_step" : Str), 106) ∈ g.fns := mem_of D.fns (by decide +kernel)
theorem k107_3 : (c107.sc.names.lookup ("_law_held" : Str) == some NameKind.local || c107.sc.names.lookup ("_law_held" : Str) == some NameKind.cell) = true := by decide +kernel
theorem v107_5 : slotOf c107 "_law_out" = some 5 := by decide +kernel
theorem k107_5 : (c107.sc.names.lookup ("_law_out" : Str) == some NameKind.local || c107.sc.names.lookup ("_law_out" : Str) == some NameKind.cell) = true := by decide +kernel
theorem b107 {CX : CXT} {P : Program} {wd : World} {K : PySem.W.Frag} {mg : Str → Option Value} {base : Heap} {q : Str} {f : Addr} {cd : Value} {A : Around} {outer : List Env} {s : Shared} {H : Hp} {E : XK} {g : Cfg} {w : SV.W} {k : Nat}
    (G : Gd (cxOf CX P wd K mg base N107 q (defScope s107) f cd A outer s H E) g c107) (T : Fx (cxOf CX P wd K mg base N107 q (defScope s107) f cd A outer s H E) g (WE E) w CX k) (D : Gt g lFns lCls lAsk lCI lCS) :
    PSs (cxOf CX P wd K mg base N107 q (defScope s107) f cd A outer s H E) (defBody s107) (tS g (WE E) false (exSs w none F107.body)) :=
    (pss_consD (s_par G v107_2 v107_3 (by decide) l107_2 l107_3 (x_new (x_lst pa_nilD)) (x_bin G (by decide) (x_lst (a_cons ev_cnon pa_nilD rfl)) (x_Blen G T g107_len (a_cons (ev_var G v107_0) pa_nilD rfl) rfl)) rfl rfl rfl)
    (pss_consD (ps_forE G T (i_val G (ev_var G v107_1)) (g_name G v107_4 k107_4 rfl) (pss_consD (s_asg (ev_cal G T g107__law_step (mF__law_step D) (by decide) (a_cons (ev_var G v107_0) (a_cons (ev_var G v107_3) (a_cons (ev_var G v107_4) pa_nilD rfl) rfl) rfl) rfl) (pg_tupD G (pgs_consD (g_name G v107_3 k107_3 rfl) (pgs_consD (g_name G v107_5 k107_5 rfl) pgs_nilD rfl) rfl) rfl rfl) rfl rfl rfl)
    (pss_consD (s_exp (x_Mappend G rfl (ev_var G v107_2) (a_cons (ev_var G v107_5) pa_nilD rfl) rfl (by decide) rfl) rfl)
    pss_nilD)) (fun _ => rfl))
    (pss_consD (ps_retD (ev_tup (a_cons (x_frz (ev_var G v107_2)) (a_cons (ev_var G v107_3) pa_nilD rfl) rfl)))
    pss_nilD)))
abbrev s200 : Stmt := (topS 27)
def N200 : List Str := ["_law_script", "_law_d", "_law_words", "_law_k", "_law_labels", "_law_row", "_law_outs", "_law_at", "_law_rows", "_law_due", "_law_longer", "_law_some", "_law_found", "_law_short", "_law_again", ".0", "_law_word"]
abbrev c200 : Tc := ⟨N200, defScope s200, [], [], 0, false⟩
def F200 : Fn := ⟨1, 17, false, false, [
  .asg (.name 1) (.new (.cal 100 (.cons (.var 0) (.cons (.cst (.int 38)) .nil)))),
  .asg (.name 2) (.lst (.cons (.cst (.str "first")) (.cons (.cst (.str "greater")) (.cons (.cst (.str "last")) (.cons (.cst (.str "less")) .nil))))),
  .asg (.name 4) (.frz (.lc (.sub (.var 2) (.cal 101 (.cons (.var 1) (.cons (.cst (.int 4)) .nil)))) [15, 3] (.name 3) (.rng (.cons (.bin .Add (.cst (.int 1)) (.cal 101 (.cons (.var 1) (.cons (.cst (.int 3)) .nil)))) .nil)) .nil)),
  .asg (.name 5) (.frz (.lc (.bin .Sub (.cal 101 (.cons (.var 1) (.cons (.cst (.int 7)) .nil))) (.cst (.int 3))) [15, 3] (.name 3) (.rng (.cons (.bin .Add (.bin .Add (.bif .len (.cons (.var 4) .nil)) (.cst (.int 1))) (.cal 101 (.cons (.var 1) (.cons (.cst (.int 5)) .nil)))) .nil)) .nil)),
  .asg (.name 6) (.sub (.cal 107 (.cons (.var 4) (.cons (.var 5) .nil))) (.cst (.int 0))),
  .ifs (.cmp .Eq (.cal 101 (.cons (.var 1) (.cons (.cst (.int 4)) .nil))) (.cst (.int 0))) [
    .asg (.name 7) (.cal 101 (.cons (.var 1) (.cons (.bif .len (.cons (.var 6) .nil)) .nil))),
    .asg (.name 6) (.bin .Add (.bin .Add (.slc (.var 6) .none (.some (.var 7))) (.lst (.cons (.ite (.cmp .IsNot (.sub (.var 6) (.var 7)) (.cst .non)) (.bin .Sub (.cal 101 (.cons (.var 1) (.cons (.cst (.int 7)) .nil))) (.cst (.int 3))) (.cst .non)) .nil))) (.slc (.var 6) (.some (.bin .Add (.var 7) (.cst (.int 1)))) .none))] [],
  .par (.cons (.name 8) (.cons (.name 9) .nil)) (.cons (.lst (.cons (.lst .nil) .nil)) (.cons (.cst .non) .nil)),
  .for (.name 3) (.rng (.cons (.bif .len (.cons (.var 4) .nil)) .nil)) [
    .asg (.name 10) (.lst .nil),
    .for (.name 11) (.val (.var 8)) [
      .asg (.name 10) (.bin .Add (.var 10) (.frz (.lc (.bin .Add (.var 11) (.lst (.cons (.var 16) .nil))) [15, 16] (.name 16) (.val (.var 2)) .nil)))],
    .asg (.name 8) (.var 10)],
  .for (.name 11) (.val (.var 8)) [
    .asg (.name 9) (.ite (.and (.cmp .Is (.var 9) (.cst .non)) (.cmp .Eq (.sub (.cal 107 (.cons (.var 11) (.cons (.var 5) .nil))) (.cst (.int 0))) (.var 6))) (.bmt .join (.cst (.str " ")) (.cons (.var 11) .nil)) (.var 9))],
  .asg (.name 12) (.cal 46 (.cons (.var 5) (.cons (.var 6) .nil))),
  .ifs (.or (.cmp .NotEq (.cmp .Is (.var 12) (.cst .non)) (.cmp .Is (.var 9) (.cst .non))) (.and (.cmp .IsNot (.var 12) (.cst .non)) (.cmp .NotEq (.prp (.var 12) 11) (.var 9)))) [
    .ret (.cst (.bl false))] [],
  .ifs (.cmp .IsNot (.var 12) (.cst .non)) [
    .ifs (.or (.cmp .NotEq (.sub (.app (.var 12) (.cons (.var 5) .nil)) (.cst (.int 0))) (.var 6)) (.cmp .NotEq (.bif .len (.cons (.var 12) .nil)) (.bif .len (.cons (.var 4) .nil)))) [
      .ret (.cst (.bl false))] [],
    .asg (.name 13) (.slc (.var 5) .none (.some (.bin .Add (.bif .len (.cons (.var 4) .nil)) (.cst (.int 1))))),
    .asg (.name 14) (.cal 46 (.cons (.var 13) (.cons (.slc (.var 6) .none (.some (.bin .Add (.bif .len (.cons (.var 4) .nil)) (.cst (.int 1))))) .nil))),
    .ret (.and (.cmp .IsNot (.var 14) (.cst .non)) (.cmp .LtE (.prp (.var 14) 11) (.prp (.var 12) 11)))] [],
  .ret (.and (.cmp .Is (.cal 46 (.cons (.var 5) (.cons (.slc (.var 6) .none (.some (.neg (.cst (.int 1))))) .nil))) (.cst .non)) (.cmp .Is (.cal 46 (.cons (.var 5) (.cons (.bin .Add (.var 6) (.lst (.cons (.cst .non) .nil))) .nil))) (.cst .non)))]⟩
theorem g200__law_random : isGlob c200 "_law_random" = true := by decide +kernel
theorem mF__law_random {g : Cfg} (D : Gt g lFns lCls lAsk lCI lCS) : (("_law_random" : Str), 100) ∈ g.fns := mem_of D.fns (by decide +kernel)
theorem v200_0 : slotOf c200 "_law_script" = some 0 := by decide +kernel
theorem v200_1 : slotOf c200 "_law_d" = some 1 := by decide +kernel
theorem k200_1 : (c200.sc.names.lookup ("_law_d" : Str) == some NameKind.local || c200.sc.names.lookup ("_law_d" : Str) == some NameKind.cell) = true := by decide +kernel
theorem v200_2 : slotOf c200 "_law_words" = some 2 := by decide +kernel
theorem k200_2 : (c200.sc.names.lookup ("_law_words" : Str) == some NameKind.local || c200.sc.names.lookup ("_law_words" : Str) == some NameKind.cell) = true := by decide +kernel
theorem v200_4 : slotOf c200 "_law_labels" = some 4 := by decide +kernel
theorem l200_4 : (c200.sc.names.lookup ("_law_labels" : Str) == some NameKind.local) = true := by decide +kernel
theorem g200_range : isGlob c200 "range" = true := by decide +kernel
theorem g200__law_below : isGlob c200 "_law_below" = true := by decide +kernel
theorem mF__law_below {g : Cfg} (D : Gt g lFns lCls lAsk lCI lCS) : (("_law_below" : Str), 101) ∈ g.fns := mem_of D.fns (by decide +kernel)
theorem v200_5 : slotOf c200 "_law_row" = some 5 := by decide +kernel
theorem l200_5 : (c200.sc.names.lookup ("_law_row" : Str) == some NameKind.local) = true := by decide +kernel
theorem g200_len : isGlob c200 "len" = true := by decide +kernel
theorem g200__law_run : isGlob c200 "_law_run" = true := by decide +kernel
theorem mF__law_run {g : Cfg} (D : Gt g lFns lCls lAsk lCI lCS) : (("_law_run" : Str), 107) ∈ g.fns := mem_of D.fns (by decide +kernel)
theorem v200_6 : slotOf c200 "_law_outs" = some 6 := by decide +kernel
theorem k200_6 : (c200.sc.names.lookup ("_law_outs" : Str) == some NameKind.local || c200.sc.names.lookup ("_law_outs" : Str) == some NameKind.cell) = true := by decide +kernel
theorem v200_7 : slotOf c200 "_law_at" = some 7 := by decide +kernel
theorem k200_7 : (c200.sc.names.lookup ("_law_at" : Str) == some NameKind.local || c200.sc.names.lookup ("_law_at" : Str) == some NameKind.cell) = true := by decide +kernel
theorem v200_8 : slotOf c200 "_law_rows" = some 8 := by decide +kernel
theorem v200_9 : slotOf c200 "_law_due" = some 9 := by decide +kernel
theorem l200_8 : (c200.sc.names.lookup ("_law_rows" : Str) == some NameKind.local) = true := by decide +kernel
theorem l200_9 : (c200.sc.names.lookup ("_law_due" : Str) == some NameKind.local) = true := by decide +kernel
theorem v200_3 : slotOf c200 "_law_k" = some 3 := by decide +kernel
theorem k200_3 : (c200.sc.names.lookup ("_law_k" : Str) == some NameKind.local || c200.sc.names.lookup ("_law_k" : Str) == some NameKind.cell) = true := by decide +kernel
theorem v200_10 : slotOf c200 "_law_longer" = some 10 := by decide +kernel
theorem k200_10 : (c200.sc.names.lookup ("_law_longer" : Str) == some NameKind.local || c200.sc.names.lookup ("_law_longer" : Str) == some NameKind.cell) = true := by decide +kernel
theorem v200_11 : slotOf c200 "_law_some" = some 11 := by decide +kernel
theorem k200_11 : (c200.sc.names.lookup ("_law_some" : Str) == some NameKind.local || c200.sc.names.lookup ("_law_some" : Str) == some NameKind.cell) = true := by decide +kernel
theorem k200_8 : (c200.sc.names.lookup ("_law_rows" : Str) == some NameKind.local || c200.sc.names.lookup ("_law_rows" : Str) == some NameKind.cell) = true := by decide +kernel
theorem k200_9 : (c200.sc.names.lookup ("_law_due" : Str) == some NameKind.local || c200.sc.names.lookup ("_law_due" : Str) == some NameKind.cell) = true := by decide +kernel
theorem g200_chain_for : isGlob c200 "chain_for" = true := by decide +kernel
theorem mF_chain_for {g : Cfg} (D : Gt g lFns lCls lAsk lCI lCS) : (("chain_for" : Str), 46) ∈ g.fns := mem_of D.fns (by decide +kernel)
theorem v200_12 : slotOf c200 "_law_found" = some 12 := by decide +kernel
theorem k200_12 : (c200.sc.names.lookup ("_law_found" : Str) == some NameKind.local || c200.sc.names.lookup ("_law_found" : Str) == some NameKind.cell) = true := by decide +kernel
theorem v200_13 : slotOf c200 "_law_short" = some 13 := by decide +kernel
theorem k200_13 : (c200.sc.names.lookup ("_law_short" : Str) == some NameKind.local || c200.sc.names.lookup ("_law_short" : Str) == some NameKind.cell) = true := by decide +kernel
theorem v200_14 : slotOf c200 "_law_again" = some 14 := by decide +kernel
theorem k200_14 : (c200.sc.names.lookup ("_law_again" : Str) == some NameKind.local || c200.sc.names.lookup ("_law_again" : Str) == some NameKind.cell) = true := by decide +kernel
theorem b200 {CX : CXT} {P : Program} {wd : World} {K : PySem.W.Frag} {mg : Str → Option Value} {base : Heap} {q : Str} {f : Addr} {cd : Value} {A : Around} {outer : List Env} {s : Shared} {H : Hp} {E : XK} {g : Cfg} {w : SV.W} {k : Nat}
    (G : Gd (cxOf CX P wd K mg base N200 q (defScope s200) f cd A outer s H E) g c200) (T : Fx (cxOf CX P wd K mg base N200 q (defScope s200) f cd A outer s H E) g (WE E) w CX k) (D : Gt g lFns lCls lAsk lCI lCS) :
    PSs (cxOf CX P wd K mg base N200 q (defScope s200) f cd A outer s H E) (defBody s200) (tS g (WE E) false (exSs w none F200.body)) :=
    (pss_consD (s_asg (x_new (ev_cal G T g200__law_random (mF__law_random D) (by decide) (a_cons (ev_var G v200_0) (a_cons ev_cint pa_nilD rfl) rfl) rfl)) (g_name G v200_1 k200_1 rfl) rfl rfl rfl)
    (pss_consD (s_asg (x_lst (a_cons ev_cstr (a_cons ev_cstr (a_cons ev_cstr (a_cons ev_cstr pa_nilD rfl) rfl) rfl) rfl)) (g_name G v200_2 k200_2 rfl) rfl rfl rfl)
    (pss_consD (ps_setLcA G T v200_4 l200_4 (sw_true rfl (loc_G G l200_4) rfl (by decide +kernel)) (by decide +kernel) (by decide +kernel) (i_rng1 G T g200_range (x_bin G (by decide) ev_cint (ev_cal G T g200__law_below (mF__law_below D) (by decide) (a_cons (ev_var G v200_1) (a_cons ev_cint pa_nilD rfl) rfl) rfl)) rfl) (fun X1 G1 T1 h1 => (w_name G1 (by decide +kernel) (by decide +kernel) (by decide +kernel))) (fun X1 G1 T1 h1 => pts_nilD) (fun X1 G1 T1 h1 => (x_sub G1 T1 (ev_var G1 (by decide +kernel)) (ev_cal G1 T1 (by decide +kernel) (mF__law_below D) (by decide) (a_cons (ev_var G1 (by decide +kernel)) (a_cons ev_cint pa_nilD rfl) rfl) rfl) (fun _ _ => rfl) (fun _ _ => rfl))) (fun _ => rfl))
    (pss_consD (ps_setLcA G T v200_5 l200_5 (sw_true rfl (loc_G G l200_5) rfl (by decide +kernel)) (by decide +kernel) (by decide +kernel) (i_rng1 G T g200_range (x_bin G (by decide) (x_bin G (by decide) (x_Blen G T g200_len (a_cons (ev_var G v200_4) pa_nilD rfl) rfl) ev_cint) (ev_cal G T g200__law_below (mF__law_below D) (by decide) (a_cons (ev_var G v200_1) (a_cons ev_cint pa_nilD rfl) rfl) rfl)) rfl) (fun X1 G1 T1 h1 => (w_name G1 (by decide +kernel) (by decide +kernel) (by decide +kernel))) (fun X1 G1 T1 h1 => pts_nilD) (fun X1 G1 T1 h1 => (x_bin G1 (by decide) (ev_cal G1 T1 (by decide +kernel) (mF__law_below D) (by decide) (a_cons (ev_var G1 (by decide +kernel)) (a_cons ev_cint pa_nilD rfl) rfl) rfl) ev_cint)) (fun _ => rfl))
    (pss_consD (s_asg (x_sub G T (ev_cal G T g200__law_run (mF__law_run D) (by decide) (a_cons (ev_var G v200_4) (a_cons (ev_var G v200_5) pa_nilD rfl) rfl) rfl) ev_cint (fun _ _ => rfl) (fun _ _ => rfl)) (g_name G v200_6 k200_6 rfl) rfl rfl rfl)
    (pss_consD (ps_ifD (t_cmp G (ev_cal G T g200__law_below (mF__law_below D) (by decide) (a_cons (ev_var G v200_1) (a_cons ev_cint pa_nilD rfl) rfl) rfl) ev_cint rfl) (pss_consD (s_asg (ev_cal G T g200__law_below (mF__law_below D) (by decide) (a_cons (ev_var G v200_1) (a_cons (x_Blen G T g200_len (a_cons (ev_var G v200_6) pa_nilD rfl) rfl) pa_nilD rfl) rfl) rfl) (g_name G v200_7 k200_7 rfl) rfl rfl rfl)
    (pss_consD (s_asg (x_bin G (by decide) (x_bin G (by decide) (x_slc (ev_var G v200_6) po_noneD (o_some (ev_var G v200_7))) (x_lst (a_cons (ev_ite2 (t_cmp G (x_sub G T (ev_var G v200_6) (ev_var G v200_7) (fun _ _ => rfl) (fun _ _ => rfl)) ev_cnon rfl) (x_bin G (by decide) (ev_cal G T g200__law_below (mF__law_below D) (by decide) (a_cons (ev_var G v200_1) (a_cons ev_cint pa_nilD rfl) rfl) rfl) ev_cint) ev_cnon) pa_nilD rfl))) (x_slc (ev_var G v200_6) (o_some (x_bin G (by decide) (ev_var G v200_7) ev_cint)) po_noneD)) (g_name G v200_6 k200_6 rfl) rfl rfl rfl)
    pss_nilD)) pss_nilD)
    (pss_consD (s_par G v200_8 v200_9 (by decide) l200_8 l200_9 (x_lst (a_cons (x_lst pa_nilD) pa_nilD rfl)) ev_cnon rfl rfl rfl)
    (pss_consD (ps_forE G T (i_rng1 G T g200_range (x_Blen G T g200_len (a_cons (ev_var G v200_4) pa_nilD rfl) rfl) rfl) (g_name G v200_3 k200_3 rfl) (pss_consD (s_asg (x_lst pa_nilD) (g_name G v200_10 k200_10 rfl) rfl rfl rfl)
    (pss_consD (ps_forE G T (i_val G (ev_var G v200_8)) (g_name G v200_11 k200_11 rfl) (pss_consD (s_asg (x_bin G (by decide) (ev_var G v200_10) (x_frz (ev_lcA G T (by decide +kernel) (by decide +kernel) (i_val G (ev_var G v200_2)) (fun X1 G1 T1 h1 => (w_name G1 (by decide +kernel) (by decide +kernel) (by decide +kernel))) (fun X1 G1 T1 h1 => pts_nilD) (fun X1 G1 T1 h1 => (x_bin G1 (by decide) (ev_var G1 (by decide +kernel)) (x_lst (a_cons (ev_var G1 (by decide +kernel)) pa_nilD rfl)))) (fun _ => rfl)))) (g_name G v200_10 k200_10 rfl) rfl rfl rfl)
    pss_nilD) (fun _ => rfl))
    (pss_consD (s_asg (ev_var G v200_10) (g_name G v200_8 k200_8 rfl) rfl rfl rfl)
    pss_nilD))) (fun _ => rfl))
    (pss_consD (ps_forE G T (i_val G (ev_var G v200_8)) (g_name G v200_11 k200_11 rfl) (pss_consD (s_asg (ev_ite2 (t_and (t_cmp G (ev_var G v200_9) ev_cnon rfl) (w_and1 (t_cmp G (x_sub G T (ev_cal G T g200__law_run (mF__law_run D) (by decide) (a_cons (ev_var G v200_11) (a_cons (ev_var G v200_5) pa_nilD rfl) rfl) rfl) ev_cint (fun _ _ => rfl) (fun _ _ => rfl)) (ev_var G v200_6) rfl))) (x_Mjoin G rfl ev_cstr (a_cons (ev_var G v200_11) pa_nilD rfl) rfl (by decide) rfl) (ev_var G v200_9)) (g_name G v200_9 k200_9 rfl) rfl rfl rfl)
    pss_nilD) (fun _ => rfl))
    (pss_consD (s_asg (ev_cal G T g200_chain_for (mF_chain_for D) (by decide) (a_cons (ev_var G v200_5) (a_cons (ev_var G v200_6) pa_nilD rfl) rfl) rfl) (g_name G v200_12 k200_12 rfl) rfl rfl rfl)
    (pss_consD (ps_ifD (t_or (t_cmp G (x_cmp G (ev_var G v200_12) ev_cnon rfl) (x_cmp G (ev_var G v200_9) ev_cnon rfl) rfl) (w_or1 (t_and (t_cmp G (ev_var G v200_12) ev_cnon rfl) (w_and1 (t_cmp G (x_prp T rfl (by decide) (by decide) rfl (ev_var G v200_12)) (ev_var G v200_9) rfl))))) (pss_consD (ps_retD ev_cbl)
    pss_nilD) pss_nilD)
    (pss_consD (ps_ifD (t_cmp G (ev_var G v200_12) ev_cnon rfl) (pss_consD (ps_ifD (t_or (t_cmp G (x_sub G T (x_app T (ev_var G v200_12) (a_cons (ev_var G v200_5) pa_nilD rfl) rfl rfl) ev_cint (fun _ _ => rfl) (fun _ _ => rfl)) (ev_var G v200_6) rfl) (w_or1 (t_cmp G (x_Blen G T g200_len (a_cons (ev_var G v200_12) pa_nilD rfl) rfl) (x_Blen G T g200_len (a_cons (ev_var G v200_4) pa_nilD rfl) rfl) rfl))) (pss_consD (ps_retD ev_cbl)
    pss_nilD) pss_nilD)
    (pss_consD (s_asg (x_slc (ev_var G v200_5) po_noneD (o_some (x_bin G (by decide) (x_Blen G T g200_len (a_cons (ev_var G v200_4) pa_nilD rfl) rfl) ev_cint))) (g_name G v200_13 k200_13 rfl) rfl rfl rfl)
    (pss_consD (s_asg (ev_cal G T g200_chain_for (mF_chain_for D) (by decide) (a_cons (ev_var G v200_13) (a_cons (x_slc (ev_var G v200_6) po_noneD (o_some (x_bin G (by decide) (x_Blen G T g200_len (a_cons (ev_var G v200_4) pa_nilD rfl) rfl) ev_cint))) pa_nilD rfl) rfl) rfl) (g_name G v200_14 k200_14 rfl) rfl rfl rfl)
    (pss_consD (ps_retD (x_and (x_cmp G (ev_var G v200_14) ev_cnon rfl) (x_b1 (x_cmp G (x_prp T rfl (by decide) (by decide) rfl (ev_var G v200_14)) (x_prp T rfl (by decide) (by decide) rfl (ev_var G v200_12)) rfl))))
    pss_nilD)))) pss_nilD)
    (pss_consD (ps_retD (x_and (x_cmp G (ev_cal G T g200_chain_for (mF_chain_for D) (by decide) (a_cons (ev_var G v200_5) (a_cons (x_slc (ev_var G v200_6) po_noneD (o_some (x_neg T ev_cint))) pa_nilD rfl) rfl) rfl) ev_cnon rfl) (x_b1 (x_cmp G (ev_cal G T g200_chain_for (mF_chain_for D) (by decide) (a_cons (ev_var G v200_5) (a_cons (x_bin G (by decide) (ev_var G v200_6) (x_lst (a_cons ev_cnon pa_nilD rfl))) pa_nilD rfl) rfl) rfl) ev_cnon rfl))))
    pss_nilD)))))))))))))
end SV
set_option linter.all false
set_option Elab.async false
set_option maxRecDepth 100000
set_option maxHeartbeats 4000000
namespace SV
open PySem PySem.Spec PyProof.Rows L2
def lFn : Nat → Option Fn
  | 0 => some F0
  | 2 => some F2
  | 3 => some F3
  | 4 => some F4
  | 7 => some F7
  | 8 => some F8
  | 10 => some F10
  | 12 => some F12
  | 19 => some F19
  | 20 => some F20
  | 22 => some F22
  | 23 => some F23
  | 24 => some F24
  | 25 => some F25
  | 29 => some F29
  | 46 => some F46
  | 100 => some F100
  | 101 => some F101
  | 105 => some F105
  | 106 => some F106
  | 107 => some F107
  | _ => none
def lMeth : Nat → Nat → Option Nat
  | 0, 0 => some 4
  | 0, 10 => some 7
  | 1, 0 => some 8
  | 1, 10 => some 7
  | 2, 0 => some 10
  | 2, 10 => some 7
  | 3, 0 => some 12
  | 3, 10 => some 7
  | 5, 0 => some 29
  | 5, 3 => some 24
  | 5, 4 => some 25
  | 5, 11 => some 22
  | 5, 12 => some 23
  | _, _ => none
def lInit : Nat → Option Nat
  | 0 => some 3
  | 1 => some 3
  | 2 => some 3
  | 3 => some 3
  | 5 => some 20
  | _ => none
def lKcon : Nat → Nat → Option D
  | 0, 0 => some (.str "first")
  | 1, 0 => some (.str "last")
  | 2, 0 => some (.str "less")
  | 3, 0 => some (.str "greater")
  | _, _ => none
def lP : Pg := ⟨lFn, lMeth, lInit, lKcon, fun _ => none, 5000⟩
theorem sc0 : FnScope N0 ["value", "low", "high"] (defScope s0) := ⟨rfl, rfl, rfl, by decide +kernel, rfl, by decide +kernel, by decide +kernel⟩
theorem bd0 : BindOk "is_int_in" "is_int_in" s0 ["value", "low", "high"] := fun _ _ _ _ _ _ us hl => match us, hl with | [_, _, _], _ => rfl
theorem sc2 : FnScope N2 ["row", "most"] (defScope s2) := ⟨rfl, rfl, rfl, by decide +kernel, rfl, by decide +kernel, by decide +kernel⟩
theorem bd2 : BindOk "check_row" "check_row" s2 ["row", "most"] := fun _ _ _ _ _ _ us hl => match us, hl with | [_, _], _ => rfl
theorem sc3 : FnScope N3 ["self"] (defScope s3) := ⟨rfl, rfl, rfl, by decide +kernel, rfl, by decide +kernel, by decide +kernel⟩
theorem bd3 : BindOk "__init__" "Cell.__init__" s3 ["self"] := fun _ _ _ _ _ _ us hl => match us, hl with | [_], _ => rfl
theorem sc4 : FnScope N4 ["self", "held", "came"] (defScope s4) := ⟨rfl, rfl, rfl, by decide +kernel, rfl, by decide +kernel, by decide +kernel⟩
theorem bd4 : BindOk "__call__" "Cell.__call__" s4 ["self", "held", "came"] := fun _ _ _ _ _ _ us hl => match us, hl with | [_, _, _], _ => rfl
theorem sc7 : FnScope N7 ["self"] (defScope s7) := ⟨rfl, rfl, rfl, by decide +kernel, rfl, by decide +kernel, by decide +kernel⟩
theorem bd7 : BindOk "label" "Cell.label" s7 ["self"] := fun _ _ _ _ _ _ us hl => match us, hl with | [_], _ => rfl
theorem sc8 : FnScope N8 ["self", "held", "came"] (defScope s8) := ⟨rfl, rfl, rfl, by decide +kernel, rfl, by decide +kernel, by decide +kernel⟩
theorem bd8 : BindOk "__call__" "Last.__call__" s8 ["self", "held", "came"] := fun _ _ _ _ _ _ us hl => match us, hl with | [_, _, _], _ => rfl
theorem sc10 : FnScope N10 ["self", "held", "came"] (defScope s10) := ⟨rfl, rfl, rfl, by decide +kernel, rfl, by decide +kernel, by decide +kernel⟩
theorem bd10 : BindOk "__call__" "Less.__call__" s10 ["self", "held", "came"] := fun _ _ _ _ _ _ us hl => match us, hl with | [_, _, _], _ => rfl
theorem sc12 : FnScope N12 ["self", "held", "came"] (defScope s12) := ⟨rfl, rfl, rfl, by decide +kernel, rfl, by decide +kernel, by decide +kernel⟩
theorem bd12 : BindOk "__call__" "Greater.__call__" s12 ["self", "held", "came"] := fun _ _ _ _ _ _ us hl => match us, hl with | [_, _, _], _ => rfl
theorem sc19 : FnScope N19 ["cells", "held", "number"] (defScope s19) := ⟨rfl, rfl, rfl, by decide +kernel, rfl, by decide +kernel, by decide +kernel⟩
theorem bd19 : BindOk "passed_on" "passed_on" s19 ["cells", "held", "number"] := fun _ _ _ _ _ _ us hl => match us, hl with | [_, _, _], _ => rfl
theorem sc20 : FnScope N20 ["self", "cells"] (defScope s20) := ⟨rfl, rfl, rfl, by decide +kernel, rfl, by decide +kernel, by decide +kernel⟩
theorem bd20 : BindOkS "__init__" "Chain.__init__" s20 ["self"] "cells" := fun kV dc pm an cd ct => StX.bind_star1 (B := fun us => bindArgs (PySem.W.fnOf "__init__" "Chain.__init__" (defArgs s20) (defBody s20) (defScope s20) .none kV dc pm an cd ct) ⟨us, []⟩) (fun _ => rfl) (fun _ _ _ => rfl)
theorem sc22 : FnScope N22 ["self"] (defScope s22) := ⟨rfl, rfl, rfl, by decide +kernel, rfl, by decide +kernel, by decide +kernel⟩
theorem bd22 : BindOk "text" "Chain.text" s22 ["self"] := fun _ _ _ _ _ _ us hl => match us, hl with | [_], _ => rfl
theorem sc23 : FnScope N23 ["self"] (defScope s23) := ⟨rfl, rfl, rfl, by decide +kernel, rfl, by decide +kernel, by decide +kernel⟩
theorem bd23 : BindOk "empty" "Chain.empty" s23 ["self"] := fun _ _ _ _ _ _ us hl => match us, hl with | [_], _ => rfl
theorem sc24 : FnScope N24 ["self"] (defScope s24) := ⟨rfl, rfl, rfl, by decide +kernel, rfl, by decide +kernel, by decide +kernel⟩
theorem bd24 : BindOk "__len__" "Chain.__len__" s24 ["self"] := fun _ _ _ _ _ _ us hl => match us, hl with | [_], _ => rfl
theorem sc25 : FnScope N25 ["self", "index"] (defScope s25) := ⟨rfl, rfl, rfl, by decide +kernel, rfl, by decide +kernel, by decide +kernel⟩
theorem bd25 : BindOk "__getitem__" "Chain.__getitem__" s25 ["self", "index"] := fun _ _ _ _ _ _ us hl => match us, hl with | [_, _], _ => rfl
theorem sc29 : FnScope N29 ["self", "row"] (defScope s29) := ⟨rfl, rfl, rfl, by decide +kernel, rfl, by decide +kernel, by decide +kernel⟩
theorem bd29 : BindOk "__call__" "Chain.__call__" s29 ["self", "row"] := fun _ _ _ _ _ _ us hl => match us, hl with | [_, _], _ => rfl
theorem sc46 : FnScope N46 ["row", "outs"] (defScope s46) := ⟨rfl, rfl, rfl, by decide +kernel, rfl, by decide +kernel, by decide +kernel⟩
theorem bd46 : BindOk "chain_for" "chain_for" s46 ["row", "outs"] := fun _ _ _ _ _ _ us hl => match us, hl with | [_, _], _ => rfl
theorem sc100 : FnScope N100 ["_law_script", "_law_salt"] (defScope s100) := ⟨rfl, rfl, rfl, by decide +kernel, rfl, by decide +kernel, by decide +kernel⟩
theorem bd100 : BindOk "_law_random" "_law_random" s100 ["_law_script", "_law_salt"] := fun _ _ _ _ _ _ us hl => match us, hl with | [_, _], _ => rfl
theorem sc101 : FnScope N101 ["_law_d", "_law_limit"] (defScope s101) := ⟨rfl, rfl, rfl, by decide +kernel, rfl, by decide +kernel, by decide +kernel⟩
theorem bd101 : BindOk "_law_below" "_law_below" s101 ["_law_d", "_law_limit"] := fun _ _ _ _ _ _ us hl => match us, hl with | [_, _], _ => rfl
theorem sc105 : FnScope N105 ["_law_label", "_law_held", "_law_came"] (defScope s105) := ⟨rfl, rfl, rfl, by decide +kernel, rfl, by decide +kernel, by decide +kernel⟩
theorem bd105 : BindOk "_law_kept" "_law_kept" s105 ["_law_label", "_law_held", "_law_came"] := fun _ _ _ _ _ _ us hl => match us, hl with | [_, _, _], _ => rfl
theorem sc106 : FnScope N106 ["_law_labels", "_law_held", "_law_number"] (defScope s106) := ⟨rfl, rfl, rfl, by decide +kernel, rfl, by decide +kernel, by decide +kernel⟩
theorem bd106 : BindOk "_law_step" "_law_step" s106 ["_law_labels", "_law_held", "_law_number"] := fun _ _ _ _ _ _ us hl => match us, hl with | [_, _, _], _ => rfl
theorem sc107 : FnScope N107 ["_law_labels", "_law_row"] (defScope s107) := ⟨rfl, rfl, rfl, by decide +kernel, rfl, by decide +kernel, by decide +kernel⟩
theorem bd107 : BindOk "_law_run" "_law_run" s107 ["_law_labels", "_law_row"] := fun _ _ _ _ _ _ us hl => match us, hl with | [_, _], _ => rfl
theorem sc200 : FnScope N200 ["_law_script"] (defScope s200) := ⟨rfl, rfl, rfl, by decide +kernel, rfl, by decide +kernel, by decide +kernel⟩
theorem bd200 : BindOk "law" "law" s200 ["_law_script"] := fun _ _ _ _ _ _ us hl => match us, hl with | [_], _ => rfl
theorem lStep {P : Program} {wd : World} {K : PySem.W.Frag} {mg : Str → Option Value} {base : Heap} {g : Cfg} (hP : g.P = P) (hw : g.w = wd) (hK : g.K = K) (D : Gt g lFns lCls lAsk lCI lCS) (tx : Tx K mg g lP.meth lP.init lP.kcon)
    (F0 : DefIn K "is_int_in" "is_int_in" s0 (g.aF 0))
    (F2 : DefIn K "check_row" "check_row" s2 (g.aF 2))
    (F3 : DefIn K "__init__" "Cell.__init__" s3 (g.aF 3))
    (F4 : DefIn K "__call__" "Cell.__call__" s4 (g.aF 4))
    (F7 : DefIn K "label" "Cell.label" s7 (g.aF 7))
    (F8 : DefIn K "__call__" "Last.__call__" s8 (g.aF 8))
    (F10 : DefIn K "__call__" "Less.__call__" s10 (g.aF 10))
    (F12 : DefIn K "__call__" "Greater.__call__" s12 (g.aF 12))
    (F19 : DefIn K "passed_on" "passed_on" s19 (g.aF 19))
    (F20 : DefIn K "__init__" "Chain.__init__" s20 (g.aF 20))
    (F22 : DefIn K "text" "Chain.text" s22 (g.aF 22))
    (F23 : DefIn K "empty" "Chain.empty" s23 (g.aF 23))
    (F24 : DefIn K "__len__" "Chain.__len__" s24 (g.aF 24))
    (F25 : DefIn K "__getitem__" "Chain.__getitem__" s25 (g.aF 25))
    (F29 : DefIn K "__call__" "Chain.__call__" s29 (g.aF 29))
    (F46 : DefIn K "chain_for" "chain_for" s46 (g.aF 46))
    (F100 : DefIn K "_law_random" "_law_random" s100 (g.aF 100))
    (F101 : DefIn K "_law_below" "_law_below" s101 (g.aF 101))
    (F105 : DefIn K "_law_kept" "_law_kept" s105 (g.aF 105))
    (F106 : DefIn K "_law_step" "_law_step" s106 (g.aF 106))
    (F107 : DefIn K "_law_run" "_law_run" s107 (g.aF 107)) : StepOk P wd K mg base g lP := by
  intro w k hm hi hk fns i fn h
  have h : lFn i = some fn := h
  unfold lFn at h
  split at h
  · cases h; exact step_D (p := lP) F0 hP hw hK tx hm hi hk fns sc0 rfl rfl rfl bd0 (fun _ _ _ _ _ _ _ _ G T => b0 G T D)
  · cases h; exact step_D (p := lP) F2 hP hw hK tx hm hi hk fns sc2 rfl rfl rfl bd2 (fun _ _ _ _ _ _ _ _ G T => b2 G T D)
  · cases h; exact step_D (p := lP) F3 hP hw hK tx hm hi hk fns sc3 rfl rfl rfl bd3 (fun _ _ _ _ _ _ _ _ G T => b3 G T D)
  · cases h; exact step_D (p := lP) F4 hP hw hK tx hm hi hk fns sc4 rfl rfl rfl bd4 (fun _ _ _ _ _ _ _ _ G T => b4 G T D)
  · cases h; exact step_D (p := lP) F7 hP hw hK tx hm hi hk fns sc7 rfl rfl rfl bd7 (fun _ _ _ _ _ _ _ _ G T => b7 G T D)
  · cases h; exact step_D (p := lP) F8 hP hw hK tx hm hi hk fns sc8 rfl rfl rfl bd8 (fun _ _ _ _ _ _ _ _ G T => b8 G T D)
  · cases h; exact step_D (p := lP) F10 hP hw hK tx hm hi hk fns sc10 rfl rfl rfl bd10 (fun _ _ _ _ _ _ _ _ G T => b10 G T D)
  · cases h; exact step_D (p := lP) F12 hP hw hK tx hm hi hk fns sc12 rfl rfl rfl bd12 (fun _ _ _ _ _ _ _ _ G T => b12 G T D)
  · cases h; exact step_D (p := lP) F19 hP hw hK tx hm hi hk fns sc19 rfl rfl rfl bd19 (fun _ _ _ _ _ _ _ _ G T => b19 G T D)
  · cases h; exact step_DS (p := lP) F20 hP hw hK tx hm hi hk fns sc20 rfl rfl rfl bd20 (fun _ _ _ _ _ _ _ _ G T => b20 G T D)
  · cases h; exact step_D (p := lP) F22 hP hw hK tx hm hi hk fns sc22 rfl rfl rfl bd22 (fun _ _ _ _ _ _ _ _ G T => b22 G T D)
  · cases h; exact step_D (p := lP) F23 hP hw hK tx hm hi hk fns sc23 rfl rfl rfl bd23 (fun _ _ _ _ _ _ _ _ G T => b23 G T D)
  · cases h; exact step_D (p := lP) F24 hP hw hK tx hm hi hk fns sc24 rfl rfl rfl bd24 (fun _ _ _ _ _ _ _ _ G T => b24 G T D)
  · cases h; exact step_D (p := lP) F25 hP hw hK tx hm hi hk fns sc25 rfl rfl rfl bd25 (fun _ _ _ _ _ _ _ _ G T => b25 G T D)
  · cases h; exact step_D (p := lP) F29 hP hw hK tx hm hi hk fns sc29 rfl rfl rfl bd29 (fun _ _ _ _ _ _ _ _ G T => b29 G T D)
  · cases h; exact step_D (p := lP) F46 hP hw hK tx hm hi hk fns sc46 rfl rfl rfl bd46 (fun _ _ _ _ _ _ _ _ G T => b46 G T D)
  · cases h; exact step_D (p := lP) F100 hP hw hK tx hm hi hk fns sc100 rfl rfl rfl bd100 (fun _ _ _ _ _ _ _ _ G T => b100 G T D)
  · cases h; exact step_D (p := lP) F101 hP hw hK tx hm hi hk fns sc101 rfl rfl rfl bd101 (fun _ _ _ _ _ _ _ _ G T => b101 G T D)
  · cases h; exact step_D (p := lP) F105 hP hw hK tx hm hi hk fns sc105 rfl rfl rfl bd105 (fun _ _ _ _ _ _ _ _ G T => b105 G T D)
  · cases h; exact step_D (p := lP) F106 hP hw hK tx hm hi hk fns sc106 rfl rfl rfl bd106 (fun _ _ _ _ _ _ _ _ G T => b106 G T D)
  · cases h; exact step_D (p := lP) F107 hP hw hK tx hm hi hk fns sc107 rfl rfl rfl bd107 (fun _ _ _ _ _ _ _ _ G T => b107 G T D)
  · cases h
theorem all_mk {l : PySem.W.OpenLaw} {w : World} {K : PySem.W.Frag} {h : Heap} {mg : Str → Option Value} {fa : Addr} (X : K.In h) (G : h.Ns mainGlobals mg) (hfa : mg "law" = some (.ref fa))
    {C0 C1 C2 C3 C5 ff0 ff2 ff3 ff4 ff7 p7 ff8 ff10 ff12 ff19 ff20 ff22 p22 ff23 p23 ff24 ff25 ff29 ff46 ff100 ff101 ff105 ff106 ff107 ff200 : Addr} {od0 an0 od2 an2 od3 an3 od4 an4 od7 an7 od8 an8 od10 an10 od12 an12 od19 an19 od20 an20 od22 an22 od23 an23 od24 an24 od25 an25 od29 an29 od46 an46 od100 an100 od101 an101 od105 an105 od106 an106 od107 an107 od200 an200 : Option Addr} {sl0 sl2 sl3 sl4 sl7 sl8 sl10 sl12 sl19 sl20 sl22 sl23 sl24 sl25 sl29 sl46 sl100 sl101 sl105 sl106 sl107 sl200 : Array (Option Value)} {oc0 kV0 dc0 pm0 cd0 ct0 oc2 kV2 dc2 pm2 cd2 ct2 oc3 kV3 dc3 pm3 cd3 ct3 oc4 kV4 dc4 pm4 cd4 ct4 oc7 kV7 dc7 pm7 cd7 ct7 oc8 kV8 dc8 pm8 cd8 ct8 oc10 kV10 dc10 pm10 cd10 ct10 oc12 kV12 dc12 pm12 cd12 ct12 oc19 kV19 dc19 pm19 cd19 ct19 oc20 kV20 dc20 pm20 cd20 ct20 oc22 kV22 dc22 pm22 cd22 ct22 oc23 kV23 dc23 pm23 cd23 ct23 oc24 kV24 dc24 pm24 cd24 ct24 oc25 kV25 dc25 pm25 cd25 ct25 oc29 kV29 dc29 pm29 cd29 ct29 oc46 kV46 dc46 pm46 cd46 ct46 oc100 kV100 dc100 pm100 cd100 ct100 oc101 kV101 dc101 pm101 cd101 ct101 oc105 kV105 dc105 pm105 cd105 ct105 oc106 kV106 dc106 pm106 cd106 ct106 oc107 kV107 dc107 pm107 cd107 ct107 oc200 kV200 dc200 pm200 cd200 ct200 : Value}
    {t0 t1 t2 t3 tiGREAT tiMAX_ROW tiMAX_MADE tmx : Tok} {r7 r22 r23 : List Value}
    (hC0 : PySem.W.nsIn K mainGlobals "Cell" = some (some (.ref C0)))
    (hC1 : PySem.W.nsIn K mainGlobals "Last" = some (some (.ref C1)))
    (hC2 : PySem.W.nsIn K mainGlobals "Less" = some (some (.ref C2)))
    (hC3 : PySem.W.nsIn K mainGlobals "Greater" = some (some (.ref C3)))
    (hC5 : PySem.W.nsIn K mainGlobals "Chain" = some (some (.ref C5)))
    (a0 : PySem.W.nsIn K mainGlobals "is_int_in" = some (some (.ref ff0)))
    (l0 : K.lookup ff0 = some ⟨oc0, od0, .func (PySem.W.fnOf "is_int_in" "is_int_in" (defArgs s0) (defBody s0) (defScope s0) .none kV0 dc0 pm0 an0 cd0 ct0), sl0⟩)
    (c0 : PySem.W.codeIn K cd0 "is_int_in" = true)
    (k0 : PySem.W.keepIn K (.ref ff0) = true)
    (a2 : PySem.W.nsIn K mainGlobals "check_row" = some (some (.ref ff2)))
    (l2 : K.lookup ff2 = some ⟨oc2, od2, .func (PySem.W.fnOf "check_row" "check_row" (defArgs s2) (defBody s2) (defScope s2) .none kV2 dc2 pm2 an2 cd2 ct2), sl2⟩)
    (c2 : PySem.W.codeIn K cd2 "check_row" = true)
    (k2 : PySem.W.keepIn K (.ref ff2) = true)
    (a3 : PySem.W.findIn K (.ref C0) "__init__" = some (some (.ref ff3)))
    (l3 : K.lookup ff3 = some ⟨oc3, od3, .func (PySem.W.fnOf "__init__" "Cell.__init__" (defArgs s3) (defBody s3) (defScope s3) .none kV3 dc3 pm3 an3 cd3 ct3), sl3⟩)
    (c3 : PySem.W.codeIn K cd3 "Cell.__init__" = true)
    (k3 : PySem.W.keepIn K (.ref ff3) = true)
    (a4 : PySem.W.findIn K (.ref C0) "__call__" = some (some (.ref ff4)))
    (l4 : K.lookup ff4 = some ⟨oc4, od4, .func (PySem.W.fnOf "__call__" "Cell.__call__" (defArgs s4) (defBody s4) (defScope s4) .none kV4 dc4 pm4 an4 cd4 ct4), sl4⟩)
    (c4 : PySem.W.codeIn K cd4 "Cell.__call__" = true)
    (k4 : PySem.W.keepIn K (.ref ff4) = true)
    (a7 : PySem.W.findIn K (.ref C0) "label" = some (some (.ref p7)))
    (r7 : PySem.W.recIn K p7 "property" = some (.ref ff7 :: r7))
    (pg7 : PySem.W.specialIn K (.ref p7) "__get__" = some (some (.builtin "property.__get__")))
    (pt7 : PySem.W.takesIn K (.ref p7) = some true)
    (l7 : K.lookup ff7 = some ⟨oc7, od7, .func (PySem.W.fnOf "label" "Cell.label" (defArgs s7) (defBody s7) (defScope s7) .none kV7 dc7 pm7 an7 cd7 ct7), sl7⟩)
    (c7 : PySem.W.codeIn K cd7 "Cell.label" = true)
    (k7 : PySem.W.keepIn K (.ref ff7) = true)
    (a8 : PySem.W.findIn K (.ref C1) "__call__" = some (some (.ref ff8)))
    (l8 : K.lookup ff8 = some ⟨oc8, od8, .func (PySem.W.fnOf "__call__" "Last.__call__" (defArgs s8) (defBody s8) (defScope s8) .none kV8 dc8 pm8 an8 cd8 ct8), sl8⟩)
    (c8 : PySem.W.codeIn K cd8 "Last.__call__" = true)
    (k8 : PySem.W.keepIn K (.ref ff8) = true)
    (a10 : PySem.W.findIn K (.ref C2) "__call__" = some (some (.ref ff10)))
    (l10 : K.lookup ff10 = some ⟨oc10, od10, .func (PySem.W.fnOf "__call__" "Less.__call__" (defArgs s10) (defBody s10) (defScope s10) .none kV10 dc10 pm10 an10 cd10 ct10), sl10⟩)
    (c10 : PySem.W.codeIn K cd10 "Less.__call__" = true)
    (k10 : PySem.W.keepIn K (.ref ff10) = true)
    (a12 : PySem.W.findIn K (.ref C3) "__call__" = some (some (.ref ff12)))
    (l12 : K.lookup ff12 = some ⟨oc12, od12, .func (PySem.W.fnOf "__call__" "Greater.__call__" (defArgs s12) (defBody s12) (defScope s12) .none kV12 dc12 pm12 an12 cd12 ct12), sl12⟩)
    (c12 : PySem.W.codeIn K cd12 "Greater.__call__" = true)
    (k12 : PySem.W.keepIn K (.ref ff12) = true)
    (a19 : PySem.W.nsIn K mainGlobals "passed_on" = some (some (.ref ff19)))
    (l19 : K.lookup ff19 = some ⟨oc19, od19, .func (PySem.W.fnOf "passed_on" "passed_on" (defArgs s19) (defBody s19) (defScope s19) .none kV19 dc19 pm19 an19 cd19 ct19), sl19⟩)
    (c19 : PySem.W.codeIn K cd19 "passed_on" = true)
    (k19 : PySem.W.keepIn K (.ref ff19) = true)
    (a20 : PySem.W.findIn K (.ref C5) "__init__" = some (some (.ref ff20)))
    (l20 : K.lookup ff20 = some ⟨oc20, od20, .func (PySem.W.fnOf "__init__" "Chain.__init__" (defArgs s20) (defBody s20) (defScope s20) .none kV20 dc20 pm20 an20 cd20 ct20), sl20⟩)
    (c20 : PySem.W.codeIn K cd20 "Chain.__init__" = true)
    (k20 : PySem.W.keepIn K (.ref ff20) = true)
    (a22 : PySem.W.findIn K (.ref C5) "text" = some (some (.ref p22)))
    (r22 : PySem.W.recIn K p22 "property" = some (.ref ff22 :: r22))
    (pg22 : PySem.W.specialIn K (.ref p22) "__get__" = some (some (.builtin "property.__get__")))
    (pt22 : PySem.W.takesIn K (.ref p22) = some true)
    (l22 : K.lookup ff22 = some ⟨oc22, od22, .func (PySem.W.fnOf "text" "Chain.text" (defArgs s22) (defBody s22) (defScope s22) .none kV22 dc22 pm22 an22 cd22 ct22), sl22⟩)
    (c22 : PySem.W.codeIn K cd22 "Chain.text" = true)
    (k22 : PySem.W.keepIn K (.ref ff22) = true)
    (a23 : PySem.W.findIn K (.ref C5) "empty" = some (some (.ref p23)))
    (r23 : PySem.W.recIn K p23 "property" = some (.ref ff23 :: r23))
    (pg23 : PySem.W.specialIn K (.ref p23) "__get__" = some (some (.builtin "property.__get__")))
    (pt23 : PySem.W.takesIn K (.ref p23) = some true)
    (l23 : K.lookup ff23 = some ⟨oc23, od23, .func (PySem.W.fnOf "empty" "Chain.empty" (defArgs s23) (defBody s23) (defScope s23) .none kV23 dc23 pm23 an23 cd23 ct23), sl23⟩)
    (c23 : PySem.W.codeIn K cd23 "Chain.empty" = true)
    (k23 : PySem.W.keepIn K (.ref ff23) = true)
    (a24 : PySem.W.findIn K (.ref C5) "__len__" = some (some (.ref ff24)))
    (l24 : K.lookup ff24 = some ⟨oc24, od24, .func (PySem.W.fnOf "__len__" "Chain.__len__" (defArgs s24) (defBody s24) (defScope s24) .none kV24 dc24 pm24 an24 cd24 ct24), sl24⟩)
    (c24 : PySem.W.codeIn K cd24 "Chain.__len__" = true)
    (k24 : PySem.W.keepIn K (.ref ff24) = true)
    (a25 : PySem.W.findIn K (.ref C5) "__getitem__" = some (some (.ref ff25)))
    (l25 : K.lookup ff25 = some ⟨oc25, od25, .func (PySem.W.fnOf "__getitem__" "Chain.__getitem__" (defArgs s25) (defBody s25) (defScope s25) .none kV25 dc25 pm25 an25 cd25 ct25), sl25⟩)
    (c25 : PySem.W.codeIn K cd25 "Chain.__getitem__" = true)
    (k25 : PySem.W.keepIn K (.ref ff25) = true)
    (a29 : PySem.W.findIn K (.ref C5) "__call__" = some (some (.ref ff29)))
    (l29 : K.lookup ff29 = some ⟨oc29, od29, .func (PySem.W.fnOf "__call__" "Chain.__call__" (defArgs s29) (defBody s29) (defScope s29) .none kV29 dc29 pm29 an29 cd29 ct29), sl29⟩)
    (c29 : PySem.W.codeIn K cd29 "Chain.__call__" = true)
    (k29 : PySem.W.keepIn K (.ref ff29) = true)
    (a46 : PySem.W.nsIn K mainGlobals "chain_for" = some (some (.ref ff46)))
    (l46 : K.lookup ff46 = some ⟨oc46, od46, .func (PySem.W.fnOf "chain_for" "chain_for" (defArgs s46) (defBody s46) (defScope s46) .none kV46 dc46 pm46 an46 cd46 ct46), sl46⟩)
    (c46 : PySem.W.codeIn K cd46 "chain_for" = true)
    (k46 : PySem.W.keepIn K (.ref ff46) = true)
    (a100 : PySem.W.nsIn K mainGlobals "_law_random" = some (some (.ref ff100)))
    (l100 : K.lookup ff100 = some ⟨oc100, od100, .func (PySem.W.fnOf "_law_random" "_law_random" (defArgs s100) (defBody s100) (defScope s100) .none kV100 dc100 pm100 an100 cd100 ct100), sl100⟩)
    (c100 : PySem.W.codeIn K cd100 "_law_random" = true)
    (k100 : PySem.W.keepIn K (.ref ff100) = true)
    (a101 : PySem.W.nsIn K mainGlobals "_law_below" = some (some (.ref ff101)))
    (l101 : K.lookup ff101 = some ⟨oc101, od101, .func (PySem.W.fnOf "_law_below" "_law_below" (defArgs s101) (defBody s101) (defScope s101) .none kV101 dc101 pm101 an101 cd101 ct101), sl101⟩)
    (c101 : PySem.W.codeIn K cd101 "_law_below" = true)
    (k101 : PySem.W.keepIn K (.ref ff101) = true)
    (a105 : PySem.W.nsIn K mainGlobals "_law_kept" = some (some (.ref ff105)))
    (l105 : K.lookup ff105 = some ⟨oc105, od105, .func (PySem.W.fnOf "_law_kept" "_law_kept" (defArgs s105) (defBody s105) (defScope s105) .none kV105 dc105 pm105 an105 cd105 ct105), sl105⟩)
    (c105 : PySem.W.codeIn K cd105 "_law_kept" = true)
    (k105 : PySem.W.keepIn K (.ref ff105) = true)
    (a106 : PySem.W.nsIn K mainGlobals "_law_step" = some (some (.ref ff106)))
    (l106 : K.lookup ff106 = some ⟨oc106, od106, .func (PySem.W.fnOf "_law_step" "_law_step" (defArgs s106) (defBody s106) (defScope s106) .none kV106 dc106 pm106 an106 cd106 ct106), sl106⟩)
    (c106 : PySem.W.codeIn K cd106 "_law_step" = true)
    (k106 : PySem.W.keepIn K (.ref ff106) = true)
    (a107 : PySem.W.nsIn K mainGlobals "_law_run" = some (some (.ref ff107)))
    (l107 : K.lookup ff107 = some ⟨oc107, od107, .func (PySem.W.fnOf "_law_run" "_law_run" (defArgs s107) (defBody s107) (defScope s107) .none kV107 dc107 pm107 an107 cd107 ct107), sl107⟩)
    (c107 : PySem.W.codeIn K cd107 "_law_run" = true)
    (k107 : PySem.W.keepIn K (.ref ff107) = true)
    (a200 : PySem.W.nsIn K mainGlobals "law" = some (some (.ref ff200)))
    (l200 : K.lookup ff200 = some ⟨oc200, od200, .func (PySem.W.fnOf "law" "law" (defArgs s200) (defBody s200) (defScope s200) .none kV200 dc200 pm200 an200 cd200 ct200), sl200⟩)
    (c200 : PySem.W.codeIn K cd200 "law" = true)
    (k200 : PySem.W.keepIn K (.ref ff200) = true)
    (pg_0 : PySem.W.plainGet K C0 Str.empty = true)
    (hd_0 : PySem.W.hasDictIn K C0 = true)
    (po_0 : PySem.W.plainOver K C0 = true)
    (sa_0 : PySem.W.findIn K (.ref C0) "__setattr__" = some (some (.builtin "object.__setattr__")))
    (ca_0 : PySem.W.findIn K (.ref C0) "__class__" = some (some (.builtin "object.__class__")))
    (mo_0 : PySem.W.mroIn K C0 (.type "object") = some true)
    (kb_0_int : PySem.W.subIn K (.ref C0) (.type "int") = some false)
    (kb_0_bool : PySem.W.subIn K (.ref C0) (.type "bool") = some false)
    (kb_0_str : PySem.W.subIn K (.ref C0) (.type "str") = some false)
    (kb_0_tuple : PySem.W.subIn K (.ref C0) (.type "tuple") = some false)
    (kb_0_list : PySem.W.subIn K (.ref C0) (.type "list") = some false)
    (kb_0_dict : PySem.W.subIn K (.ref C0) (.type "dict") = some false)
    (pg_1 : PySem.W.plainGet K C1 Str.empty = true)
    (hd_1 : PySem.W.hasDictIn K C1 = true)
    (po_1 : PySem.W.plainOver K C1 = true)
    (sa_1 : PySem.W.findIn K (.ref C1) "__setattr__" = some (some (.builtin "object.__setattr__")))
    (ca_1 : PySem.W.findIn K (.ref C1) "__class__" = some (some (.builtin "object.__class__")))
    (mo_1 : PySem.W.mroIn K C1 (.type "object") = some true)
    (kb_1_int : PySem.W.subIn K (.ref C1) (.type "int") = some false)
    (kb_1_bool : PySem.W.subIn K (.ref C1) (.type "bool") = some false)
    (kb_1_str : PySem.W.subIn K (.ref C1) (.type "str") = some false)
    (kb_1_tuple : PySem.W.subIn K (.ref C1) (.type "tuple") = some false)
    (kb_1_list : PySem.W.subIn K (.ref C1) (.type "list") = some false)
    (kb_1_dict : PySem.W.subIn K (.ref C1) (.type "dict") = some false)
    (pg_2 : PySem.W.plainGet K C2 Str.empty = true)
    (hd_2 : PySem.W.hasDictIn K C2 = true)
    (po_2 : PySem.W.plainOver K C2 = true)
    (sa_2 : PySem.W.findIn K (.ref C2) "__setattr__" = some (some (.builtin "object.__setattr__")))
    (ca_2 : PySem.W.findIn K (.ref C2) "__class__" = some (some (.builtin "object.__class__")))
    (mo_2 : PySem.W.mroIn K C2 (.type "object") = some true)
    (kb_2_int : PySem.W.subIn K (.ref C2) (.type "int") = some false)
    (kb_2_bool : PySem.W.subIn K (.ref C2) (.type "bool") = some false)
    (kb_2_str : PySem.W.subIn K (.ref C2) (.type "str") = some false)
    (kb_2_tuple : PySem.W.subIn K (.ref C2) (.type "tuple") = some false)
    (kb_2_list : PySem.W.subIn K (.ref C2) (.type "list") = some false)
    (kb_2_dict : PySem.W.subIn K (.ref C2) (.type "dict") = some false)
    (pg_3 : PySem.W.plainGet K C3 Str.empty = true)
    (hd_3 : PySem.W.hasDictIn K C3 = true)
    (po_3 : PySem.W.plainOver K C3 = true)
    (sa_3 : PySem.W.findIn K (.ref C3) "__setattr__" = some (some (.builtin "object.__setattr__")))
    (ca_3 : PySem.W.findIn K (.ref C3) "__class__" = some (some (.builtin "object.__class__")))
    (mo_3 : PySem.W.mroIn K C3 (.type "object") = some true)
    (kb_3_int : PySem.W.subIn K (.ref C3) (.type "int") = some false)
    (kb_3_bool : PySem.W.subIn K (.ref C3) (.type "bool") = some false)
    (kb_3_str : PySem.W.subIn K (.ref C3) (.type "str") = some false)
    (kb_3_tuple : PySem.W.subIn K (.ref C3) (.type "tuple") = some false)
    (kb_3_list : PySem.W.subIn K (.ref C3) (.type "list") = some false)
    (kb_3_dict : PySem.W.subIn K (.ref C3) (.type "dict") = some false)
    (pg_5 : PySem.W.plainGet K C5 Str.empty = true)
    (hd_5 : PySem.W.hasDictIn K C5 = true)
    (po_5 : PySem.W.plainOver K C5 = true)
    (sa_5 : PySem.W.findIn K (.ref C5) "__setattr__" = some (some (.builtin "object.__setattr__")))
    (ca_5 : PySem.W.findIn K (.ref C5) "__class__" = some (some (.builtin "object.__class__")))
    (mo_5 : PySem.W.mroIn K C5 (.type "object") = some true)
    (kb_5_int : PySem.W.subIn K (.ref C5) (.type "int") = some false)
    (kb_5_bool : PySem.W.subIn K (.ref C5) (.type "bool") = some false)
    (kb_5_str : PySem.W.subIn K (.ref C5) (.type "str") = some false)
    (kb_5_tuple : PySem.W.subIn K (.ref C5) (.type "tuple") = some false)
    (kb_5_list : PySem.W.subIn K (.ref C5) (.type "list") = some false)
    (kb_5_dict : PySem.W.subIn K (.ref C5) (.type "dict") = some false)
    (hn_ : PySem.W.specialIn K (.builtin "object.__class__") "__get__" = some (some (.builtin "getset_descriptor.__get__")))
    (ht_ : PySem.W.takesIn K (.builtin "object.__class__") = some true)
    (nf_0_0 : PySem.W.findIn K (.ref C0) "rule" = some none)
    (nf_1_0 : PySem.W.findIn K (.ref C1) "rule" = some none)
    (nf_2_0 : PySem.W.findIn K (.ref C2) "rule" = some none)
    (nf_3_0 : PySem.W.findIn K (.ref C3) "rule" = some none)
    (nf_0_1 : PySem.W.findIn K (.ref C0) "goal" = some none)
    (nf_5_2 : PySem.W.findIn K (.ref C5) "cells" = some none)
    (nf_5_3 : PySem.W.findIn K (.ref C5) "states" = some none)
    (nf_5_4 : PySem.W.findIn K (.ref C5) "outs" = some none)
    (nf_5_5 : PySem.W.findIn K (.ref C5) "start" = some none)
    (nf_5_6 : PySem.W.findIn K (.ref C5) "chains" = some none)
    (nf_5_7 : PySem.W.findIn K (.ref C5) "now" = some none)
    (nf_5_8 : PySem.W.findIn K (.ref C5) "facts" = some none)
    (nf_5_9 : PySem.W.findIn K (.ref C5) "past" = some none)
    (nf_5_10 : PySem.W.findIn K (.ref C5) "undone" = some none)
    (nf_5_11 : PySem.W.findIn K (.ref C5) "saved" = some none)
    (kc_0 : PySem.W.findIn K (.ref C0) "KIND" = some (some (.str "first" t0)))
    (kg_0 : PySem.W.specialIn K (.str "first" t0) "__get__" = some none)
    (kc_1 : PySem.W.findIn K (.ref C1) "KIND" = some (some (.str "last" t1)))
    (kg_1 : PySem.W.specialIn K (.str "last" t1) "__get__" = some none)
    (kc_2 : PySem.W.findIn K (.ref C2) "KIND" = some (some (.str "less" t2)))
    (kg_2 : PySem.W.specialIn K (.str "less" t2) "__get__" = some none)
    (kc_3 : PySem.W.findIn K (.ref C3) "KIND" = some (some (.str "greater" t3)))
    (kg_3 : PySem.W.specialIn K (.str "greater" t3) "__get__" = some none)
    (mk_0 : PySem.W.makesIn K C0 = true)
    (in_0 : PySem.W.findIn K (.ref C0) "__init__" = some (some (.ref ff3)))
    (if_3 : PySem.W.isFn K (.ref ff3) = true)
    (kp_0 : PySem.W.keepIn K (.ref C0) = true)
    (mk_1 : PySem.W.makesIn K C1 = true)
    (in_1 : PySem.W.findIn K (.ref C1) "__init__" = some (some (.ref ff3)))
    (kp_1 : PySem.W.keepIn K (.ref C1) = true)
    (mk_2 : PySem.W.makesIn K C2 = true)
    (in_2 : PySem.W.findIn K (.ref C2) "__init__" = some (some (.ref ff3)))
    (kp_2 : PySem.W.keepIn K (.ref C2) = true)
    (mk_3 : PySem.W.makesIn K C3 = true)
    (in_3 : PySem.W.findIn K (.ref C3) "__init__" = some (some (.ref ff3)))
    (kp_3 : PySem.W.keepIn K (.ref C3) = true)
    (mk_5 : PySem.W.makesIn K C5 = true)
    (in_5 : PySem.W.findIn K (.ref C5) "__init__" = some (some (.ref ff20)))
    (if_20 : PySem.W.isFn K (.ref ff20) = true)
    (kp_5 : PySem.W.keepIn K (.ref C5) = true)
    (m_0_0 : PySem.W.findIn K (.ref C0) "__call__" = some (some (.ref ff4)))
    (if_4 : PySem.W.isFn K (.ref ff4) = true)
    (fi_4 : PySem.W.fnIn K ff4 = true)
    (m_0_10 : PySem.W.findIn K (.ref C0) "label" = some (some (.ref p7)))
    (m_1_0 : PySem.W.findIn K (.ref C1) "__call__" = some (some (.ref ff8)))
    (if_8 : PySem.W.isFn K (.ref ff8) = true)
    (fi_8 : PySem.W.fnIn K ff8 = true)
    (m_1_10 : PySem.W.findIn K (.ref C1) "label" = some (some (.ref p7)))
    (m_2_0 : PySem.W.findIn K (.ref C2) "__call__" = some (some (.ref ff10)))
    (if_10 : PySem.W.isFn K (.ref ff10) = true)
    (fi_10 : PySem.W.fnIn K ff10 = true)
    (m_2_10 : PySem.W.findIn K (.ref C2) "label" = some (some (.ref p7)))
    (m_3_0 : PySem.W.findIn K (.ref C3) "__call__" = some (some (.ref ff12)))
    (if_12 : PySem.W.isFn K (.ref ff12) = true)
    (fi_12 : PySem.W.fnIn K ff12 = true)
    (m_3_10 : PySem.W.findIn K (.ref C3) "label" = some (some (.ref p7)))
    (m_5_0 : PySem.W.findIn K (.ref C5) "__call__" = some (some (.ref ff29)))
    (if_29 : PySem.W.isFn K (.ref ff29) = true)
    (fi_29 : PySem.W.fnIn K ff29 = true)
    (m_5_3 : PySem.W.findIn K (.ref C5) "__len__" = some (some (.ref ff24)))
    (if_24 : PySem.W.isFn K (.ref ff24) = true)
    (fi_24 : PySem.W.fnIn K ff24 = true)
    (sf_5 : PySem.W.selfFirst K C5 = true)
    (m_5_4 : PySem.W.findIn K (.ref C5) "__getitem__" = some (some (.ref ff25)))
    (if_25 : PySem.W.isFn K (.ref ff25) = true)
    (fi_25 : PySem.W.fnIn K ff25 = true)
    (m_5_11 : PySem.W.findIn K (.ref C5) "text" = some (some (.ref p22)))
    (m_5_12 : PySem.W.findIn K (.ref C5) "empty" = some (some (.ref p23)))
    (ty_0 : PySem.W.typeIn K (.ref C0) = some (.type "type"))
    (kt_0_NoneType : PySem.W.subIn K (.type "NoneType") (.ref C0) = some false)
    (kt_0_int : PySem.W.subIn K (.type "int") (.ref C0) = some false)
    (kt_0_bool : PySem.W.subIn K (.type "bool") (.ref C0) = some false)
    (kt_0_str : PySem.W.subIn K (.type "str") (.ref C0) = some false)
    (kt_0_tuple : PySem.W.subIn K (.type "tuple") (.ref C0) = some false)
    (kt_0_list : PySem.W.subIn K (.type "list") (.ref C0) = some false)
    (kt_0_dict : PySem.W.subIn K (.type "dict") (.ref C0) = some false)
    (ko_0_0 : PySem.W.subIn K (.ref C0) (.ref C0) = some true)
    (ko_0_1 : PySem.W.subIn K (.ref C1) (.ref C0) = some true)
    (ko_0_2 : PySem.W.subIn K (.ref C2) (.ref C0) = some true)
    (ko_0_3 : PySem.W.subIn K (.ref C3) (.ref C0) = some true)
    (ko_0_5 : PySem.W.subIn K (.ref C5) (.ref C0) = some false)
    (i_GREAT : PySem.W.nsIn K mainGlobals "GREAT" = some (some (.int 1000000000 tiGREAT)))
    (i_MAX_ROW : PySem.W.nsIn K mainGlobals "MAX_ROW" = some (some (.int 1000 tiMAX_ROW)))
    (i_MAX_MADE : PySem.W.nsIn K mainGlobals "MAX_MADE" = some (some (.int 5 tiMAX_MADE)))
    (rd_ : PySem.W.readsIn K C5 (.type "type") = true)
    (ga_ : PySem.W.specialIn K (.ref C5) "__getattribute__" = some (some (.builtin "type.__getattribute__")))
    (mx_ : PySem.W.findCls K (.ref C5) (.type "type") "MAX_CELLS" = some (.val (.int 8 tmx)))
    (b_len : PySem.W.nsIn K mainGlobals "len" = some none)
    (b_abs : PySem.W.nsIn K mainGlobals "abs" = some none)
    (b_min : PySem.W.nsIn K mainGlobals "min" = some none)
    (b_max : PySem.W.nsIn K mainGlobals "max" = some none)
    (b_sorted : PySem.W.nsIn K mainGlobals "sorted" = some none)
    (b_int : PySem.W.nsIn K mainGlobals "int" = some none)
    (b_str : PySem.W.nsIn K mainGlobals "str" = some none)
    (b_list : PySem.W.nsIn K mainGlobals "list" = some none)
    (b_tuple : PySem.W.nsIn K mainGlobals "tuple" = some none)
    (b_dict : PySem.W.nsIn K mainGlobals "dict" = some none)
    (b_sum : PySem.W.nsIn K mainGlobals "sum" = some none)
    (b_all : PySem.W.nsIn K mainGlobals "all" = some none)
    (b_isinstance : PySem.W.nsIn K mainGlobals "isinstance" = some none)
    (b_enumerate : PySem.W.nsIn K mainGlobals "enumerate" = some none)
    (b_range : PySem.W.nsIn K mainGlobals "range" = some none)
    (b_zip : PySem.W.nsIn K mainGlobals "zip" = some none)
    (b_set : PySem.W.nsIn K mainGlobals "set" = some none)
    (b_bool : PySem.W.nsIn K mainGlobals "bool" = some none)
    (b_super : PySem.W.nsIn K mainGlobals "super" = some none)
    (hrun : ∀ ns : List Int, ns.length ≤ 63 → ∃ m, runF (wAt lP (callF lP 30).1 (callF lP 30).2) F200 [.scr ns] [] = .ok (.bl true, m)) :
    ∃ fd : FuncData, (∀ (s : Shared) (u : Value), BindsTo s fd ⟨[u], []⟩ [("_law_script", u)]) ∧ ∀ base : Heap, K.In base → base.Ns mainGlobals mg → FnOk l.prog w K mg base CXn (3 * 30 + 3) fa fd ["_law_script"] (spLaw K) := by
  have e := hfa.symm.trans (PySem.W.mg_of X G a200)
  cases e
  let aC : Nat → Addr := fun c => match c with | 0 => C0 | 1 => C1 | 2 => C2 | 3 => C3 | 4 => C0 | 5 => C5 | 6 => C5 | 7 => C5 | 8 => C5 | _ => C0
  let aF : Nat → Addr := fun i => match i with | 0 => ff0 | 2 => ff2 | 3 => ff3 | 4 => ff4 | 7 => ff7 | 8 => ff8 | 10 => ff10 | 12 => ff12 | 19 => ff19 | 20 => ff20 | 22 => ff22 | 23 => ff23 | 24 => ff24 | 25 => ff25 | 29 => ff29 | 46 => ff46 | 100 => ff100 | 101 => ff101 | 105 => ff105 | 106 => ff106 | 107 => ff107 | _ => 0
  let g : Cfg := { P := l.prog, w := w, K := K, aC := aC, aF := aF, xp := false, asks := lAsk, cnI := lCI, cnS := lCS, fns := lFns, clss := lCls }
  have D : Gt g lFns lCls lAsk lCI lCS := ⟨rfl, rfl, rfl, rfl, rfl, rfl⟩
  have cl0 : Cls K C0 := ⟨pg_0, hd_0, po_0, sa_0⟩
  have is0 : InsT K C0 := ⟨ca_0, hn_, ht_, mo_0, fun t ht => by cases t <;> first | exact kit_cb kb_0_int (by decide +kernel) | exact kit_cb kb_0_bool (by decide +kernel) | exact kit_cb kb_0_str (by decide +kernel) | exact kit_cb kb_0_tuple (by decide +kernel) | exact kit_cb kb_0_list (by decide +kernel) | exact kit_cb kb_0_dict (by decide +kernel) | exact absurd rfl (ht _)⟩
  have cl1 : Cls K C1 := ⟨pg_1, hd_1, po_1, sa_1⟩
  have is1 : InsT K C1 := ⟨ca_1, hn_, ht_, mo_1, fun t ht => by cases t <;> first | exact kit_cb kb_1_int (by decide +kernel) | exact kit_cb kb_1_bool (by decide +kernel) | exact kit_cb kb_1_str (by decide +kernel) | exact kit_cb kb_1_tuple (by decide +kernel) | exact kit_cb kb_1_list (by decide +kernel) | exact kit_cb kb_1_dict (by decide +kernel) | exact absurd rfl (ht _)⟩
  have cl2 : Cls K C2 := ⟨pg_2, hd_2, po_2, sa_2⟩
  have is2 : InsT K C2 := ⟨ca_2, hn_, ht_, mo_2, fun t ht => by cases t <;> first | exact kit_cb kb_2_int (by decide +kernel) | exact kit_cb kb_2_bool (by decide +kernel) | exact kit_cb kb_2_str (by decide +kernel) | exact kit_cb kb_2_tuple (by decide +kernel) | exact kit_cb kb_2_list (by decide +kernel) | exact kit_cb kb_2_dict (by decide +kernel) | exact absurd rfl (ht _)⟩
  have cl3 : Cls K C3 := ⟨pg_3, hd_3, po_3, sa_3⟩
  have is3 : InsT K C3 := ⟨ca_3, hn_, ht_, mo_3, fun t ht => by cases t <;> first | exact kit_cb kb_3_int (by decide +kernel) | exact kit_cb kb_3_bool (by decide +kernel) | exact kit_cb kb_3_str (by decide +kernel) | exact kit_cb kb_3_tuple (by decide +kernel) | exact kit_cb kb_3_list (by decide +kernel) | exact kit_cb kb_3_dict (by decide +kernel) | exact absurd rfl (ht _)⟩
  have cl5 : Cls K C5 := ⟨pg_5, hd_5, po_5, sa_5⟩
  have is5 : InsT K C5 := ⟨ca_5, hn_, ht_, mo_5, fun t ht => by cases t <;> first | exact kit_cb kb_5_int (by decide +kernel) | exact kit_cb kb_5_bool (by decide +kernel) | exact kit_cb kb_5_str (by decide +kernel) | exact kit_cb kb_5_tuple (by decide +kernel) | exact kit_cb kb_5_list (by decide +kernel) | exact kit_cb kb_5_dict (by decide +kernel) | exact absurd rfl (ht _)⟩
  have tx : Tx K mg g lP.meth lP.init lP.kcon := by
    refine ⟨?_, ?_, ?_, ?_, ?_, ?_, ?_, ?_, ?_, ?_, ?_, ?_⟩
    · intro c hc
      match c, hc with
      | 0, _ => exact cl0
      | 1, _ => exact cl1
      | 2, _ => exact cl2
      | 3, _ => exact cl3
      | 4, _ => exact cl0
      | 5, _ => exact cl5
      | 6, _ => exact cl5
      | 7, _ => exact cl5
      | 8, _ => exact cl5
    · intro c f hf
      unfold hasF at hf
      split at hf <;> simp only [Bool.or_eq_true, beq_iff_eq, Bool.false_eq_true, or_assoc] at hf
      · subst hf; exact nf_0_0
      · subst hf; exact nf_1_0
      · subst hf; exact nf_2_0
      · subst hf; exact nf_3_0
      · rcases hf with rfl | rfl
        · exact nf_0_0
        · exact nf_0_1
      · subst hf; exact nf_5_2
      · rcases hf with rfl | rfl | rfl
        · exact nf_5_3
        · exact nf_5_4
        · exact nf_5_5
      · rcases hf with rfl | rfl | rfl
        · exact nf_5_6
        · exact nf_5_7
        · exact nf_5_8
      · rcases hf with rfl | rfl | rfl | rfl
        · exact nf_5_7
        · exact nf_5_9
        · exact nf_5_10
        · exact nf_5_11
    · intro c j d hd
      have hd : lKcon c j = some d := hd
      unfold lKcon at hd
      split at hd <;> cases hd
      · exact ⟨by decide, rfl, _, _, rfl, ⟨kc_0, ⟨_, rfl⟩, kg_0, by decide +kernel⟩⟩
      · exact ⟨by decide, rfl, _, _, rfl, ⟨kc_1, ⟨_, rfl⟩, kg_1, by decide +kernel⟩⟩
      · exact ⟨by decide, rfl, _, _, rfl, ⟨kc_2, ⟨_, rfl⟩, kg_2, by decide +kernel⟩⟩
      · exact ⟨by decide, rfl, _, _, rfl, ⟨kc_3, ⟨_, rfl⟩, kg_3, by decide +kernel⟩⟩
    · intro x i hi
      have hi : (x, i) ∈ lFns := hi
      simp only [lFns, List.mem_cons, Prod.mk.injEq, List.not_mem_nil, or_false] at hi
      rcases hi with ⟨rfl, rfl⟩ | ⟨rfl, rfl⟩ | ⟨rfl, rfl⟩ | ⟨rfl, rfl⟩ | ⟨rfl, rfl⟩ | ⟨rfl, rfl⟩ | ⟨rfl, rfl⟩ | ⟨rfl, rfl⟩ | ⟨rfl, rfl⟩
      · exact ⟨PySem.W.mg_of X G a0, k0⟩
      · exact ⟨PySem.W.mg_of X G a2, k2⟩
      · exact ⟨PySem.W.mg_of X G a19, k19⟩
      · exact ⟨PySem.W.mg_of X G a46, k46⟩
      · exact ⟨PySem.W.mg_of X G a100, k100⟩
      · exact ⟨PySem.W.mg_of X G a101, k101⟩
      · exact ⟨PySem.W.mg_of X G a105, k105⟩
      · exact ⟨PySem.W.mg_of X G a106, k106⟩
      · exact ⟨PySem.W.mg_of X G a107, k107⟩
    · intro x c hc
      have hc : (x, c) ∈ lCls := hc
      simp only [lCls, List.mem_cons, Prod.mk.injEq, List.not_mem_nil, or_false] at hc
      rcases hc with ⟨rfl, rfl⟩ | ⟨rfl, rfl⟩ | ⟨rfl, rfl⟩ | ⟨rfl, rfl⟩ | ⟨rfl, rfl⟩
      · exact ⟨rfl, PySem.W.mg_of X G hC0, kp_0, ⟨mk_0, in_0, if_3, kp_0⟩⟩
      · exact ⟨rfl, PySem.W.mg_of X G hC1, kp_1, ⟨mk_1, in_1, if_3, kp_1⟩⟩
      · exact ⟨rfl, PySem.W.mg_of X G hC2, kp_2, ⟨mk_2, in_2, if_3, kp_2⟩⟩
      · exact ⟨rfl, PySem.W.mg_of X G hC3, kp_3, ⟨mk_3, in_3, if_3, kp_3⟩⟩
      · exact ⟨rfl, PySem.W.mg_of X G hC5, kp_5, ⟨mk_5, in_5, if_20, kp_5⟩⟩
    · intro c m i h
      have h : lMeth c m = some i := h
      unfold lMeth at h
      split at h <;> cases h
      · exact ⟨by decide, (fun z => absurd z (by decide)), (fun z => absurd z (by decide)), (fun _ => ⟨m_0_0, if_4, fi_4⟩), (fun z => absurd z (by decide))⟩
      · exact ⟨by decide, (fun z => absurd z (by decide)), (fun _ _ => ⟨_, m_0_10, pg7, pt7, _, r7⟩), (fun z => absurd z (by decide)), (fun _ z => absurd z (by decide))⟩
      · exact ⟨by decide, (fun z => absurd z (by decide)), (fun z => absurd z (by decide)), (fun _ => ⟨m_1_0, if_8, fi_8⟩), (fun z => absurd z (by decide))⟩
      · exact ⟨by decide, (fun z => absurd z (by decide)), (fun _ _ => ⟨_, m_1_10, pg7, pt7, _, r7⟩), (fun z => absurd z (by decide)), (fun _ z => absurd z (by decide))⟩
      · exact ⟨by decide, (fun z => absurd z (by decide)), (fun z => absurd z (by decide)), (fun _ => ⟨m_2_0, if_10, fi_10⟩), (fun z => absurd z (by decide))⟩
      · exact ⟨by decide, (fun z => absurd z (by decide)), (fun _ _ => ⟨_, m_2_10, pg7, pt7, _, r7⟩), (fun z => absurd z (by decide)), (fun _ z => absurd z (by decide))⟩
      · exact ⟨by decide, (fun z => absurd z (by decide)), (fun z => absurd z (by decide)), (fun _ => ⟨m_3_0, if_12, fi_12⟩), (fun z => absurd z (by decide))⟩
      · exact ⟨by decide, (fun z => absurd z (by decide)), (fun _ _ => ⟨_, m_3_10, pg7, pt7, _, r7⟩), (fun z => absurd z (by decide)), (fun _ z => absurd z (by decide))⟩
      · exact ⟨by decide, (fun z => absurd z (by decide)), (fun z => absurd z (by decide)), (fun _ => ⟨m_5_0, if_29, fi_29⟩), (fun z => absurd z (by decide))⟩
      · exact ⟨by decide, (fun z => absurd z (by decide)), (fun z => absurd z (by decide)), (fun z => absurd z (by decide)), (fun _ _ => ⟨m_5_3, if_24, fi_24, sf_5⟩)⟩
      · exact ⟨by decide, (fun z => absurd z (by decide)), (fun z => absurd z (by decide)), (fun z => absurd z (by decide)), (fun _ _ => ⟨m_5_4, if_25, fi_25, sf_5⟩)⟩
      · exact ⟨by decide, (fun z => absurd z (by decide)), (fun _ _ => ⟨_, m_5_11, pg22, pt22, _, r22⟩), (fun z => absurd z (by decide)), (fun _ z => absurd z (by decide))⟩
      · exact ⟨by decide, (fun z => absurd z (by decide)), (fun _ _ => ⟨_, m_5_12, pg23, pt23, _, r23⟩), (fun z => absurd z (by decide)), (fun _ z => absurd z (by decide))⟩
    · intro c hc
      match c, hc with
      | 0, _ => exact is0
      | 1, _ => exact is1
      | 2, _ => exact is2
      | 3, _ => exact is3
      | 4, _ => exact is0
      | 5, _ => exact is5
      | 6, _ => exact is5
      | 7, _ => exact is5
      | 8, _ => exact is5
    · intro t ht
      have ht : t ∈ lAsk := ht
      simp only [lAsk, List.mem_cons, List.not_mem_nil, or_false] at ht
      rcases ht with rfl
      · refine ⟨fun x hx => ?_, fun a ha => ?_, fun c hc hh => ?_⟩
        · have := tcl0 hx
          subst this
          exact PySem.W.mg_of X G hC0
        · rcases a with _ | a
          · exact kit_bc hd_0 ty_0 kt_0_NoneType
          · cases a <;> first | exact kit_bc hd_0 ty_0 kt_0_int | exact kit_bc hd_0 ty_0 kt_0_bool | exact kit_bc hd_0 ty_0 kt_0_str | exact kit_bc hd_0 ty_0 kt_0_tuple | exact kit_bc hd_0 ty_0 kt_0_list | exact kit_bc hd_0 ty_0 kt_0_dict | exact absurd rfl (ha _)
        · match c, hc with
          | 0, _ => exact kit_cc hd_0 ty_0 ko_0_0 ko_0_0
          | 1, _ => exact kit_cc hd_0 ty_0 ko_0_0 ko_0_1
          | 2, _ => exact kit_cc hd_0 ty_0 ko_0_0 ko_0_2
          | 3, _ => exact kit_cc hd_0 ty_0 ko_0_0 ko_0_3
          | 4, _ => exact kit_cc hd_0 ty_0 ko_0_0 ko_0_0
          | 5, _ => exact kit_cc hd_0 ty_0 ko_0_0 ko_0_5
          | 6, _ => exact kit_cc hd_0 ty_0 ko_0_0 ko_0_5
          | 7, _ => exact kit_cc hd_0 ty_0 ko_0_0 ko_0_5
          | 8, _ => exact kit_cc hd_0 ty_0 ko_0_0 ko_0_5
    · intro x n h
      have h : (x, n) ∈ lCI := h
      simp only [lCI, List.mem_cons, Prod.mk.injEq, List.not_mem_nil, or_false] at h
      rcases h with ⟨rfl, rfl⟩ | ⟨rfl, rfl⟩ | ⟨rfl, rfl⟩
      · exact ⟨_, PySem.W.mg_of X G i_GREAT⟩
      · exact ⟨_, PySem.W.mg_of X G i_MAX_ROW⟩
      · exact ⟨_, PySem.W.mg_of X G i_MAX_MADE⟩
    · intro x n h
      have h : (x, n) ∈ lCS := h
      simp [lCS] at h
    · intro _
      exact ⟨_, _, ⟨rd_, ga_⟩, ⟨mx_, ⟨_, rfl⟩⟩⟩
    · intro x hx
      unfold bltNames at hx
      simp only [List.contains_cons, List.contains_nil, Bool.or_eq_true, beq_iff_eq, Bool.false_eq_true, or_false] at hx
      rcases hx with rfl | rfl | rfl | rfl | rfl | rfl | rfl | rfl | rfl | rfl | rfl | rfl | rfl | rfl | rfl | rfl | rfl | rfl | rfl
      · exact PySem.W.mg_none_of X G b_len
      · exact PySem.W.mg_none_of X G b_abs
      · exact PySem.W.mg_none_of X G b_min
      · exact PySem.W.mg_none_of X G b_max
      · exact PySem.W.mg_none_of X G b_sorted
      · exact PySem.W.mg_none_of X G b_int
      · exact PySem.W.mg_none_of X G b_str
      · exact PySem.W.mg_none_of X G b_list
      · exact PySem.W.mg_none_of X G b_tuple
      · exact PySem.W.mg_none_of X G b_dict
      · exact PySem.W.mg_none_of X G b_sum
      · exact PySem.W.mg_none_of X G b_all
      · exact PySem.W.mg_none_of X G b_isinstance
      · exact PySem.W.mg_none_of X G b_enumerate
      · exact PySem.W.mg_none_of X G b_range
      · exact PySem.W.mg_none_of X G b_zip
      · exact PySem.W.mg_none_of X G b_set
      · exact PySem.W.mg_none_of X G b_bool
      · exact PySem.W.mg_none_of X G b_super
  obtain ⟨fd, h1, h2⟩ := law_D (p := lP) (g := g) ⟨_, fun_mk (st := s200) l200 c200 k200⟩ rfl rfl rfl tx 30 (fun base => lStep rfl rfl rfl D tx ⟨_, fun_mk (st := s0) l0 c0 k0⟩ ⟨_, fun_mk (st := s2) l2 c2 k2⟩ ⟨_, fun_mk (st := s3) l3 c3 k3⟩ ⟨_, fun_mk (st := s4) l4 c4 k4⟩ ⟨_, fun_mk (st := s7) l7 c7 k7⟩ ⟨_, fun_mk (st := s8) l8 c8 k8⟩ ⟨_, fun_mk (st := s10) l10 c10 k10⟩ ⟨_, fun_mk (st := s12) l12 c12 k12⟩ ⟨_, fun_mk (st := s19) l19 c19 k19⟩ ⟨_, fun_mk (st := s20) l20 c20 k20⟩ ⟨_, fun_mk (st := s22) l22 c22 k22⟩ ⟨_, fun_mk (st := s23) l23 c23 k23⟩ ⟨_, fun_mk (st := s24) l24 c24 k24⟩ ⟨_, fun_mk (st := s25) l25 c25 k25⟩ ⟨_, fun_mk (st := s29) l29 c29 k29⟩ ⟨_, fun_mk (st := s46) l46 c46 k46⟩ ⟨_, fun_mk (st := s100) l100 c100 k100⟩ ⟨_, fun_mk (st := s101) l101 c101 k101⟩ ⟨_, fun_mk (st := s105) l105 c105 k105⟩ ⟨_, fun_mk (st := s106) l106 c106 k106⟩ ⟨_, fun_mk (st := s107) l107 c107 k107⟩) sc200 rfl rfl rfl (fun base _ _ _ _ _ _ _ _ G T => b200 G T D) bd200 hrun
  exact ⟨fd, h1, fun base _ _ => h2 base⟩
end SV
set_option linter.all false
set_option Elab.async false
set_option maxHeartbeats 4000000
namespace SV
open PySem
theorem h38 : AllH lP where
  f0 := rfl
  f2 := rfl
  f19 := rfl
  f20 := rfl
  f22 := rfl
  f23 := rfl
  f29 := rfl
  f7 := rfl
  i5 := rfl
  m0 := rfl
  m11 := rfl
  m12 := rfl
  cell := fun c h => by cases c <;> first | exact ⟨rfl, rfl⟩ | cases h
  m10 := fun c h => by cases c <;> first | rfl | cases h
  mks := fun c h => by cases c <;> first | exact ⟨rfl, rfl, rfl⟩ | cases h
  f46 := rfl
theorem law_true (ns : List Int) (hns : ns.length ≤ 63) : ∃ m, runF (wAt lP (callF lP 30).1 (callF lP 30).2) F200 [.scr ns] [] = .ok (.bl true, m) := by
  have main : OP (runF (wN lP 30) F200 [.scr ns] []) (fun r => r.1 = .bl true) := by
    refine run_leave [some (.scr ns), none, none, none, none, none, none, none, none, none, none, none, none, none, none, none, none] rfl rfl rfl ?_
    have fin : ∀ {s : S}, LeaveP [] (fun r => r.1 = .bl true) (.ret (.bl true), s) := fun {s} => ⟨rfl, rfl, rfl⟩
    refine ss_cons (q_asg (e_newL (e_cal (es_cons (e_var rfl (es_cons (e_cst (es_nil ?_))))))))
    refine (run100 (p := lP) (n := 29) rfl ns hns 38 (by decide)).mono ?_
    rintro r ⟨xs, rfl, hD⟩
    refine ⟨xs, rfl, g_nm ?_⟩
    dsimp only [List.set, List.nil_append, List.length, List.cons_append]
    refine ss_cons (q_asg (e_lst (es_cons (e_cst (es_cons (e_cst (es_cons (e_cst (es_cons (e_cst (es_nil ⟨Nat.le_of_ble_eq_true rfl, g_nm ?_⟩)))))))))))
    dsimp only [List.set]
    show OP (exSs _ _ _ ⟨[some (.scr ns), some (.ref 1), some (.lst (KS.map lab)), none, none, none, none, none, none, none, none, none, none, none, none, none, none], .dead :: .lst xs :: []⟩) _
    -- words
    have hI : OP (evI (wN lP 30) (.rng (.cons (.bin .Add (.cst (.int 1)) (.cal 101 (.cons (.var 1) (.cons (.cst (.int 3)) .nil)))) .nil)) ⟨[some (.scr ns), some (.ref 1), some (.lst (KS.map lab)), none, none, none, none, none, none, none, none, none, none, none, none, none, none], .dead :: .lst xs :: []⟩)
        (fun p => ∃ (l : Nat) (zs : List D), 1 ≤ l ∧ l ≤ 3 ∧ Dz zs ∧ p = (rangeL 0 l 1, ⟨[some (.scr ns), some (.ref 1), some (.lst (KS.map lab)), none, none, none, none, none, none, none, none, none, none, none, none, none, none], .dead :: .lst zs :: []⟩)) := by
      refine i_rngP (es_cons (e_bin (e_cst (e_cal (es_cons (e_var rfl (es_cons (e_cst (es_nil ?_)))))))))
      refine (below (p := lP) (n := 29) rfl hD 3 (by decide)).mono ?_
      rintro r ⟨v, zs, rfl, hv0, hv1, hD⟩
      refine b_add (es_nil ?_)
      have : (1 : Int) + v = ((1 + v.toNat : Nat) : Int) := by omega
      rw [this]
      exact ⟨_, rng_ok _ (by omega), 1 + v.toNat, zs, by omega, by omega, hD, rfl⟩
    obtain ⟨p1, ep1, l, zs, hl1, hl2, hD, rfl⟩ := hI
    refine ss_cons (q_asg ?_)
    refine e_lcI (fun i ys m' => ∃ (zs : List D) (cs : List CK), m' = [.dead, .lst zs] ∧ Dz zs ∧ ys = cs.map lab ∧ cs.length = i ∧ ∀ c ∈ cs, c ∈ KS) ⟨_, ep1, rfl⟩ ?_ ?_ (by decide) ⟨zs, [], rfl, hD, rfl, rfl, by simp⟩ ?_ ?_
    · rw [P_rlen]; show _ ≤ 16777216; omega
    · exact nr_env (by simp only [List.all_cons, List.all_nil, nr_scr, nr_int, nr_lst, nr_r1, nr_0, nr_non, Bool.and_self]) (by show (2 : Nat) ≠ 1; decide)
    · rintro i x ys m' hx ⟨zs, cs, rfl, hD, rfl, hr, hb⟩ hm
      refine ea_nil ⟨rfl, if_tt (e_sub (e_var rfl (e_cal (es_cons (e_var rfl (es_cons (e_cst (es_nil ?_))))))))⟩
      refine (below (p := lP) (n := 29) (t := [.lst (cs.map lab)]) rfl hD 4 (by decide)).mono ?_
      rintro r ⟨v, zs2, rfl, hv0, hv1, hD2⟩
      have hvl : v.toNat < KS.length := by show _ < 4; omega
      have hgc : (KS.map lab)[v.toNat]? = some (lab KS[v.toNat]) := by rw [List.getElem?_map, List.getElem?_eq_getElem hvl]; rfl
      rw [show v = (v.toNat : Int) from by omega]
      refine sub_V _ hgc ?_
      refine ⟨[.dead, .lst zs2], rfl, rfl, zs2, cs ++ [KS[v.toNat]], rfl, hD2, by simp, by simp [hr], ?_⟩
      intro x hx
      rcases List.mem_append.mp hx with h | h
      · exact hb x h
      · rw [List.mem_singleton.mp h]
        exact List.getElem_mem _
    rintro ys m' ⟨zs, cs, rfl, hD, rfl, hcl, hcs⟩ hm
    rw [P_rlen] at hcl
    refine g_nm ?_
    dsimp only [List.set]
    -- row
    have hI : OP (evI (wN lP 30) (.rng (.cons (.bin .Add (.bin .Add (.bif .len (.cons (.var 4) .nil)) (.cst (.int 1))) (.cal 101 (.cons (.var 1) (.cons (.cst (.int 5)) .nil)))) .nil)) ⟨[some (.scr ns), some (.ref 1), some (.lst (KS.map lab)), none, some (.lst (cs.map lab)), none, none, none, none, none, none, none, none, none, none, none, none], [.dead, .lst zs, .dead]⟩)
        (fun p => ∃ (r : Nat) (zs : List D), l + 1 ≤ r ∧ r ≤ 8 ∧ Dz zs ∧ p = (rangeL 0 r 1, ⟨[some (.scr ns), some (.ref 1), some (.lst (KS.map lab)), none, some (.lst (cs.map lab)), none, none, none, none, none, none, none, none, none, none, none, none], [.dead, .lst zs, .dead]⟩)) := by
      refine i_rngP (es_cons (e_bin (e_bin (e_bif (es_cons (e_var rfl (es_nil (f_len (z := .int (cs.map lab).length) rfl rfl ?_))))))))
      refine e_cst (b_add (e_cal (es_cons (e_var rfl (es_cons (e_cst (es_nil ?_)))))))
      refine (below (p := lP) (n := 29) (t := [.dead]) rfl hD 5 (by decide)).mono ?_
      rintro r ⟨v, zs, rfl, hv0, hv1, hD⟩
      refine b_add (es_nil ?_)
      rw [List.length_map]
      have : (cs.length : Int) + 1 + v = ((l + 1 + v.toNat : Nat) : Int) := by omega
      rw [this]
      exact ⟨_, rng_ok _ (by omega), l + 1 + v.toNat, zs, by omega, by omega, hD, rfl⟩
    obtain ⟨p1, ep1, rl, zs, hr1, hr2, hD, rfl⟩ := hI
    refine ss_cons (q_asg ?_)
    refine e_lcI (fun i ys m' => ∃ (zs : List D) (row : List Int), m' = [.dead, .lst zs, .dead] ∧ Dz zs ∧ ys = row.map D.int ∧ row.length = i ∧ ∀ x ∈ row, -3 ≤ x ∧ x ≤ 3) ⟨_, ep1, rfl⟩ ?_ ?_ (by decide) ⟨zs, [], rfl, hD, rfl, rfl, by simp⟩ ?_ ?_
    · rw [P_rlen]; show _ ≤ 16777216; omega
    · exact nr_env (by simp only [List.all_cons, List.all_nil, nr_scr, nr_int, nr_lst, nr_r1, nr_0, nr_non, Bool.and_self]) (by show (3 : Nat) ≠ 1; decide)
    · rintro i x ys m' hx ⟨zs, row, rfl, hD, rfl, hr, hb⟩ hm
      refine ea_nil ⟨rfl, if_tt (e_bin (e_cal (es_cons (e_var rfl (es_cons (e_cst (es_nil ?_)))))))⟩
      refine (below (p := lP) (n := 29) (t := [.dead, .lst (row.map D.int)]) rfl hD 7 (by decide)).mono ?_
      rintro r ⟨v, zs2, rfl, hv0, hv1, hD2⟩
      refine e_cst (b_sub ⟨[.dead, .lst zs2, .dead], rfl, rfl, zs2, row ++ [v - 3], rfl, hD2, by simp, by simp [hr], ?_⟩)
      intro x hx
      rcases List.mem_append.mp hx with h | h
      · exact hb x h
      · have := List.mem_singleton.mp h
        omega
    rintro ys m' ⟨zs, row, rfl, hD, rfl, hrl, hrow⟩ hm
    rw [P_rlen] at hrl
    refine g_nm ?_
    dsimp only [List.set]
    -- outs
    refine ss_cons (q_asg (e_sub (e_cal (es_cons (e_var rfl (es_cons (e_var rfl (es_nil ?_))))))))
    refine (run107 (p := lP) (n := 27) rfl rfl rfl cs (fun c hc => (KS_plain (hcs c hc)).1) (by omega) row (by omega)).mono ?_
    rintro r rfl
    refine e_cst (u_of (z := .lst ((runK cs row).1.map OD)) rfl rfl (g_nm ?_))
    dsimp only [List.set]
    have ho3 := (runK_inv cs row).2.2
    have hoc := runK_cnt cs row (by omega)
    rw [hcl] at hoc
    generalize hov : (runK cs row).1 = o at *
    clear hov
    have rest : ∀ (zs : List D) (t : List MO) (o : List (Option Int)) (b7 : Option D), Dz zs → o.length = row.length → cntN o = l → nrB b7 = true → OP (exSs (wN lP 30) none (F200.body.drop 6)
        ⟨[some (.scr ns), some (.ref 1), some (.lst (KS.map lab)), none, some (.lst (cs.map lab)), some (.lst (row.map D.int)), some (.lst (o.map OD)), b7, none, none, none, none, none, none, none, none, none], .dead :: .lst zs :: t⟩) (LeaveP [] (fun r => r.1 = .bl true)) := by
      intro zs t o b7 hD hol hoc hb7
      refine ss_cons (q_par (es_cons (e_lst (es_cons (e_lst (es_nil ⟨Nat.le_of_ble_eq_true rfl, es_nil ⟨Nat.le_of_ble_eq_true rfl, es_cons (e_cst (es_nil ?_))⟩⟩))))))
      refine gs_cons (g_nm (gs_cons (g_nm (gs_nil ?_))))
      dsimp only [List.set]
      refine ss_cons (s_for (i_rngP (es_cons (e_bif (es_cons (e_var rfl (es_nil (f_len (z := .int (cs.map lab).length) rfl rfl (es_nil ⟨rangeL 0 l 1, ?_, ?_⟩)))))))))
      · rw [List.length_map, hcl]
        exact rng_ok l (by omega)
      refine OP_for (fun i s => ∃ (t : List MO) (b3 b10 b11 : Option D), nrB b3 = true ∧ nrB b10 = true ∧ nrB b11 = true ∧ i ≤ l ∧ s = ⟨[some (.scr ns), some (.ref 1), some (.lst (KS.map lab)), b3, some (.lst (cs.map lab)), some (.lst (row.map D.int)), some (.lst (o.map OD)), b7, some (.lst ((prodK i).map fun w => D.lst (w.map lab))), some .non, b10, b11, none, none, none, none, none], .dead :: .lst zs :: t⟩) ⟨t, none, none, none, rfl, rfl, rfl, Nat.zero_le _, rfl⟩ ?_ ?_
      · rintro t1 ⟨t, b3, b10, b11, h3, h10, h11, _, rfl⟩
        rw [P_rlen]
        have hfk : foundK row o = (prodK l).find? fun w => decide ((runK w row).1 = o) := by
          unfold foundK
          rw [hoc, if_neg (by omega)]
        have hx9 : ∀ x ∈ row, -(10 ^ 9) ≤ x ∧ x ≤ 10 ^ 9 := fun x hx => by have := hrow x hx; omega
        refine ss_cons (s_for (i_valP (e_var rfl ⟨_, rfl, ?_⟩)))
        have hex : ∀ (r : Option (List CK)) (b11 : Option D), r = foundK row o → OP (exSs (wN lP 30) none (F200.body.drop 9)
            ⟨[some (.scr ns), some (.ref 1), some (.lst (KS.map lab)), b3, some (.lst (cs.map lab)), some (.lst (row.map D.int)), some (.lst (o.map OD)), b7, some (.lst ((prodK l).map fun w => D.lst (w.map lab))), some (exprD r), b10, b11, none, none, none, none, none], .dead :: .lst zs :: t⟩) (LeaveP [] (fun r => r.1 = .bl true)) := by
          intro r b11 hr
          refine ss_cons (q_asg (e_cal (es_cons (e_var rfl (es_cons (e_var rfl (es_nil ?_)))))))
          refine (run46 (p := lP) (n := 26) h38 row hx9 (by omega) o (by omega) (by omega)).mono ?_
          rintro q rfl
          refine g_nm ?_
          dsimp only [List.set]
          rw [← hr]
          cases r with
          | none =>
            refine ss_cons (s_ifs (e_or (e_cmp (e_cmp (e_var rfl (e_cst (c_is (b := true) rfl ?_)))))))
            refine e_cmp (e_var rfl (e_cst (c_is (b := true) rfl (c_neB true true ⟨_, rfl, if_ff ?_⟩))))
            refine e_and (e_cmp (e_var rfl (e_cst (c_isn (b := true) rfl ⟨_, rfl, if_ff ⟨_, rfl, if_ff (ss_nil ?_)⟩⟩))))
            refine ss_cons (s_ifs (e_cmp (e_var rfl (e_cst (c_isn (b := true) rfl ⟨_, rfl, if_ff (ss_nil ?_)⟩)))))
            refine ss_cons (s_ret (e_and (e_cmp (e_cal (es_cons (e_var rfl (es_cons (e_slc (e_var rfl ?_)))))))))
            refine o_none (o_somI (e_neg (e_cst (n_int ⟨_, rfl, _, slc_V _ _ _ _, ?_⟩))))
            rw [sl_neg1, List.length_map, ← List.map_take]
            refine es_nil ?_
            refine (run46 (p := lP) (n := 26) h38 row hx9 (by omega) (o.take (o.length - 1)) (by rw [List.length_take]; omega) ?_).mono ?_
            · have e2 : cntN o = cntN (o.take (o.length - 1)) + cntN (o.drop (o.length - 1)) := by rw [← cntN_app, List.take_append_drop]
              omega
            rintro q rfl
            rw [found_len (by rw [List.length_take]; omega)]
            refine e_cst (c_is (b := true) rfl ⟨_, rfl, if_tt ?_⟩)
            refine e_cmp (e_cal (es_cons (e_var rfl (es_cons (e_bin (e_var rfl ?_))))))
            refine e_lst (es_cons (e_cst (es_nil ⟨Nat.le_of_ble_eq_true rfl, b_addL ?_ ?_⟩)))
            · rw [List.length_map]; show _ + 1 ≤ 16777216; omega
            have e3 : o.map OD ++ [D.non] = (o ++ [none]).map OD := by rw [List.map_append]; rfl
            rw [e3]
            refine es_nil ?_
            refine (run46 (p := lP) (n := 26) h38 row hx9 (by omega) (o ++ [none]) (by rw [List.length_append, List.length_singleton]; omega) ?_).mono ?_
            · rw [cntN_app]
              show _ + 1 ≤ 5
              omega
            rintro q rfl
            rw [found_len (by rw [List.length_append, List.length_singleton]; omega)]
            exact e_cst (c_is (b := true) rfl fin)
          | some w =>
            have hwm := found_mem hr.symm
            rw [hoc] at hwm
            obtain ⟨hw1, hw2⟩ := prodK_w _ w hwm
            have hwo : (runK w row).1 = o := by
              have hf := hr.symm
              rw [hfk] at hf
              have h := List.find?_some hf
              exact of_decide_eq_true h
            obtain ⟨v, hv1, hv2, hv3, hv4⟩ := found_short ⟨hl1, hl2⟩ (by omega) hoc hr.symm
            have txt : ∀ (u : List CK) (s : S), u.length = l → (∀ c ∈ u, c ∈ KS) → OP (callM (wN lP 30) (chainD u) 11 [] s) (fun r => r = (.str (Str.join " " (u.map labK)), s)) := by
              intro u s h1 h2
              refine callM_ok (g := 22) rfl rfl ?_
              refine (run22 (p := lP) (n := 28) h38.toChainH u (fun c hc => h38.m10 c (KS_plain (h2 c hc)).1) (by omega) (fun c hc => lab_short (h2 c hc))).mono ?_
              rintro q rfl
              rfl
            refine ss_cons (s_ifs (e_or (e_cmp (e_cmp (e_var rfl (e_cst (c_is (b := false) rfl ?_)))))))
            refine e_cmp (e_var rfl (e_cst (c_is (b := false) rfl (c_neB false false ⟨_, rfl, if_ff ?_⟩))))
            refine e_and (e_cmp (e_var rfl (e_cst (c_isn (b := false) rfl ⟨_, rfl, if_tt ?_⟩))))
            refine e_cmp (e_prp (e_var rfl ((txt w _ hw1 hw2).mono ?_)))
            rintro q rfl
            refine e_var rfl (c_neS (b := true) (by simp) ⟨_, rfl, if_ff (ss_nil ?_)⟩)
            refine ss_cons (s_ifs (e_cmp (e_var rfl (e_cst (c_isn (b := false) rfl ⟨_, rfl, if_tt ?_⟩)))))
            refine ss_cons (s_ifs (e_or (e_cmp (e_sub (e_app (e_var rfl ⟨rfl, es_cons (e_var rfl (es_nil (callM_ok (g := 29) rfl rfl ?_)))⟩))))))
            refine (run29 (p := lP) (n := 27) h38.toChainH (fun c hc => h38.cell c (KS_plain (hw2 c hc)).1) (by omega) row hx9 (by omega)).mono ?_
            rintro q rfl
            refine e_cst (u_of (z := .lst ((runK w row).1.map OD)) rfl rfl (e_var rfl (c_ne (eq_ODs _ _) ⟨_, rfl, ?_⟩)))
            rw [decide_eq_true hwo]
            refine if_ff (e_cmp (e_bif (es_cons (e_var rfl (es_nil (len_own (p := lP) (n := 29) rfl rfl w (by omega) ?_))))))
            refine e_bif (es_cons (e_var rfl (es_nil (f_len (z := .int (cs.map lab).length) rfl rfl (c_neI (by rw [List.length_map, hcl, hw1]) ⟨_, rfl, if_ff (ss_nil ?_)⟩)))))
            refine ss_cons (q_asg (e_slc (e_var rfl (o_none (o_somI (e_bin ?_))))))
            refine e_bif (es_cons (e_var rfl (es_nil (f_len (z := .int (cs.map lab).length) rfl rfl ?_))))
            refine e_cst (b_add ⟨_, rfl, _, slc_V _ _ _ _, g_nm ?_⟩)
            have elen : ((cs.map lab).length : Int) + 1 = ((l + 1 : Nat) : Int) := by rw [List.length_map, hcl]; omega
            rw [elen, sl_take, ← List.map_take]
            dsimp only [List.set]
            refine ss_cons (q_asg (e_cal (es_cons (e_var rfl (es_cons (e_slc (e_var rfl (o_none (o_somI (e_bin ?_))))))))))
            refine e_bif (es_cons (e_var rfl (es_nil (f_len (z := .int (cs.map lab).length) rfl rfl ?_))))
            refine e_cst (b_add ⟨_, rfl, _, slc_V _ _ _ _, es_nil ?_⟩)
            rw [elen, sl_take, ← List.map_take]
            refine (run46 (p := lP) (n := 26) h38 (row.take (l + 1)) (fun x hx => hx9 x (List.mem_of_mem_take hx)) (by rw [List.length_take]; omega) (o.take (l + 1)) (by rw [List.length_take]; omega) ?_).mono ?_
            · have e2 : cntN o = cntN (o.take (l + 1)) + cntN (o.drop (l + 1)) := by rw [← cntN_app, List.take_append_drop]
              omega
            rintro q rfl
            rw [hv1]
            refine g_nm ?_
            dsimp only [List.set]
            refine ss_cons (s_ret (e_and (e_cmp (e_var rfl (e_cst (c_isn (b := false) rfl ⟨_, rfl, if_tt ?_⟩))))))
            refine e_cmp (e_prp (e_var rfl ((txt v _ hv3 hv4).mono ?_)))
            rintro q rfl
            refine e_prp (e_var rfl ((txt w _ hw1 hw2).mono ?_))
            rintro q rfl
            exact c_leS (by rw [T_ok w hw2, T_ok v hv4]; exact hv2) fin
        refine OP_for (fun i s => ∃ b11 : Option D, s = ⟨[some (.scr ns), some (.ref 1), some (.lst (KS.map lab)), b3, some (.lst (cs.map lab)), some (.lst (row.map D.int)), some (.lst (o.map OD)), b7, some (.lst ((prodK l).map fun w => D.lst (w.map lab))), some (exprD (((prodK l).take i).find? fun w => decide ((runK w row).1 = o))), b10, b11, none, none, none, none, none], .dead :: .lst zs :: t⟩) ⟨b11, rfl⟩ ?_ ?_
        · rintro t2 ⟨b11, rfl⟩
          rw [List.length_map, List.take_length]
          exact hex _ b11 hfk.symm
        · rintro i d t2 hi ⟨b11, rfl⟩
          rw [List.getElem?_map] at hi
          cases hv : (prodK l)[i]? with
          | none => rw [hv] at hi; cases hi
          | some w =>
            rw [hv] at hi
            cases hi
            obtain ⟨hw1, hw2⟩ := prodK_w _ w (List.mem_of_getElem? hv)
            have htk : (prodK l).take (i + 1) = (prodK l).take i ++ [w] := by rw [List.take_add_one, hv]; rfl
            rw [htk, List.find?_append]
            generalize ((prodK l).take i).find? (fun w => decide ((runK w row).1 = o)) = r
            refine for_turn (g_nm ?_)
            dsimp only [List.set]
            refine ss_cons (q_asg (e_ite (e_and (e_cmp (e_var rfl (e_cst (c_is (exprD_non _ r) ⟨_, rfl, ?_⟩)))))))
            cases r with
            | some r => exact if_ff ⟨_, rfl, if_ff (e_var rfl (g_nm (ss_nil ⟨_, rfl⟩)))⟩
            | none =>
              refine if_tt (e_cmp (e_sub (e_cal (es_cons (e_var rfl (es_cons (e_var rfl (es_nil ?_))))))))
              refine (run107 (p := lP) (n := 27) rfl rfl rfl w (fun c hc => (KS_plain (hw2 c hc)).1) (by omega) row (by omega)).mono ?_
              rintro q rfl
              refine e_cst (u_of (z := .lst ((runK w row).1.map OD)) rfl rfl (e_var rfl (c_eq rfl (eq_ODs _ _) ⟨_, rfl, ?_⟩)))
              by_cases heq : (runK w row).1 = o
              · refine if_yes heq (e_bmt (e_cst ⟨rfl, es_cons (e_var rfl (es_nil ⟨_, _, join_ok _ w (by omega) (fun c hc => lab_short (hw2 c hc)), g_nm (ss_nil ⟨some (.lst (w.map lab)), ?_⟩)⟩))⟩))
                simp [heq, exprD]
              · refine if_no heq (e_var rfl (g_nm (ss_nil ⟨some (.lst (w.map lab)), ?_⟩)))
                simp [heq, exprD]
      · rintro i d t1 hi ⟨t, b3, b10, b11, h3, h10, h11, hic, rfl⟩
        rw [P_rng] at hi
        by_cases hil : i < l
        · rw [if_pos hil] at hi
          have hi : D.int (i : Int) = d := by have := Option.some.inj hi; rw [← this]; congr 1; omega
          subst hi
          refine for_turn (g_nm ?_)
          dsimp only [List.set]
          refine ss_cons (q_asg (e_lst (es_nil ⟨Nat.le_of_ble_eq_true rfl, g_nm ?_⟩)))
          dsimp only [List.set]
          refine ss_cons (s_for (i_valP (e_var rfl ⟨_, rfl, ?_⟩)))
          refine OP_for (fun j s => ∃ (t : List MO) (b11 : Option D), nrB b11 = true ∧ s = ⟨[some (.scr ns), some (.ref 1), some (.lst (KS.map lab)), some (.int (i : Int)), some (.lst (cs.map lab)), some (.lst (row.map D.int)), some (.lst (o.map OD)), b7, some (.lst ((prodK i).map fun w => D.lst (w.map lab))), some .non, some (.lst (((prodK i).take j).flatMap fun w => KS.map fun c => D.lst ((w ++ [c]).map lab))), b11, none, none, none, none, none], .dead :: .lst zs :: t⟩) ⟨t, b11, h11, rfl⟩ ?_ ?_
          · rintro t2 ⟨t, b11, h11, rfl⟩
            rw [List.length_map, List.take_length]
            refine ss_cons (q_asg (e_var rfl (g_nm (ss_nil ⟨t, some (.int (i : Int)), some (.lst ((prodK i).flatMap fun w => KS.map fun c => D.lst ((w ++ [c]).map lab))), b11, rfl, rfl, h11, hil, ?_⟩))))
            dsimp only [List.set]
            have : (prodK (i + 1)).map (fun w => D.lst (w.map lab)) = (prodK i).flatMap fun w => KS.map fun c => D.lst ((w ++ [c]).map lab) := by
              rw [prodK, List.map_flatMap]
              congr 1
            rw [this]
          · rintro j d t2 hj ⟨t, b11, h11, rfl⟩
            rw [List.getElem?_map] at hj
            cases hv : (prodK i)[j]? with
            | none => rw [hv] at hj; cases hj
            | some w =>
              rw [hv] at hj
              cases hj
              have hjl := (List.getElem?_eq_some_iff.mp hv).1
              have h4 : 4 ^ i ≤ 4 ^ 5 := Nat.pow_le_pow_right (by decide) (by omega)
              rw [prodK_len] at hjl
              obtain ⟨hw1, hw2⟩ := prodK_w _ w (List.mem_of_getElem? hv)
              have htk : (prodK i).take (j + 1) = (prodK i).take j ++ [w] := by rw [List.take_add_one, hv]; rfl
              refine for_turn (g_nm ?_)
              dsimp only [List.set]
              refine ss_cons (q_asg (e_bin (e_var rfl ?_)))
              refine e_lcI (xs := KS.map lab) (s' := ⟨[some (.scr ns), some (.ref 1), some (.lst (KS.map lab)), some (.int (i : Int)), some (.lst (cs.map lab)), some (.lst (row.map D.int)), some (.lst (o.map OD)), b7, some (.lst ((prodK i).map fun w => D.lst (w.map lab))), some .non, some (.lst (((prodK i).take j).flatMap fun w => KS.map fun c => D.lst ((w ++ [c]).map lab))), some (.lst (w.map lab)), none, none, none, none, none], .dead :: .lst zs :: t⟩)
                (fun i' ys m' => m' = .dead :: .lst zs :: t ∧ ys = (KS.take i').map fun c => D.lst ((w ++ [c]).map lab)) ?_ ?_ ?_ (by decide) ⟨rfl, rfl⟩ ?_ ?_
              · exact i_valP (e_var rfl ⟨_, rfl, rfl⟩)
              · exact Nat.le_of_ble_eq_true rfl
              · exact nr_env (by simp only [List.all_cons, List.all_nil, nr_scr, nr_int, nr_lst, nr_r1, nr_0, nr_non, hb7, Bool.and_self]) (by show t.length + 1 + 1 ≠ 1; omega)
              · rintro i' x ys m' hx ⟨rfl, rfl⟩ hm
                rw [List.getElem?_map] at hx
                cases hcv : KS[i']? with
                | none => rw [hcv] at hx; cases hx
                | some c =>
                  rw [hcv] at hx
                  cases hx
                  refine ea_nil ⟨rfl, if_tt (e_bin (e_var rfl (e_lst (es_cons (e_var rfl (es_nil ⟨Nat.le_of_ble_eq_true rfl, b_addL ?_ ?_⟩))))))⟩
                  · rw [List.length_map, hw1]; show _ + 1 ≤ 16777216; omega
                  · refine ⟨_, rfl, rfl, rfl, ?_⟩
                    rw [List.take_add_one, hcv, List.map_append]
                    simp [lab]
              · rintro ys m' ⟨rfl, rfl⟩ hm
                refine b_addL ?_ (g_nm (ss_nil ⟨t ++ [.dead], some (.lst (w.map lab)), rfl, ?_⟩))
                · rw [flat_len _ 4 (fun w => by rw [List.length_map]; rfl), List.length_take, prodK_len, List.length_map]
                  show _ + 4 ≤ 16777216
                  rw [Nat.min_eq_left (by omega)]
                  omega
                · dsimp only [List.set]
                  rw [htk, List.flatMap_append]
                  simp [KS]
        · rw [if_neg hil] at hi; cases hi
    refine ss_cons (s_ifs (e_cmp (e_cal (es_cons (e_var rfl (es_cons (e_cst (es_nil ?_))))))))
    refine (below (p := lP) (n := 29) (t := [.dead, .dead]) rfl hD 4 (by decide)).mono ?_
    rintro r ⟨v, zs, rfl, hv0, hv1, hD⟩
    refine e_cst (c_eqi ⟨_, rfl, ?_⟩)
    refine ite_bl (fun e => ?_) (fun e => ?_)
    · refine ss_cons (q_asg (e_cal ?_))
      refine es_cons (e_var rfl (es_cons (e_bif (es_cons (e_var rfl (es_nil ?_))))))
      refine f_len (z := .int (o.map OD).length) rfl rfl (es_nil ?_)
      rw [List.length_map]
      refine (below (p := lP) (n := 29) (t := [.dead, .dead]) rfl hD o.length (by omega)).mono ?_
      rintro r ⟨a, zs, rfl, ha0, ha1, hD⟩
      refine g_nm ?_
      dsimp only [List.set]
      obtain ⟨j, hj⟩ : ∃ j : Nat, a = j := ⟨a.toNat, by omega⟩
      subst hj
      have hj2 : j < o.length := by omega
      have hoj : (o.map OD)[j]? = some (OD o[j]) := by rw [List.getElem?_map, List.getElem?_eq_getElem hj2]; rfl
      refine ss_cons (q_asg (e_bin (e_bin (e_slc (e_var rfl (o_none (o_somI (e_var rfl ⟨_, rfl, _, slc_V _ _ _ _, ?_⟩))))))))
      rw [sl_take]
      have tail : ∀ (zs : List D) (x : Option Int), Dz zs → cntN [x] = cntN [o[j]] → OP (evE (wN lP 30) (.slc (.var 6) (.some (.bin .Add (.var 7) (.cst (.int 1)))) .none) ⟨[some (.scr ns), some (.ref 1), some (.lst (KS.map lab)), none, some (.lst (cs.map lab)), some (.lst (row.map D.int)), some (.lst (o.map OD)), some (.int (j : Int)), none, none, none, none, none, none, none, none, none], [.dead, .lst zs, .dead, .dead]⟩)
          (fun q => OP (binF (wN lP 30) .Add (.lst ((o.map OD).take j ++ [OD x])) q.1 q.2) (fun p => OP (asg (wN lP 30) (.name 6) p.1 p.2) (fun s => OP (exSs (wN lP 30) none [] s) (fun p => match p.1 with | .nx => OP (exSs (wN lP 30) none (F200.body.drop 6) p.2) (LeaveP [] (fun r => r.1 = .bl true)) | c => LeaveP [] (fun r => r.1 = .bl true) (c, p.2))))) := by
        intro zs x hD hx
        refine e_slc (e_var rfl (o_somI (e_bin (e_var rfl (e_cst (b_add ?_))))))
        refine ⟨_, rfl, o_none ⟨_, slc_V _ _ _ _, ?_⟩⟩
        rw [sl_drop]
        refine b_addL ?_ (g_nm (ss_nil ?_))
        · rw [List.length_append, List.length_take, List.length_drop, List.length_map]; show _ + 1 + _ ≤ 16777216; omega
        dsimp only [List.set]
        have ee : (o.map OD).take j ++ [OD x] ++ (o.map OD).drop (j + 1) = (o.take j ++ [x] ++ o.drop (j + 1)).map OD := by simp [List.map_append, List.map_take, List.map_drop]
        rw [ee]
        refine rest zs [.dead, .dead] (o.take j ++ [x] ++ o.drop (j + 1)) _ hD ?_ ?_ rfl
        · simp; omega
        · have e1 : o.take (j + 1) = o.take j ++ [o[j]] := by rw [List.take_add_one, List.getElem?_eq_getElem hj2]; rfl
          have e2 : cntN o = cntN (o.take j) + cntN [o[j]] + cntN (o.drop (j + 1)) := by
            rw [← cntN_app, ← e1, ← cntN_app, List.take_append_drop]
          rw [cntN_app, cntN_app]
          omega
      refine e_lst (es_cons (e_ite (e_cmp (e_sub (e_var rfl (e_var rfl (sub_V j hoj (e_cst (c_isn (nonOD _ _) ⟨_, rfl, ?_⟩)))))))))
      cases hojv : o[j] with
      | some y =>
        refine if_tt (e_bin (e_cal (es_cons (e_var rfl (es_cons (e_cst (es_nil ?_)))))))
        refine (below (p := lP) (n := 29) (t := [.dead, .dead]) rfl hD 7 (by decide)).mono ?_
        rintro r ⟨v3, zs, rfl, hv30, hv31, hD⟩
        refine e_cst (b_sub (es_nil ⟨Nat.le_of_ble_eq_true rfl, b_addL ?_ (tail zs (some (v3 - 3)) hD (by rw [hojv]; rfl))⟩))
        rw [List.length_take, List.length_map]; show _ + 1 ≤ 16777216; omega
      | none =>
        refine if_ff (e_cst (es_nil ⟨Nat.le_of_ble_eq_true rfl, b_addL ?_ (tail zs none hD (by rw [hojv]))⟩))
        rw [List.length_take, List.length_map]; show _ + 1 ≤ 16777216; omega
    · exact ss_nil (rest zs [.dead, .dead] o none hD (by omega) (by omega) rfl)
  obtain ⟨⟨d, m⟩, e, h⟩ := main
  cases h
  exact ⟨m, e⟩
end SV
set_option linter.all false
set_option Elab.async false
set_option maxRecDepth 100000
set_option maxHeartbeats 4000000
open PySem PySem.W PyProof.Rows in
set_option maxRecDepth 100000 in
set_option maxHeartbeats 0 in
theorem PySem.Challenge.cw_siftchain_k38_whole_made_chains_by_tryin_holds : PySem.Challenge.rw_siftchain_k38_whole_made_chains_by_tryin.Holds := by
  w_on; o_law; k_head; (case hw => w_witness2)
  k_fill
  refine SV.walkEnd (l := PySem.Challenge.rw_siftchain_k38_whole_made_chains_by_tryin) (n := 30) rfl rfl ⟨rfl, by decide, by decide⟩ (fun w h Y => PySem.W.kIn_of Y) ?F
  case F =>
    intro w mg fa h KX G hmg
    refine' SV.all_mk KX G hmg ?hC0 ?hC1 ?hC2 ?hC3 ?hC5 ?a0 ?l0 ?c0 ?k0 ?a2 ?l2 ?c2 ?k2 ?a3 ?l3 ?c3 ?k3 ?a4 ?l4 ?c4 ?k4 ?a7 ?r7 ?pg7 ?pt7 ?l7 ?c7 ?k7 ?a8 ?l8 ?c8 ?k8 ?a10 ?l10 ?c10 ?k10 ?a12 ?l12 ?c12 ?k12 ?a19 ?l19 ?c19 ?k19 ?a20 ?l20 ?c20 ?k20 ?a22 ?r22 ?pg22 ?pt22 ?l22 ?c22 ?k22 ?a23 ?r23 ?pg23 ?pt23 ?l23 ?c23 ?k23 ?a24 ?l24 ?c24 ?k24 ?a25 ?l25 ?c25 ?k25 ?a29 ?l29 ?c29 ?k29 ?a46 ?l46 ?c46 ?k46 ?a100 ?l100 ?c100 ?k100 ?a101 ?l101 ?c101 ?k101 ?a105 ?l105 ?c105 ?k105 ?a106 ?l106 ?c106 ?k106 ?a107 ?l107 ?c107 ?k107 ?a200 ?l200 ?c200 ?k200 ?pg_0 ?hd_0 ?po_0 ?sa_0 ?ca_0 ?mo_0 ?kb_0_int ?kb_0_bool ?kb_0_str ?kb_0_tuple ?kb_0_list ?kb_0_dict ?pg_1 ?hd_1 ?po_1 ?sa_1 ?ca_1 ?mo_1 ?kb_1_int ?kb_1_bool ?kb_1_str ?kb_1_tuple ?kb_1_list ?kb_1_dict ?pg_2 ?hd_2 ?po_2 ?sa_2 ?ca_2 ?mo_2 ?kb_2_int ?kb_2_bool ?kb_2_str ?kb_2_tuple ?kb_2_list ?kb_2_dict ?pg_3 ?hd_3 ?po_3 ?sa_3 ?ca_3 ?mo_3 ?kb_3_int ?kb_3_bool ?kb_3_str ?kb_3_tuple ?kb_3_list ?kb_3_dict ?pg_5 ?hd_5 ?po_5 ?sa_5 ?ca_5 ?mo_5 ?kb_5_int ?kb_5_bool ?kb_5_str ?kb_5_tuple ?kb_5_list ?kb_5_dict ?hn_ ?ht_ ?nf_0_0 ?nf_1_0 ?nf_2_0 ?nf_3_0 ?nf_0_1 ?nf_5_2 ?nf_5_3 ?nf_5_4 ?nf_5_5 ?nf_5_6 ?nf_5_7 ?nf_5_8 ?nf_5_9 ?nf_5_10 ?nf_5_11 ?kc_0 ?kg_0 ?kc_1 ?kg_1 ?kc_2 ?kg_2 ?kc_3 ?kg_3 ?mk_0 ?in_0 ?if_3 ?kp_0 ?mk_1 ?in_1 ?kp_1 ?mk_2 ?in_2 ?kp_2 ?mk_3 ?in_3 ?kp_3 ?mk_5 ?in_5 ?if_20 ?kp_5 ?m_0_0 ?if_4 ?fi_4 ?m_0_10 ?m_1_0 ?if_8 ?fi_8 ?m_1_10 ?m_2_0 ?if_10 ?fi_10 ?m_2_10 ?m_3_0 ?if_12 ?fi_12 ?m_3_10 ?m_5_0 ?if_29 ?fi_29 ?m_5_3 ?if_24 ?fi_24 ?sf_5 ?m_5_4 ?if_25 ?fi_25 ?m_5_11 ?m_5_12 ?ty_0 ?kt_0_NoneType ?kt_0_int ?kt_0_bool ?kt_0_str ?kt_0_tuple ?kt_0_list ?kt_0_dict ?ko_0_0 ?ko_0_1 ?ko_0_2 ?ko_0_3 ?ko_0_5 ?i_GREAT ?i_MAX_ROW ?i_MAX_MADE ?rd_ ?ga_ ?mx_ ?b_len ?b_abs ?b_min ?b_max ?b_sorted ?b_int ?b_str ?b_list ?b_tuple ?b_dict ?b_sum ?b_all ?b_isinstance ?b_enumerate ?b_range ?b_zip ?b_set ?b_bool ?b_super SV.law_true
    (case hC0 => k_is)
    (case hC1 => k_is)
    (case hC2 => k_is)
    (case hC3 => k_is)
    (case hC5 => k_is)
    (case a0 => k_is)
    (case l0 => k_is)
    (case c0 => k_is)
    (case k0 => k_is)
    (case a2 => k_is)
    (case l2 => k_is)
    (case c2 => k_is)
    (case k2 => k_is)
    (case a3 => k_is)
    (case l3 => k_is)
    (case c3 => k_is)
    (case k3 => k_is)
    (case a4 => k_is)
    (case l4 => k_is)
    (case c4 => k_is)
    (case k4 => k_is)
    (case a7 => k_is)
    (case r7 => k_is)
    (case pg7 => k_is)
    (case pt7 => k_is)
    (case l7 => k_is)
    (case c7 => k_is)
    (case k7 => k_is)
    (case a8 => k_is)
    (case l8 => k_is)
    (case c8 => k_is)
    (case k8 => k_is)
    (case a10 => k_is)
    (case l10 => k_is)
    (case c10 => k_is)
    (case k10 => k_is)
    (case a12 => k_is)
    (case l12 => k_is)
    (case c12 => k_is)
    (case k12 => k_is)
    (case a19 => k_is)
    (case l19 => k_is)
    (case c19 => k_is)
    (case k19 => k_is)
    (case a20 => k_is)
    (case l20 => k_is)
    (case c20 => k_is)
    (case k20 => k_is)
    (case a22 => k_is)
    (case r22 => k_is)
    (case pg22 => k_is)
    (case pt22 => k_is)
    (case l22 => k_is)
    (case c22 => k_is)
    (case k22 => k_is)
    (case a23 => k_is)
    (case r23 => k_is)
    (case pg23 => k_is)
    (case pt23 => k_is)
    (case l23 => k_is)
    (case c23 => k_is)
    (case k23 => k_is)
    (case a24 => k_is)
    (case l24 => k_is)
    (case c24 => k_is)
    (case k24 => k_is)
    (case a25 => k_is)
    (case l25 => k_is)
    (case c25 => k_is)
    (case k25 => k_is)
    (case a29 => k_is)
    (case l29 => k_is)
    (case c29 => k_is)
    (case k29 => k_is)
    (case a46 => k_is)
    (case l46 => k_is)
    (case c46 => k_is)
    (case k46 => k_is)
    (case a100 => k_is)
    (case l100 => k_is)
    (case c100 => k_is)
    (case k100 => k_is)
    (case a101 => k_is)
    (case l101 => k_is)
    (case c101 => k_is)
    (case k101 => k_is)
    (case a105 => k_is)
    (case l105 => k_is)
    (case c105 => k_is)
    (case k105 => k_is)
    (case a106 => k_is)
    (case l106 => k_is)
    (case c106 => k_is)
    (case k106 => k_is)
    (case a107 => k_is)
    (case l107 => k_is)
    (case c107 => k_is)
    (case k107 => k_is)
    (case a200 => k_is)
    (case l200 => k_is)
    (case c200 => k_is)
    (case k200 => k_is)
    (case pg_0 => k_is)
    (case hd_0 => k_is)
    (case po_0 => k_is)
    (case sa_0 => k_is)
    (case ca_0 => k_is)
    (case mo_0 => k_is)
    (case kb_0_int => k_is)
    (case kb_0_bool => k_is)
    (case kb_0_str => k_is)
    (case kb_0_tuple => k_is)
    (case kb_0_list => k_is)
    (case kb_0_dict => k_is)
    (case pg_1 => k_is)
    (case hd_1 => k_is)
    (case po_1 => k_is)
    (case sa_1 => k_is)
    (case ca_1 => k_is)
    (case mo_1 => k_is)
    (case kb_1_int => k_is)
    (case kb_1_bool => k_is)
    (case kb_1_str => k_is)
    (case kb_1_tuple => k_is)
    (case kb_1_list => k_is)
    (case kb_1_dict => k_is)
    (case pg_2 => k_is)
    (case hd_2 => k_is)
    (case po_2 => k_is)
    (case sa_2 => k_is)
    (case ca_2 => k_is)
    (case mo_2 => k_is)
    (case kb_2_int => k_is)
    (case kb_2_bool => k_is)
    (case kb_2_str => k_is)
    (case kb_2_tuple => k_is)
    (case kb_2_list => k_is)
    (case kb_2_dict => k_is)
    (case pg_3 => k_is)
    (case hd_3 => k_is)
    (case po_3 => k_is)
    (case sa_3 => k_is)
    (case ca_3 => k_is)
    (case mo_3 => k_is)
    (case kb_3_int => k_is)
    (case kb_3_bool => k_is)
    (case kb_3_str => k_is)
    (case kb_3_tuple => k_is)
    (case kb_3_list => k_is)
    (case kb_3_dict => k_is)
    (case pg_5 => k_is)
    (case hd_5 => k_is)
    (case po_5 => k_is)
    (case sa_5 => k_is)
    (case ca_5 => k_is)
    (case mo_5 => k_is)
    (case kb_5_int => k_is)
    (case kb_5_bool => k_is)
    (case kb_5_str => k_is)
    (case kb_5_tuple => k_is)
    (case kb_5_list => k_is)
    (case kb_5_dict => k_is)
    (case hn_ => k_is)
    (case ht_ => k_is)
    (case nf_0_0 => k_is)
    (case nf_1_0 => k_is)
    (case nf_2_0 => k_is)
    (case nf_3_0 => k_is)
    (case nf_0_1 => k_is)
    (case nf_5_2 => k_is)
    (case nf_5_3 => k_is)
    (case nf_5_4 => k_is)
    (case nf_5_5 => k_is)
    (case nf_5_6 => k_is)
    (case nf_5_7 => k_is)
    (case nf_5_8 => k_is)
    (case nf_5_9 => k_is)
    (case nf_5_10 => k_is)
    (case nf_5_11 => k_is)
    (case kc_0 => k_is)
    (case kg_0 => k_is)
    (case kc_1 => k_is)
    (case kg_1 => k_is)
    (case kc_2 => k_is)
    (case kg_2 => k_is)
    (case kc_3 => k_is)
    (case kg_3 => k_is)
    (case mk_0 => k_is)
    (case in_0 => k_is)
    (case if_3 => k_is)
    (case kp_0 => k_is)
    (case mk_1 => k_is)
    (case in_1 => k_is)
    (case kp_1 => k_is)
    (case mk_2 => k_is)
    (case in_2 => k_is)
    (case kp_2 => k_is)
    (case mk_3 => k_is)
    (case in_3 => k_is)
    (case kp_3 => k_is)
    (case mk_5 => k_is)
    (case in_5 => k_is)
    (case if_20 => k_is)
    (case kp_5 => k_is)
    (case m_0_0 => k_is)
    (case if_4 => k_is)
    (case fi_4 => k_is)
    (case m_0_10 => k_is)
    (case m_1_0 => k_is)
    (case if_8 => k_is)
    (case fi_8 => k_is)
    (case m_1_10 => k_is)
    (case m_2_0 => k_is)
    (case if_10 => k_is)
    (case fi_10 => k_is)
    (case m_2_10 => k_is)
    (case m_3_0 => k_is)
    (case if_12 => k_is)
    (case fi_12 => k_is)
    (case m_3_10 => k_is)
    (case m_5_0 => k_is)
    (case if_29 => k_is)
    (case fi_29 => k_is)
    (case m_5_3 => k_is)
    (case if_24 => k_is)
    (case fi_24 => k_is)
    (case sf_5 => k_is)
    (case m_5_4 => k_is)
    (case if_25 => k_is)
    (case fi_25 => k_is)
    (case m_5_11 => k_is)
    (case m_5_12 => k_is)
    (case ty_0 => k_is)
    (case kt_0_NoneType => k_is)
    (case kt_0_int => k_is)
    (case kt_0_bool => k_is)
    (case kt_0_str => k_is)
    (case kt_0_tuple => k_is)
    (case kt_0_list => k_is)
    (case kt_0_dict => k_is)
    (case ko_0_0 => k_is)
    (case ko_0_1 => k_is)
    (case ko_0_2 => k_is)
    (case ko_0_3 => k_is)
    (case ko_0_5 => k_is)
    (case i_GREAT => k_is)
    (case i_MAX_ROW => k_is)
    (case i_MAX_MADE => k_is)
    (case rd_ => k_is)
    (case ga_ => k_is)
    (case mx_ => k_is)
    (case b_len => k_is)
    (case b_abs => k_is)
    (case b_min => k_is)
    (case b_max => k_is)
    (case b_sorted => k_is)
    (case b_int => k_is)
    (case b_str => k_is)
    (case b_list => k_is)
    (case b_tuple => k_is)
    (case b_dict => k_is)
    (case b_sum => k_is)
    (case b_all => k_is)
    (case b_isinstance => k_is)
    (case b_enumerate => k_is)
    (case b_range => k_is)
    (case b_zip => k_is)
    (case b_set => k_is)
    (case b_bool => k_is)
    (case b_super => k_is)
