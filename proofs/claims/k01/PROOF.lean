import PyProof.Rows.All
import Wide.All
import OpenK.AllK
import Wide.FinOn
import KE.RegKSuper
import PySem.Challenge.RW_siftchain_k01_cells_and_labels
import HandS.ClsMeth
import HandS.Deep
import HandS.DictComp
import HandS.DictEq
import HandS.DictTup
import HandS.EndOwn
import HandS.ExcField
import HandS.ExcInit
import HandS.ExcIs
import HandS.ExcOwn
import HandS.FStr
import HandS.Flt
import HandS.ForExc
import HandS.ForMost
import HandS.IsInst
import HandS.Iter
import HandS.Lambda
import HandS.ListItems
import HandS.More
import HandS.Nested
import HandS.NoneIn
import HandS.OwnEq
import HandS.Property
import HandS.SetFor
import HandS.Sort
import HandS.SortInts
import HandS.Star
import HandS.Strs
import HandS.Style
import HandS.Text
import HandS.TryOnly
import HandS.TupMul
import HandS.Wide
import HandS.Words
import HandS.WordsDict
import HandS.Zip
import KE.DataFind
import KE.DataMinMax
import KE.GoesEnum
import KE.IntTextLaws
import KE.KDictDisplayH
import KE.KDictKeyed
import KE.KSuper
import KE.SortData
import PyProof.P3Eq
import PyProof.Rows.Walk
import PyProof.StrBlockL
import PyProof.StrLawsChain
import PyProof.StrLawsTight
import PyProof.SumWalkG
import PySem.StrEq
import PySem.Syntax
set_option linter.all false
namespace SV
open PySem
/-- a value: what never changes is told by value, what may change by a place k of the store -/
inductive D where
  | non
  | bl (b : Bool)
  | int (i : Int)
  | str (s : Str)
  | tup (xs : List D)
  | lst (xs : List D)
  | dct (es : List D)
  | ins (c : Nat) (xs : List D)
  | ref (k : Nat)
  | clo (k : Nat)
  | cls (c : Nat)
  | scr (xs : List Int)
  deriving Inhabited
mutual
def D.beq : D → D → Bool
  | .non, .non => true
  | .bl a, .bl b => a == b
  | .int a, .int b => a == b
  | .str a, .str b => a == b
  | .tup a, .tup b => D.beqs a b
  | .lst a, .lst b => D.beqs a b
  | .dct a, .dct b => D.beqs a b
  | .ins c a, .ins d b => c == d && D.beqs a b
  | .ref a, .ref b => a == b
  | .clo a, .clo b => a == b
  | .cls a, .cls b => a == b
  | .scr a, .scr b => a == b
  | _, _ => false
def D.beqs : List D → List D → Bool
  | [], [] => true
  | a :: x, b :: y => D.beq a b && D.beqs x y
  | _, _ => false
end
mutual
theorem D.beq_ok : ∀ (a b : D), D.beq a b = true → a = b
  | .non, b, h => by cases b <;> simp [D.beq] at h ⊢
  | .bl x, b, h => by cases b <;> simp [D.beq] at h ⊢ <;> exact h
  | .int x, b, h => by cases b <;> simp [D.beq] at h ⊢ <;> exact h
  | .str x, b, h => by cases b <;> simp [D.beq] at h ⊢ <;> exact h
  | .tup x, b, h => by
    cases b <;> simp [D.beq] at h ⊢
    exact D.beqs_ok _ _ h
  | .lst x, b, h => by
    cases b <;> simp [D.beq] at h ⊢
    exact D.beqs_ok _ _ h
  | .dct x, b, h => by
    cases b <;> simp [D.beq] at h ⊢
    exact D.beqs_ok _ _ h
  | .ins c x, b, h => by
    cases b <;> simp [D.beq] at h ⊢
    exact ⟨h.1, D.beqs_ok _ _ h.2⟩
  | .ref x, b, h => by cases b <;> simp [D.beq] at h ⊢ <;> exact h
  | .clo x, b, h => by cases b <;> simp [D.beq] at h ⊢ <;> exact h
  | .cls x, b, h => by cases b <;> simp [D.beq] at h ⊢ <;> exact h
  | .scr x, b, h => by cases b <;> simp [D.beq] at h ⊢ <;> exact h
theorem D.beqs_ok : ∀ (a b : List D), D.beqs a b = true → a = b
  | [], b, h => by cases b <;> simp [D.beqs] at h ⊢
  | x :: r, b, h => by
    cases b with
    | nil => simp [D.beqs] at h
    | cons y t =>
      simp [D.beqs] at h
      rw [D.beq_ok _ _ h.1, D.beqs_ok _ _ h.2]
end
mutual
theorem D.beq_refl : ∀ (a : D), D.beq a a = true
  | .non => rfl
  | .bl x => by simp [D.beq]
  | .int x => by simp [D.beq]
  | .str x => by simp [D.beq]
  | .tup x => by simp [D.beq]; exact D.beqs_refl x
  | .lst x => by simp [D.beq]; exact D.beqs_refl x
  | .dct x => by simp [D.beq]; exact D.beqs_refl x
  | .ins c x => by simp [D.beq]; exact D.beqs_refl x
  | .ref x => by simp [D.beq]
  | .clo x => by simp [D.beq]
  | .cls x => by simp [D.beq]
  | .scr x => by simp [D.beq]
theorem D.beqs_refl : ∀ (a : List D), D.beqs a a = true
  | [] => rfl
  | x :: r => by simp [D.beqs]; exact ⟨D.beq_refl x, D.beqs_refl r⟩
end
instance : DecidableEq D := fun a b => if h : D.beq a b = true then .isTrue (D.beq_ok a b h) else .isFalse fun e => h (e ▸ D.beq_refl a)
/-- what stands at a place of the store -/
inductive MO where
  | lst (xs : List D)
  | dct (es : List D)
  | obj (c : Nat) (fs : List (Nat × D))
  | dead
  /-- a list, a dict that a loop walks: read, not written -/
  | lkl (xs : List D)
  | lkd (es : List D)
  deriving Inhabited, DecidableEq
/-- a def's state: its names by slot, the store -/
structure S where
  e : List (Option D)
  m : List MO
  deriving Inhabited
inductive Out (α : Type) where
  | ok (a : α)
  | exc (c : Nat) (d : D) (s : S)
  | bad
  deriving Inhabited
@[inline] def Out.bind {α β : Type} : Out α → (α → Out β) → Out β
  | .ok a, f => f a
  | .exc c d s, _ => .exc c d s
  | .bad, _ => .bad
instance : Monad Out where
  pure := .ok
  bind := Out.bind
inductive Ctl where
  | nx | brk | cnt | ret (d : D)
  deriving Inhabited, DecidableEq
inductive Ty where
  | int | bool | str | tuple | list | dict | own (c : Nat)
  deriving DecidableEq, Inhabited, Repr
inductive Bi where
  | len | abs | min1 | max1 | min2 | max2 | max3 | sorted | int | str | list | tuple | dict | sum | all | sset | ditems | dsumv
  deriving DecidableEq, Inhabited, Repr
inductive Bm where
  | append | extend | pop0 | pop1 | count | index | get2 | getT | items | values | split | join
  deriving DecidableEq, Inhabited, Repr
mutual
inductive Ex where
  | cst (d : D)
  | var (i : Nat)
  | frz (a : Ex)
  | new (a : Ex)
  /-- e, while the thing that a names is locked -/
  | lok (a e : Ex)
  /-- a list or dict of the store that no name holds becomes a value -/
  | frn (a : Ex)
  | bin (op : Operator) (a b : Ex)
  | neg (a : Ex)
  | cmp (op : CmpOp) (a b : Ex)
  | chn (o1 o2 : CmpOp) (a b c : Ex)
  | and (a b : Ex)
  | or (a b : Ex)
  | not (a : Ex)
  | ite (c a b : Ex)
  | tup (es : Exs)
  | lst (es : Exs)
  | dsp (ps : Exs)
  | ds1 (k v : Ex)
  | sub (a b : Ex)
  | slc (a : Ex) (lo hi : Exo)
  | rev (a : Ex)
  | fld (a : Ex) (f : Nat)
  | prp (a : Ex) (m : Nat)
  | kcn (a : Ex) (k : Nat)
  | cal (f : Nat) (es : Exs)
  | mth (a : Ex) (m : Nat) (es : Exs)
  | smt (f : Nat) (c : Nat) (es : Exs)
  | ctr (c : Nat) (es : Exs)
  | ctv (i : Nat) (c : Nat) (es : Exs)
  /-- == or != of own instances, or of tuples of them -/
  | oeq (ne : Bool) (a b : Ex)
  | app (a : Ex) (es : Exs)
  | bif (b : Bi) (es : Exs)
  | bmt (b : Bm) (a : Ex) (es : Exs)
  | isi (a : Ex) (t : Ty)
  | fst (a : Ex)
  | lam (k : Nat)
  | eof (a : Ex)
  | alr (a b : Ex)
  | lc (e : Ex) (own : List Nat) (t : Tg) (it : It) (ifs : Exs)
  | lc2 (e : Ex) (own own1 : List Nat) (t : Tg) (it : It) (t1 : Tg) (it1 : It)
  | dc (k v : Ex) (own : List Nat) (t : Tg) (it : It)
inductive Exo where
  | none
  | some (a : Ex)
inductive Exs where
  | nil
  | cons (a : Ex) (r : Exs)
  | star (a : Ex) (r : Exs)
inductive It where
  | val (a : Ex)
  | enm (a : Ex)
  | zip (a b : Ex)
  | rng (es : Exs)
  /-- the items of a locked dict; of a new dict; the keys of a locked dict or the items of a locked list -/
  | itm (a : Ex)
  | itf (a : Ex)
  | lkv (a : Ex)
inductive Tg where
  | name (i : Nat)
  | tup (ts : Tgs)
  | sub (o i : Ex)
  | att (o : Ex) (f : Nat)
inductive Tgs where
  | nil
  | cons (t : Tg) (r : Tgs)
end
inductive Sm where
  | mat (a : Ex) (ps : List (Str × Option Nat)) (bs : List Sm)
  | asg (t : Tg) (a : Ex)
  | par (ts : Tgs) (es : Exs)
  | aug (i : Nat) (op : Operator) (a : Ex)
  | exp (a : Ex)
  | ifs (c : Ex) (a b : List Sm)
  | whl (c : Ex) (b : List Sm)
  | for (t : Tg) (it : It) (b : List Sm)
  | ret (a : Ex)
  | rse (c : Nat) (a : Ex)
  | rers
  | try (b : List Sm) (h : List Sm)
  /-- a statement, while the thing that a names is locked -/
  | lok (a : Ex) (b : Sm)
  | pas
  | never
instance : Inhabited Ex := ⟨.cst .non⟩
instance : Inhabited Sm := ⟨.pas⟩
instance : Inhabited Tg := ⟨.name 0⟩
/-- how many targets -/
def tgN : Tgs → Nat
  | .nil => 0
  | .cons _ r => tgN r + 1
/-- classes: 0 Cell, 1 Last, 2 Less, 3 Greater, 4 Near, 5 Chain, 6 Flow, 7 Observer, 8 Worktop; errors from 20 on -/
def isSub : Nat → Nat → Bool
  | c, 0 => decide (c < 5)
  | c, 20 => decide (20 ≤ c)
  | c, t => c == t
/-- the fields of the classes whose objects never change behind their making; none: its objects may change -/
def flds : Nat → Option (List Nat)
  | 0 => some [0] | 1 => some [0] | 2 => some [0] | 3 => some [0] | 4 => some [0, 1] | 5 => some [2] | 6 => some [3, 4, 5]
  | _ => none
def seqOf (m : List MO) : D → Option (List D)
  | .tup xs => some xs
  | .lst xs => some xs
  | .ref k => match m[k]? with
    | some (.lst xs) => some xs
    | _ => none
  | _ => none
def dctOf (m : List MO) : D → Option (List D)
  | .dct es => some es
  | .ref k => match m[k]? with
    | some (.dct es) => some es
    | _ => none
  | _ => none
/-- .. also a locked one -/
def dctR (m : List MO) : D → Option (List D)
  | .dct es => some es
  | .ref k => match m[k]? with
    | some (.dct es) => some es
    | some (.lkd es) => some es
    | _ => none
  | _ => none
/-- locked; as before -/
def lckM : MO → Option MO
  | .lst xs => some (.lkl xs)
  | .dct es => some (.lkd es)
  | _ => none
/-- as a value, where it is a list or a dict of the store -/
def rslv (m : List MO) : D → D
  | .ref k => match m[k]? with
    | some (.lst xs) => .lst xs
    | some (.dct es) => .dct es
    | _ => .ref k
  | d => d
/-- data, at most n deep -/
def okD : Nat → D → Bool
  | _, .non => true
  | _, .bl _ => true
  | _, .int _ => true
  | _, .str s => s.cps.all (· < 0x110000)
  | n + 1, .tup xs => xs.all (okD n)
  | n + 1, .lst xs => xs.all (okD n)
  | _, _ => false
mutual
/-- == of data -/
def eqB : D → D → Bool
  | .non, .non => true
  | .bl a, .bl b => a == b
  | .bl a, .int j => (if a then 1 else 0) == j
  | .int i, .bl b => i == (if b then 1 else 0)
  | .int a, .int b => a == b
  | .str a, .str b => a == b
  | .tup a, .tup b => eqBs a b
  | .lst a, .lst b => eqBs a b
  | _, _ => false
def eqBs : List D → List D → Bool
  | [], [] => true
  | a :: x, b :: y => eqB a b && eqBs x y
  | _, _ => false
end
/-- == of data -/
def eqD (x y : D) : Option Bool := match x, y with
  | .str a, .str b => some (a == b)
  | x, y => if okD 60 x && okD 60 y then some (eqB x y) else none
/-- == of other things -/
def eqX (x y : D) : Option Bool := match x, y with
  | .tup a, .tup b =>
    if a = [] ∨ b = [] then some (decide (a = [] ∧ b = [])) else none
  | .lst a, .lst b => if a.length ≠ b.length then some false else none
  | _, _ => none
mutual
def toksD : D → List (Int ⊕ List Nat)
  | .bl b => [.inl (if b = true then 1 else 0)]
  | .int n => [.inl n]
  | .str x => [.inr x.cps.toList]
  | .lst xs => toksDs xs
  | .tup xs => toksDs xs
  | _ => []
def toksDs : List D → List (Int ⊕ List Nat)
  | [] => [.inl 0]
  | x :: xs => .inl 1 :: (toksD x ++ toksDs xs)
end
mutual
/-- place by place of one kind -/
def alikD : D → D → Bool
  | .int _, .int _ => true
  | .str _, .str _ => true
  | .non, .non => true
  | .tup a, .tup b => alikDs a b
  | .lst a, .lst b => alikDs a b
  | _, _ => false
def alikDs : List D → List D → Bool
  | a :: x, b :: y => alikD a b && alikDs x y
  | _, _ => true
end
def itLt : Int ⊕ List Nat → Int ⊕ List Nat → Bool
  | .inl a, .inl b => decide (a < b)
  | .inl _, .inr _ => true
  | .inr _, .inl _ => false
  | .inr a, .inr b => decide (a < b)
def lxLt : List (Int ⊕ List Nat) → List (Int ⊕ List Nat) → Bool
  | [], [] => false
  | [], _ :: _ => true
  | _ :: _, [] => false
  | x :: r, y :: t => itLt x y || (!itLt y x && lxLt r t)
def ltG (a b : D) : Bool := lxLt (toksD a) (toksD b)
def leG (a b : D) : Bool := !ltG b a
def tupNE : D → Bool
  | .tup (_ :: _) => true
  | _ => false
def notTN : D → Bool
  | .tup _ => false
  | .non => false
  | _ => true
def sortable (xs : List D) : Bool := xs.all (okD 40) && xs.all (fun a => xs.all (alikD a)) && (xs.all tupNE || xs.all notTN)
/-- sorted, where all items are of one kind -/
def sortG (xs : List D) : Option (List D) := if sortable xs = true then some (xs.mergeSort leG) else none
/-- the first of the least -/
def minG (x : D) (xs : List D) : D := xs.foldl (fun a b => if ltG b a then b else a) x
def sizeL : Nat := 16777216
def lok (xs : List D) : Bool := decide (xs.length ≤ sizeL)
def opt {α : Type} : Option α → Out α
  | some a => .ok a
  | none => .bad
def gd (b : Bool) : Out Unit := if b then .ok () else .bad
/-- an index into a sequence of n -/
def ixOf (i : Int) (n : Nat) : Option Nat := if 0 ≤ i then (if i < n then some i.toNat else none) else if 0 ≤ i + n then some (i + n).toNat else none
def clampI (i : Int) (n : Nat) : Nat := if i < 0 then (i + n).toNat else min i.toNat n
def sliceL {α : Type} (xs : List α) (lo hi : Option Int) : List α :=
  let a := match lo with | none => 0 | some i => clampI i xs.length
  let b := match hi with | none => xs.length | some i => clampI i xs.length
  (xs.take b).drop a
def strOf (s : List Nat) : Str := ⟨s.toArray⟩
def Str.sub (s : Str) (lo hi : Option Int) : Str := strOf (sliceL s.cps.toList lo hi)
/-- a text sign by sign -/
def signs (s : Str) : List D := s.cps.toList.map fun c => .str (strOf [c])
def dget (es : List D) (k : D) : Option D := match es with
  | [] => none
  | .tup [a, v] :: r => if a = k then some v else dget r k
  | _ :: r => dget r k
def keyOf : D → D
  | .tup (k :: _) => k
  | _ => .clo 0
def dput (es : List D) (k v : D) : List D := if (es.any fun e => decide (keyOf e = k)) = true then es.map (fun e => if keyOf e = k then .tup [keyOf e, v] else e) else es ++ [.tup [k, v]]
/-- a key that is an int or a text -/
def keyK : D → Bool
  | .int _ => true
  | .str _ => true
  | _ => false
/-- a key of the kind of the others -/
def kindOk (es : List D) (k : D) : Bool := keyK k && es.all fun e => keyK (keyOf e)
/-- a key that is a tuple, its items; a key of a dict whose keys are tuples -/
def keyN : Nat → D → Bool
  | _, .int _ => true
  | _, .str _ => true
  | _, .non => true
  | n + 1, .tup xs => xs.all (keyN n)
  | _, _ => false
def keyT : D → Bool
  | .tup xs => xs.all (keyN 3)
  | _ => false
def kindT (es : List D) (k : D) : Bool := keyT k && es.all fun e => keyT (keyOf e)
def dkeys (es : List D) : List D := es.map fun | .tup (k :: _) => k | _ => .non
def dvals (es : List D) : List D := es.map fun | .tup [_, v] => v | _ => .non
/-- a sequence by value, a dict by value -/
def seqV : D → Option (List D)
  | .lst xs => some xs
  | .tup xs => some xs
  | _ => none
def dctV : D → Option (List D)
  | .dct es => some es
  | _ => none
/-- what a for walks -/
def walkD : D → Option (List D)
  | .lst xs => some xs
  | .tup xs => some xs
  | .scr xs => some (xs.map .int)
  | .str s => some (signs s)
  | _ => none
def digVal : Nat → Option Nat := fun c => if 48 ≤ c ∧ c ≤ 57 then some (c - 48) else none
def natOf : List Nat → Nat → Option Nat
  | [], n => some n
  | c :: r, n => match digVal c with
    | some k => natOf r (n * 10 + k)
    | none => none
/-- int of a text of digits, with or without a minus -/
def intOf (s : Str) : Option Int := match s.cps.toList with
  | [] => none
  | 45 :: r => if r.isEmpty then none else match natOf r 0 with
    | some n => some (-(n : Int))
    | none => none
  | l => match natOf l 0 with
    | some n => some (n : Int)
    | none => none
def strOfInt (i : Int) : Str := Str.ofString (toString i)
def binD (m : List MO) (op : Operator) (x y : D) : Out D :=
  match op, x, y with
  | .Add, .int i, .int j => .ok (.int (i + j))
  | .Add, .str a, .str b => do gd (decide (a.length + b.length ≤ sizeL)); .ok (.str (a ++ b))
  | .Add, .tup a, .tup b => do gd (decide (a.length + b.length ≤ sizeL)); .ok (.tup (a ++ b))
  | .Add, x, y => match rslv m x, rslv m y with
    | .lst a, .lst b => do gd (decide (a.length + b.length ≤ sizeL)); .ok (.lst (a ++ b))
    | _, _ => .bad
  | .Sub, .int i, .int j => .ok (.int (i - j))
  | .Mult, .int i, .int j => do gd (decide ((-(2 ^ 64) < i ∧ i < 2 ^ 64) ∨ (-(2 ^ 64) < j ∧ j < 2 ^ 64))); .ok (.int (i * j))
  | .Mult, .tup a, .int k => do gd (decide (a ≠ [] ∧ a.length ≤ 1000 ∧ -(2 ^ 62) < k ∧ k ≤ 1000)); .ok (.tup (List.replicate k.toNat a).flatten)
  | .Mult, x, .int k => match rslv m x with
    | .lst a => do gd (decide (a.length * k.toNat ≤ sizeL ∧ -(2 ^ 62) < k ∧ k < 2 ^ 62)); .ok (.lst (List.replicate k.toNat a).flatten)
    | _ => .bad
  | .FloorDiv, .int i, .int j => do gd (decide (0 < j ∧ j < 2 ^ 62)); .ok (.int (i / j))
  | .Mod, .int i, .int j => do gd (decide (0 < j)); .ok (.int (i % j))
  | .Pow, .int i, .int j => do gd (decide (0 ≤ j ∧ j ≤ 1000000 ∧ i.natAbs < 2 ^ 64)); .ok (.int (i ^ j.toNat))
  | _, _, _ => .bad
/-- x op= y: ints, texts -/
def augD (op : Operator) (x y : D) : Out D := match op, x, y with
  | .Add, .int i, .int j => .ok (.int (i + j))
  | .Sub, .int i, .int j => .ok (.int (i - j))
  | .Add, .str a, .str b => do gd (decide (a.length + b.length ≤ sizeL)); .ok (.str (a ++ b))
  | _, _, _ => .bad
def inD (x : D) (ys : List D) : Option Bool := if okD 60 x && ys.all (okD 60) then some (ys.any fun y => eqB y x) else none
/-- x is None -/
def nonD (m : List MO) : D → Option Bool
  | .non => some true
  | .ref k => match m[k]? with
    | some (.lst _) => some false
    | some (.dct _) => some false
    | some (.obj _ _) => some false
    | _ => none
  | .clo _ => none
  | _ => some false
/-- < of ints, of texts -/
def ltS : D → D → Option Bool
  | .int a, .int b => some (decide (a < b))
  | .str a, .str b => some (decide (a.cps.toList < b.cps.toList))
  | _, _ => none
/-- < of lists of data -/
def ltL : D → D → Option Bool
  | .lst a, .lst b => if okD 40 (.lst a) && okD 40 (.lst b) && alikD (.lst a) (.lst b) then some (ltG (.lst a) (.lst b)) else none
  | _, _ => none
/-- the value behind a key, where it is an int -/
def valI : D → Bool
  | .tup [_, .int _] => true
  | _ => false
def valO : D → D
  | .tup [_, v] => v
  | _ => .non
/-- == of dicts: one of them empty, or their values ints -/
def eqDct (m : List MO) (x y : D) : Option Bool := match dctOf m x, dctOf m y with
  | some a, some b => if (kindOk a (.int 0) && kindOk b (.int 0)) = true then (if a = [] ∨ b = [] then some (decide (a = [] ∧ b = [])) else if (a.all valI && b.all valI) = true then some (decide (a.length = b.length) && a.all fun p => decide (dget b (keyOf p) = some (valO p))) else none) else none
  | _, _ => none
def cmpD (m : List MO) (op : CmpOp) (x y : D) : Out D :=
  match op with
  | .Eq => match eqD (rslv m x) (rslv m y) with
    | some b => .ok (.bl b)
    | none => match eqDct m x y with
      | some b => .ok (.bl b)
      | none => do .ok (.bl (← opt (eqX (rslv m x) (rslv m y))))
  | .NotEq => match eqD (rslv m x) (rslv m y) with
    | some b => .ok (.bl (!b))
    | none => do .ok (.bl (!(← opt (eqDct m x y))))
  | .Lt => do .ok (.bl (← opt (ltS x y)))
  | .Gt => match ltS y x with
    | some b => .ok (.bl b)
    | none => do .ok (.bl (← opt (ltL y x)))
  | .LtE => do .ok (.bl (!(← opt (ltS y x))))
  | .GtE => do .ok (.bl (!(← opt (ltS x y))))
  | .Is => match y with
    | .non => do .ok (.bl (← opt (nonD m x)))
    | .bl b => match x with
      | .bl a => .ok (.bl (decide (a = b)))
      | _ => .bad
    | _ => .bad
  | .IsNot => match y with
    | .non => do .ok (.bl (!(← opt (nonD m x))))
    | .bl b => match x with
      | .bl a => .ok (.bl (!decide (a = b)))
      | _ => .bad
    | _ => .bad
  | .In => match x, y with
    | .str a, .str b => do gd (decide (a.length = 1)); .ok (.bl (match a.cps.toList with | [c] => b.cps.toList.contains c | _ => false))
    | x, y => match dctR m y with
      | some es => do gd (kindOk es x || kindT es x); .ok (.bl (dget es x).isSome)
      | none => do .ok (.bl (← opt (inD (rslv m x) (← opt (seqOf m y)))))
  | .NotIn => match x, y with
    | x, y => match dctR m y with
      | some es => do gd (kindOk es x || kindT es x); .ok (.bl (!(dget es x).isSome))
      | none => do .ok (.bl (!(← opt (inD (rslv m x) (← opt (seqOf m y))))))
def asBool : D → Out Bool
  | .bl b => .ok b
  | _ => .bad
def subSq (m : List MO) (x i : D) : Out D :=
  match x, i with
  | .str a, .int j => do gd (decide (a.length ≤ sizeL)); let k ← opt (ixOf j a.cps.toList.length); let c ← opt a.cps.toList[k]?; .ok (.str (strOf [c]))
  | x, .int j => do
    let xs ← opt (seqOf m x)
    let k ← opt (ixOf j xs.length)
    opt xs[k]?
  | _, _ => .bad
def subD (m : List MO) (x i : D) : Out D :=
  match dctR m x with
  | some es => do gd (kindOk es i || kindT es i); opt (dget es i)
  | none => subSq m x i
def slcD (m : List MO) (x : D) (l h : Option Int) : Out D :=
  match x with
  | .str z => do gd (decide (z.length ≤ sizeL)); .ok (.str (Str.sub z l h))
  | .tup xs => .ok (.tup (sliceL xs l h))
  | x => match rslv m x with
    | .lst xs => .ok (.lst (sliceL xs l h))
    | _ => .bad
def prt : D → Out (Option Int)
  | .int i => .ok (some i)
  | _ => .bad
def revD (m : List MO) (x : D) : Out D :=
  match rslv m x with
  | .lst xs => .ok (.lst xs.reverse)
  | .tup xs => .ok (.tup xs.reverse)
  | _ => .bad
def intL : List D → Option (List Int)
  | [] => some []
  | .int i :: r => (intL r).map (i :: ·)
  | _ => none
def strL : List D → Option (List Str)
  | [] => some []
  | .str i :: r => (strL r).map (i :: ·)
  | _ => none
def boolL : List D → Option (List Bool)
  | [] => some []
  | .bl i :: r => (boolL r).map (i :: ·)
  | _ => none
def countD (x : D) (ys : List D) : Option Nat := if okD 60 x && ys.all (okD 60) then some (ys.countP fun y => eqB y x) else none
def indexD (x : D) (ys : List D) : Option Nat := if okD 60 x && ys.all (okD 60) then ys.findIdx? fun y => eqB y x else none
def fzM (m : List MO) (d : D) : D × List MO × Bool :=
  match d with
  | .ref k => match m[k]? with
    | some (.lst xs) => (.lst xs, m.set k .dead, true)
    | some (.dct es) => (.dct es, m.set k .dead, true)
    | _ => (.ref k, m, false)
  | d => (d, m, false)
/-- frozen: a list or dict of the store becomes a value, and its place is dead -/
def fzS (s : S) (d : D) : D × S :=
  match fzM s.m d with
  | (d', m', true) => (d', ⟨s.e.map fun o => if o = some d then some d' else o, m'⟩)
  | (d', _, false) => (d', s)
def biLen (m : List MO) (xs : List D) : Out D := match xs with
  | [.str s] => do gd (decide (s.length ≤ sizeL)); .ok (.int s.length)
  | [x] => match dctOf m x with
    | some es => do gd (kindOk es (.int 0)); .ok (.int es.length)
    | none => do .ok (.int (← opt (seqOf m x)).length)
  | _ => .bad
def biAbs (xs : List D) : Out D := match xs with
  | [.int i] => .ok (.int (if i < 0 then -i else i))
  | _ => .bad
def biMin2 (xs : List D) : Out D := match xs with
  | [.int i, .int j] => .ok (.int (if j < i then j else i))
  | _ => .bad
def biMax2 (xs : List D) : Out D := match xs with
  | [.int i, .int j] => .ok (.int (if j > i then j else i))
  | _ => .bad
def biMax3 (xs : List D) : Out D := match xs with
  | [.int i, .int j, .int k] => .ok (.int (let a := if j > i then j else i; if k > a then k else a))
  | _ => .bad
/-- the ints of a list -/
def intsOf (m : List MO) (x : D) : Option (List Int) := match rslv m x with
  | .lst ys => intL ys
  | _ => none
def biMin1 (m : List MO) (xs : List D) : Out D := match xs with
  | [x] => match intsOf m x with
    | some (i :: r) => .ok (.int (r.foldl (fun a b => if b < a then b else a) i))
    | some [] => .bad
    | none => match rslv m x with
      | .lst (y :: r) => do gd ((y :: r).all (okD 40) && (y :: r).all (fun a => (y :: r).all (alikD a)) && (y :: r).all notTN); .ok (minG y r)
      | _ => .bad
  | _ => .bad
def biMax1 (m : List MO) (xs : List D) : Out D := match xs with
  | [x] => match intsOf m x with
    | some (i :: r) => .ok (.int (r.foldl (fun a b => if a < b then b else a) i))
    | _ => .bad
  | _ => .bad
/-- sorted of a dict: its keys -/
def sortK (es : List D) : Option (List D) := match intL (dkeys es) with
  | some is => some ((is.mergeSort (fun a b => decide (a ≤ b))).map .int)
  | none => match strL (dkeys es) with
    | some ss => some ((ss.mergeSort (fun a b => !decide (b.cps.toList < a.cps.toList))).map .str)
    | none => none
def biSorted (m : List MO) (xs : List D) : Out D := match xs with
  | [x] => match intsOf m x with
    | some is => .ok (.lst ((is.mergeSort (fun a b => decide (a ≤ b))).map .int))
    | none => match dctOf m x with
      | some es => do gd (kindOk es (.int 0) && decide (es.length < 64)); .ok (.lst (← opt (sortK es)))
      | none => match rslv m x with
        | .lst ys => do .ok (.lst (← opt (sortG ys)))
        | _ => .bad
  | _ => .bad
def biSset (m : List MO) (xs : List D) : Out D := match xs with
  | [x] => do
    let is ← opt (intsOf m x)
    gd (decide (is.length < 4000) && decide (is.eraseDups.length < 64))
    .ok (.lst ((is.eraseDups.mergeSort (fun a b => decide (a ≤ b))).map .int))
  | _ => .bad
def biInt (xs : List D) : Out D := match xs with
  | [.int i] => .ok (.int i)
  | [.bl b] => .ok (.int (if b then 1 else 0))
  | [.str s] => do gd (decide (s.length ≤ 600)); .ok (.int (← opt (intOf s)))
  | _ => .bad
def biStr (xs : List D) : Out D := match xs with
  | [.int i] => do gd (decide (i.natAbs < 2 ^ 1900)); .ok (.str (strOfInt i))
  | _ => .bad
def biList (m : List MO) (xs : List D) : Out D := match xs with
  | [x] => do .ok (.lst (← opt (seqOf m x)))
  | _ => .bad
def biTuple (m : List MO) (xs : List D) : Out D := match xs with
  | [x] => do .ok (.tup (← opt (seqOf m x)))
  | _ => .bad
def biDict (m : List MO) (xs : List D) : Out D := match xs with
  | [x] => do
    let ps ← opt (seqOf m x)
    gd (ps.all fun | .tup [k, _] => keyK k | _ => false)
    .ok (.dct (ps.foldl (fun es p => match p with | .tup [k, v] => dput es k v | _ => es) []))
  | _ => .bad
def biSum (m : List MO) (xs : List D) : Out D := match xs with
  | [x] => do let is ← opt (intsOf m x); .ok (.int is.sum)
  | _ => .bad
def blsOf (m : List MO) (x : D) : Option (List Bool) := match rslv m x with
  | .lst ys => boolL ys
  | _ => none
def biAll (m : List MO) (xs : List D) : Out D := match xs with
  | [x] => do let bs ← opt (blsOf m x); .ok (.bl (bs.all id))
  | _ => .bad
/-- list(d.items()), sum(d.values()) -/
def biDitems (m : List MO) (xs : List D) : Out D := match xs with
  | [x] => do
    let es ← opt (dctOf m x)
    gd (kindOk es (.int 0))
    .ok (.lst es)
  | _ => .bad
def biDsumv (m : List MO) (xs : List D) : Out D := match xs with
  | [x] => do
    let es ← opt (dctOf m x)
    gd (kindOk es (.int 0))
    let is ← opt (intL (dvals es))
    .ok (.int is.sum)
  | _ => .bad
def biD (m : List MO) (b : Bi) (xs : List D) : Out D :=
  match b with
  | .ditems => biDitems m xs
  | .dsumv => biDsumv m xs
  | .len => biLen m xs
  | .abs => biAbs xs
  | .min2 => biMin2 xs
  | .max2 => biMax2 xs
  | .max3 => biMax3 xs
  | .min1 => biMin1 m xs
  | .max1 => biMax1 m xs
  | .sorted => biSorted m xs
  | .sset => biSset m xs
  | .int => biInt xs
  | .str => biStr xs
  | .list => biList m xs
  | .tuple => biTuple m xs
  | .dict => biDict m xs
  | .sum => biSum m xs
  | .all => biAll m xs
/-- the receiver of a built-in type's method -/
def kindM (m : List MO) (b : Bm) (x : D) : Bool := match b with
  | .append => (match rslv m x with | .lst _ => true | _ => false)
  | .extend => (match rslv m x with | .lst _ => true | _ => false)
  | .pop0 => (match rslv m x with | .lst _ => true | _ => false)
  | .pop1 => (match rslv m x with | .lst _ => true | _ => false)
  | .count => (match rslv m x with | .lst _ => true | _ => false)
  | .index => (match rslv m x with | .lst _ => true | _ => false)
  | .get2 => (match dctOf m x with | some es => kindOk es (.int 0) | none => false)
  | .getT => (match dctR m x with | some es => es.all (fun e => keyT (keyOf e)) | none => false)
  | .items => (match dctOf m x with | some es => kindOk es (.int 0) | none => false)
  | .values => (match dctOf m x with | some es => kindOk es (.int 0) | none => false)
  | .split => (match x with | .str _ => true | _ => false)
  | .join => (match x with | .str _ => true | _ => false)
/-- methods of built-in types -/
def bmD (m : List MO) (b : Bm) (o : D) (xs : List D) : Out (D × List MO) :=
  match b, xs with
  | .append, [x] => match o with
    | .ref k => match m[k]? with
      | some (.lst ys) => do gd (decide (ys.length < sizeL)); .ok (.non, m.set k (.lst (ys ++ [x])))
      | _ => .bad
    | _ => .bad
  | .extend, [x] => match o with
    | .ref k => match m[k]?, rslv m x with
      | some (.lst ys), .lst zs => do gd (decide (ys.length + zs.length ≤ sizeL)); .ok (.non, m.set k (.lst (ys ++ zs)))
      | _, _ => .bad
    | _ => .bad
  | .pop0, [] => match o with
    | .ref k => match m[k]? with
      | some (.lst ys) => match ys.getLast? with
        | some y => .ok (y, m.set k (.lst ys.dropLast))
        | none => .bad
      | _ => .bad
    | _ => .bad
  | .pop1, [.int i] => match o with
    | .ref k => match m[k]? with
      | some (.lst ys) => do
        gd (decide (-(2 ^ 62) ≤ i ∧ i < 2 ^ 62))
        let j ← opt (ixOf i ys.length)
        let y ← opt ys[j]?
        .ok (y, m.set k (.lst (ys.eraseIdx j)))
      | _ => .bad
    | _ => .bad
  | .count, [x] => match rslv m o with
    | .lst ys => do .ok (.int (← opt (countD (rslv m x) ys)), m)
    | _ => .bad
  | .index, [x] => match rslv m o with
    | .lst ys => do .ok (.int (← opt (indexD (rslv m x) ys)), m)
    | _ => .bad
  | .get2, [k, z] => do
    let es ← opt (dctOf m o)
    gd (kindOk es k)
    .ok ((dget es k).getD z, m)
  | .getT, [k, z] => do
    let es ← opt (dctR m o)
    gd (kindT es k)
    .ok ((dget es k).getD z, m)
  | .items, [] => do .ok (.lst (← opt (dctOf m o)), m)
  | .values, [] => do .ok (.lst (dvals (← opt (dctOf m o))), m)
  | .split, [.str sep] => match o with
    | .str s => do gd (decide (0 < sep.length ∧ s.length + 2 ≤ sizeL)); .ok (.lst ((Txt.split s sep).map .str), m)
    | _ => .bad
  | .join, [x] => match o with
    | .str sep => do
      let ss ← opt (strL (← opt (seqOf m x)))
      gd (decide ((ss.map (·.length)).sum + ss.length * sep.length ≤ sizeL))
      .ok (.str (Str.join sep ss), m)
    | _ => .bad
  | _, _ => .bad
/-- what kind a value is: None, a built-in kind, an own class -/
def kindD (m : List MO) : D → Option (Option Ty ⊕ Nat)
  | .non => some (.inl none)
  | .bl _ => some (.inl (some .bool))
  | .int _ => some (.inl (some .int))
  | .str _ => some (.inl (some .str))
  | .tup _ => some (.inl (some .tuple))
  | .lst _ => some (.inl (some .list))
  | .dct es => if kindOk es (.int 0) then some (.inl (some .dict)) else none
  | .ins c _ => some (.inr c)
  | .ref k => match m[k]? with
    | some (.lst _) => some (.inl (some .list))
    | some (.dct es) => if kindOk es (.int 0) then some (.inl (some .dict)) else none
    | some (.obj c _) => if c < 9 then some (.inr c) else none
    | _ => none
  | _ => none
def isiD (m : List MO) (x : D) (t : Ty) : Out Bool := match kindD m x, t with
  | some (.inl _), .own t => if t = 0 ∨ t = 5 then .ok false else .bad
  | some (.inl a), t => .ok (decide (a = some t ∨ (a = some .bool ∧ t = .int)))
  | some (.inr c), .own t => if (t = 0 ∧ c ≤ 4) ∨ (t = 5 ∧ c ≤ 5) then .ok (isSub c t) else .bad
  | some (.inr _), _ => .ok false
  | none, _ => .bad
/-- o[i] = v -/
def putD (m : List MO) (o i v : D) : Out (List MO) :=
  match o with
  | .ref k => match m[k]? with
    | some (.lst ys) => match i with
      | .int j => do let n ← opt (ixOf j ys.length); .ok (m.set k (.lst (ys.set n v)))
      | _ => .bad
    | some (.dct es) => do gd ((kindOk es i || kindT es i) && decide (es.length < sizeL)); .ok (m.set k (.dct (dput es i v)))
    | _ => .bad
  | _ => .bad
def fget (fs : List (Nat × D)) (f : Nat) : Option D := match fs with
  | [] => none
  | (g, v) :: r => if g = f then some v else fget r f
def fput (fs : List (Nat × D)) (f : Nat) (v : D) : List (Nat × D) := match fs with
  | [] => [(f, v)]
  | (g, w) :: r => if g = f then (g, v) :: r else (g, w) :: fput r f v
def getAt : List Nat → List D → Nat → Option D
  | g :: gs, v :: vs, f => if g = f then some v else getAt gs vs f
  | _, _, _ => none
/-- the fields of the classes -/
def hasF : Nat → Nat → Bool
  | 0, f => f == 0 | 1, f => f == 0 | 2, f => f == 0 | 3, f => f == 0 | 4, f => f == 0 || f == 1 | 5, f => f == 2 | 6, f => f == 3 || f == 4 || f == 5
  | 7, f => f == 6 || f == 7 || f == 8 | 8, f => f == 7 || f == 9 || f == 10 || f == 11
  | _, _ => false
def fldD (m : List MO) (o : D) (f : Nat) : Out D :=
  match o with
  | .ins c xs => match flds c with
    | some gs => do gd (hasF c f); opt (getAt gs xs f)
    | none => .bad
  | .ref k => match m[k]? with
    | some (.obj c fs) => do gd (hasF c f); opt (fget fs f)
    | _ => .bad
  | _ => .bad
def clsOf (m : List MO) : D → Option Nat
  | .ins c _ => some c
  | .ref k => match m[k]? with
    | some (.obj c _) => some c
    | _ => none
  | _ => none
def rangeL (a : Int) : Nat → Int → List D
  | 0, _ => []
  | n + 1, st => .int a :: rangeL (a + st) n st
def rngD (xs : List D) : Out (List D) :=
  match xs with
  | [.int n] => do gd (decide (-(2 ^ 61) ≤ n ∧ n < 2 ^ 61)); .ok (rangeL 0 n.toNat 1)
  | [.int a, .int b] => do gd (decide (-(2 ^ 61) ≤ a ∧ a < 2 ^ 61 ∧ -(2 ^ 61) ≤ b ∧ b < 2 ^ 61)); .ok (rangeL a (b - a).toNat 1)
  | [.int a, .int b, .int c] => do
    gd (decide (-(2 ^ 61) ≤ a ∧ a < 2 ^ 61 ∧ -(2 ^ 61) ≤ b ∧ b < 2 ^ 61 ∧ c ≠ 0 ∧ -1000 ≤ c ∧ c ≤ 1000))
    .ok (if 0 < c then rangeL a ((b - a + c - 1) / c).toNat c else rangeL a ((a - b + (-c) - 1) / (-c)).toNat c)
  | _ => .bad
def enumL : Nat → List D → List D
  | _, [] => []
  | n, x :: r => .tup [.int n, x] :: enumL (n + 1) r
def zipL : List D → List D → List D
  | x :: r, y :: t => .tup [x, y] :: zipL r t
  | _, _ => []
def zipD : D → D → Option (List D)
  | .lst xs, .lst ys => some (zipL xs ys)
  | .tup xs, .tup ys => some (zipL xs ys)
  | _, _ => none
def forL (f : D → S → Out (Ctl × S)) : List D → S → Out (Ctl × S)
  | [], s => .ok (.nx, s)
  | x :: xs, s => match f x s with
    | .ok (.nx, s') => forL f xs s'
    | .ok (.cnt, s') => forL f xs s'
    | .ok (.brk, s') => .ok (.nx, s')
    | .ok (.ret d, s') => .ok (.ret d, s')
    | .exc c d s' => .exc c d s'
    | .bad => .bad
def lcL (f : D → S → Out S) : List D → S → Out S
  | [], s => .ok s
  | x :: xs, s => match f x s with
    | .ok s' => lcL f xs s'
    | .exc c d s' => .exc c d s'
    | .bad => .bad
/-- nothing is raised -/
def noX {α : Type} : Out α → Out α
  | .exc .. => .bad
  | o => o
def whlL (c : S → Out (Bool × S)) (f : S → Out (Ctl × S)) : Nat → S → Out (Ctl × S)
  | 0, _ => .bad
  | n + 1, s => match c s with
    | .ok (true, s') => match f s' with
      | .ok (.nx, s2) => whlL c f n s2
      | .ok (.cnt, s2) => whlL c f n s2
      | .ok (.brk, s2) => .ok (.nx, s2)
      | .ok (.ret d, s2) => .ok (.ret d, s2)
      | .exc k d s2 => .exc k d s2
      | .bad => .bad
    | .ok (false, s') => .ok (.nx, s')
    | .exc k d s' => .exc k d s'
    | .bad => .bad
/-- a list or a dict of the store gets an item -/
def addM (k : Nat) (y : D) (s : S) : Out S := match s.m[k]? with
  | some (.lst ys) => do gd (decide (ys.length < sizeL)); .ok ⟨s.e, s.m.set k (.lst (ys ++ [y]))⟩
  | _ => .bad
def putM (k : Nat) (a b : D) (s : S) : Out S := match s.m[k]? with
  | some (.dct es) => do gd (kindOk es a && decide (es.length < sizeL)); .ok ⟨s.e, s.m.set k (.dct (dput es a b))⟩
  | _ => .bad
def wipeS (own : List Nat) (s : S) : S := ⟨own.foldl (fun e i => e.set i none) s.e, s.m⟩
def backS (own : List Nat) (s0 s : S) : S := ⟨own.foldl (fun e i => e.set i ((s0.e[i]?).getD none)) s.e, s.m⟩
/-- how the world outside a def's body is asked: a call of the f-th def; which def a class has by a name; what a constant of a class is; what a module's constant is -/
structure W where
  call : Nat → List D → List MO → Out (D × List MO)
  meth : Nat → Nat → Option Nat
  init : Nat → Option Nat
  kcon : Nat → Nat → Option D
  clo : Nat → S → Out (D × S)
  fuel : Nat
/-- behind a call: its place is taken by the caller's names -/
def inS {α : Type} (s : S) : Out (α × List MO) → Out (α × S)
  | .ok (a, m) => .ok (a, ⟨s.e, m⟩)
  | .exc c d s' => .exc c d ⟨s.e, s'.m⟩
  | .bad => .bad
/-- a method of an instance, its object first -/
def callM (w : W) (o : D) (k : Nat) (xs : List D) (s : S) : Out (D × S) :=
  match clsOf s.m o with
  | some c => match w.meth c k with
    | some f => inS s (w.call f (o :: xs) s.m)
    | none => .bad
  | none => .bad
/-- methods by number: 0 __call__, 1 __eq__, 2 __neg__, 3 __len__, 4 __getitem__, 5 __rshift__, then properties and plain methods -/
def isOwn (m : List MO) (d : D) : Bool := (clsOf m d).isSome
mutual
/-- no place of the store from n on is met -/
def cloD (n : Nat) : D → Bool
  | .ref k => decide (k < n)
  | .tup xs => cloDs n xs
  | .lst xs => cloDs n xs
  | .dct xs => cloDs n xs
  | .ins _ xs => cloDs n xs
  | _ => true
def cloDs (n : Nat) : List D → Bool
  | [] => true
  | x :: r => cloD n x && cloDs n r
end
def cloM (n : Nat) : MO → Bool
  | .lkl xs => cloDs n xs
  | .lkd xs => cloDs n xs
  | .lst xs => cloDs n xs
  | .dct xs => cloDs n xs
  | .obj _ fs => fs.all fun p => cloD n p.2
  | .dead => true
/-- behind a def: the first n places stand as they were, or meet no place beyond -/
def exOk (n : Nat) : List MO → List MO → Bool
  | [], _ => true
  | a :: r, b :: t => (decide (a = b) || cloM n b) && exOk n r t
  | _ :: _, [] => false
/-- as a value, where it is a list or a dict of a place from k on -/
def rsK (k : Nat) (m : List MO) : D → D
  | .ref j => if j < k then .ref j else rslv m (.ref j)
  | d => d
/-- C(..): a new object behind the others, its maker; where its class's objects never change it becomes a value -/
def makeD (w : W) (c : Nat) (xs : List D) (s : S) : Out (D × S) :=
  match w.init c with
  | none => .bad
  | some f =>
    let k := s.m.length
    match inS s (w.call f (.ref k :: xs) (s.m ++ [.obj c []])) with
    | .ok (.non, s') => match flds c with
      | none => .ok (.ref k, s')
      | some gs => match s'.m[k]? with
        | some (.obj c' fs) =>
          let vs := fs.map fun p => rsK k s'.m p.2
          if c' = c ∧ fs.map (·.1) = gs ∧ exOk k s.m s'.m = true ∧ cloDs k vs = true then .ok (.ins c vs, ⟨s'.e, s'.m.take k⟩) else .bad
        | _ => .bad
    | .exc e d s' => if exOk k s.m s'.m && cloD k d then .exc e d ⟨s'.e, s'.m.take k⟩ else .bad
    | _ => .bad
/-- the errors by their names -/
def errD : Nat → D → D
  | 21, _ => .tup [.str "number", .int 0]
  | 22, d => .tup [.str "chain", d]
  | 23, _ => .tup [.str "cell", .int 0]
  | 24, d => .tup [.str "row", d]
  | 25, d => .tup [.str "text", d]
  | 26, _ => .tup [.str "many", .int 0]
  | 27, _ => .tup [.str "contradiction", .int 0]
  | 28, _ => .tup [.str "name", .int 0]
  | 29, _ => .tup [.str "unknown", .int 0]
  | 30, d => .tup [.str "operation", d]
  | _, _ => .tup [.str "other", .int 0]
/-- the exceptions that are told -/
def errG (c : Nat) (d : D) : Bool := ([21, 23, 26, 27, 28, 29] : List Nat).contains c && decide (d = .non)
/-- what a call without arguments raises -/
def errO (w : W) (x : D) (s : S) : Out (D × S) :=
  match x with
  | .clo k => match w.clo k s with
    | .ok (_, s') => .ok (.non, s')
    | .exc c d s' => if errG c d then .ok (errD c d, ⟨s.e, s'.m⟩) else .bad
    | .bad => .bad
  | _ => .bad
def allO (w : W) (y : D) : List D → S → Out (Bool × S)
  | [], s => .ok (true, s)
  | x :: r, s => do
    let (e, s) ← errO w x s
    let b ← opt (eqD e y)
    let (c, s) ← allO w y r s
    .ok (b && c, s)
/-- operators that may ask an own class -/
def binF (w : W) (op : Operator) (x y : D) (s : S) : Out (D × S) := if op = .RShift then (if clsOf s.m x = clsOf s.m y then callM w x 5 [y] s else .bad) else do
  let z ← binD s.m op x y
  .ok (z, s)
def negF (w : W) (x : D) (s : S) : Out (D × S) := match x with
  | .int i => .ok (.int (-i), s)
  | x => callM w x 2 [] s
def eqF (w : W) (x y : D) (s : S) : Out (D × S) := .bad
/-- == by the classes' own: a cell of a class below comes first -/
def ownFst (c e : Nat) : Bool := c == 0 && decide (1 ≤ e) && decide (e ≤ 4)
def ownOk (c e : Nat) : Bool := (decide (c < 5) && decide (e < 5)) || (c == 5 && e == 5)
def ownEq (w : W) (m : List MO) (x y : D) : Option Bool := match clsOf m x, clsOf m y with
  | some c, some e => if ownOk c e then match w.meth (if ownFst c e then e else c) 1 with
    | some i => match w.call i (if ownFst c e then [y, x] else [x, y]) m with
      | .ok (.bl r, m') => if m' = m then some r else none
      | _ => none
    | none => none
    else none
  | _, _ => none
/-- .. asked of a text -/
def ownEqS (w : W) (m : List MO) (c : Nat) (x y : D) : Option Bool := match w.meth c 1 with
  | some i => match w.call i [x, y] m with
    | .ok (.bl r, m') => if m' = m then some r else none
    | _ => none
  | none => none
def itmEq (w : W) (m : List MO) (x y : D) : Option Bool := match x, y with
  | .ins c (.str a :: _), .ins e (.str b :: _) => if c < 5 ∧ e < 5 then match ownEq w m x y with
    | some r => if a = b → r = true then some r else none
    | none => none
    else none
  | _, _ => none
def tupEq (w : W) (m : List MO) : List D → List D → Option Bool
  | x :: xs, y :: ys => match itmEq w m x y with
    | some true => tupEq w m xs ys
    | some false => some false
    | none => none
  | [], [] => some true
  | _, _ => some false
def oeqD (w : W) (m : List MO) (ne : Bool) (x y : D) : Option Bool := match x, y with
  | .tup xs, .tup ys => if ne then none else tupEq w m xs ys
  | .ins c _, .ins e _ => if ne = true ∧ c ≠ e then none else ownEq w m x y
  | .ins c _, .str _ => if ne then none else ownEqS w m c x y
  | _, _ => none
def cmpF (w : W) (op : CmpOp) (x y : D) (s : S) : Out (D × S) := if isOwn s.m x = true ∧ op = .Eq then eqF w x y s
  else do
    let z ← cmpD s.m op x y
    .ok (z, s)
def subF (w : W) (x y : D) (s : S) : Out (D × S) := if isOwn s.m x = true then callM w x 4 [y] s else do
  let z ← subD s.m x y
  .ok (z, s)
def lenF (w : W) (x : D) (s : S) : Out (D × S) := if isOwn s.m x = true then do
    let (z, s) ← callM w x 3 [] s
    match z with
    | .int n => do gd (decide (0 ≤ n ∧ n < 2 ^ 62)); .ok (.int n, s)
    | _ => .bad
  else do
    let z ← biD s.m .len [x]
    .ok (z, s)
def bifF (w : W) (b : Bi) (xs : List D) (s : S) : Out (D × S) := match b, xs with
  | .len, [x] => lenF w x s
  | b, xs => do
    let z ← biD s.m b xs
    .ok (z, s)
def nilEs : Exs → Bool
  | .nil => true
  | _ => false
/-- the items of a locked dict; the keys, or a locked list's items -/
def lkI (m : List MO) : D → Option (List D)
  | .ref k => match m[k]? with
    | some (.lkd es) => some es
    | _ => none
  | _ => none
def lkV (m : List MO) : D → Option (List D)
  | .ref k => match m[k]? with
    | some (.lkd es) => if kindOk es (.int 0) then some (dkeys es) else none
    | some (.lkl xs) => some xs
    | _ => none
  | _ => none
mutual
def evE (w : W) : Ex → S → Out (D × S)
  | .cst d, s => .ok (d, s)
  | .var i, s => match s.e[i]? with
    | some (some d) => .ok (d, s)
    | _ => .bad
  | .frz a, s => do
    let (x, s) ← evE w a s
    .ok (fzS s x)
  | .lok a e, s => match evE w a s with
    | .ok (.ref k, _) => do
      let o ← opt s.m[k]?
      let mo ← opt (lckM o)
      let (y, s1) ← noX (evE w e ⟨s.e, s.m.set k mo⟩)
      gd (decide (s1.m[k]? = some mo))
      .ok (y, ⟨s1.e, s1.m.set k o⟩)
    | _ => .bad
  | .frn a, s => do
    let (x, s1) ← evE w a s
    match x with
    | .ref k => do
      gd (decide (s.m.length ≤ k))
      match s1.m[k]? with
      | some (.lst xs) => .ok (.lst xs, ⟨s.e, s1.m.set k .dead⟩)
      | some (.dct es) => do
        gd (kindOk es (.int 0))
        .ok (.dct es, ⟨s.e, s1.m.set k .dead⟩)
      | _ => .bad
    | _ => .bad
  | .new a, s => do
    let (x, s) ← evE w a s
    match x with
    | .lst xs => .ok (.ref s.m.length, ⟨s.e, s.m ++ [.lst xs]⟩)
    | .dct es => .ok (.ref s.m.length, ⟨s.e, s.m ++ [.dct es]⟩)
    | x => .ok (x, s)
  | .bin op a b, s => do
    let (x, s) ← evE w a s
    let (y, s) ← evE w b s
    binF w op x y s
  | .neg a, s => do
    let (x, s) ← evE w a s
    negF w x s
  | .oeq ne a b, s => do
    let (x, s) ← evE w a s
    let (y, s) ← evE w b s
    let r ← opt (oeqD w s.m ne x y)
    .ok (.bl (r != ne), s)
  | .cmp op a b, s => do
    let (x, s) ← evE w a s
    let (y, s) ← evE w b s
    cmpF w op x y s
  | .chn o1 o2 a b c, s => do
    let (x, s) ← evE w a s
    let (y, s) ← evE w b s
    let k ← asBool (← cmpD s.m o1 x y)
    if k then do
      let (z, s) ← evE w c s
      let r ← cmpD s.m o2 y z
      .ok (r, s)
    else .ok (.bl false, s)
  | .and a b, s => do
    let (x, s) ← evE w a s
    if ← asBool x then evE w b s else .ok (.bl false, s)
  | .or a b, s => do
    let (x, s) ← evE w a s
    if ← asBool x then .ok (.bl true, s) else evE w b s
  | .not a, s => do
    let (x, s) ← evE w a s
    let b ← asBool x
    .ok (.bl (!b), s)
  | .ite c a b, s => do
    let (x, s) ← evE w c s
    if ← asBool x then evE w a s else evE w b s
  | .tup es, s => do
    let (xs, s) ← evEs w es s
    gd (lok xs)
    .ok (.tup xs, s)
  | .lst es, s => do
    let (xs, s) ← evEs w es s
    gd (lok xs)
    .ok (.lst xs, s)
  | .ds1 k v, s => do
    let (x, s1) ← evE w k ⟨s.e, s.m ++ [.dct []]⟩
    let (y, s1) ← evE w v s1
    gd (keyT x && decide (s1.m[s.m.length]? = some (.dct [])))
    .ok (.ref s.m.length, ⟨s1.e, s1.m.set s.m.length (.dct [.tup [x, y]])⟩)
  | .dsp ps, s => if nilEs ps = true then .ok (.dct [], s) else do
    let (es, s1) ← evDs w ps ⟨s.e, s.m ++ [.dct []]⟩ []
    gd (decide (s1.m[s.m.length]? = some (.dct [])))
    .ok (.ref s.m.length, ⟨s1.e, s1.m.set s.m.length (.dct es)⟩)
  | .sub a b, s => do
    let (x, s) ← evE w a s
    let (y, s) ← evE w b s
    subF w x y s
  | .slc a lo hi, s => do
    let (x, s) ← evE w a s
    let (l, s) ← evO w lo s
    let (h, s) ← evO w hi s
    let r ← slcD s.m x l h
    .ok (r, s)
  | .rev a, s => do
    let (x, s) ← evE w a s
    let r ← revD s.m x
    .ok (r, s)
  | .fld a f, s => do
    let (x, s) ← evE w a s
    let r ← fldD s.m x f
    .ok (r, s)
  | .prp a k, s => do
    let (x, s) ← evE w a s
    noX (callM w x k [] s)
  | .kcn a k, s => do
    let (x, s) ← evE w a s
    match clsOf s.m x with
    | some c => do let d ← opt (w.kcon c k); .ok (d, s)
    | none => .bad
  | .cal f es, s => do
    let (xs, s) ← evEs w es s
    inS s (w.call f xs s.m)
  | .mth a k es, s => do
    let (x, s) ← evE w a s
    match clsOf s.m x with
    | some c => match w.meth c k with
      | some f => do
        let (xs, s) ← evEs w es s
        inS s (w.call f (x :: xs) s.m)
      | none => .bad
    | none => .bad
  | .smt f c es, s => do
    let (xs, s) ← evEs w es s
    inS s (w.call f xs s.m)
  | .ctr c es, s => do
    let (xs, s) ← evEs w es s
    makeD w c xs s
  | .ctv i c es, s => do
    gd (decide (s.e[i]? = some (some (.cls c))))
    let (xs, s) ← evEs w es s
    makeD w c xs s
  | .app a es, s => do
    let (x, s) ← evE w a s
    gd (isOwn s.m x)
    let (xs, s) ← evEs w es s
    callM w x 0 xs s
  | .bif b es, s => do
    let (xs, s) ← evEs w es s
    bifF w b xs s
  | .bmt b a es, s => do
    let (x, s) ← evE w a s
    gd (kindM s.m b x)
    let (xs, s) ← evEs w es s
    let (z, m) ← bmD s.m b x xs
    .ok (z, ⟨s.e, m⟩)
  | .isi a t, s => do
    let (x, s) ← evE w a s
    let b ← isiD s.m x t
    .ok (.bl b, s)
  | .fst a, s => do
    let (x, s) ← evE w a s
    match x with
    | .int i => do gd (decide (i.natAbs < 2 ^ 1900)); .ok (.str (Str.ofString "near:" ++ strOfInt i), s)
    | _ => .bad
  | .lam k, s => .ok (.clo k, s)
  | .eof a, s => do
    let (x, s) ← evE w a s
    errO w x s
  | .alr a b, s => do
    let (x, s) ← evE w a s
    let (y, s) ← evE w b s
    let xs ← opt (seqOf s.m x)
    let (r, s) ← allO w y xs s
    .ok (.bl r, s)
  | .lc e own t it ifs, s => do
    let (xs, s0) ← evI w it s
    let s1 ← lcL (fun x s => noX do
      let s ← asg w t x (wipeS own s)
      let (b, s) ← evA w ifs s
      if b then do
        let (y, s) ← evE w e s
        addM s0.m.length y s
      else .ok s) xs ⟨s0.e, s0.m ++ [.lst []]⟩
    .ok (.ref s0.m.length, backS own s0 s1)
  | .lc2 e own own1 t it t1 it1, s => do
    let (xs, s0) ← evI w it s
    let s1 ← lcL (fun x s => noX do
      let s ← asg w t x (wipeS own s)
      let (xs1, s) ← evI w it1 s
      lcL (fun x s => do
        let s ← asg w t1 x (wipeS own1 s)
        let (y, s) ← evE w e s
        addM s0.m.length y s) xs1 s) xs ⟨s0.e, s0.m ++ [.lst []]⟩
    .ok (.ref s0.m.length, backS own s0 s1)
  | .dc k v own t it, s => do
    let (xs, s0) ← evI w it s
    let s1 ← lcL (fun x s => noX do
      let s ← asg w t x (wipeS own s)
      let (a, s) ← evE w k s
      let (b, s) ← evE w v s
      putM s0.m.length a b s) xs ⟨s0.e, s0.m ++ [.dct []]⟩
    .ok (.ref s0.m.length, backS own s0 s1)
def evO (w : W) : Exo → S → Out (Option Int × S)
  | .none, s => .ok (none, s)
  | .some a, s => do
    let (x, s) ← evE w a s
    let l ← prt x
    .ok (l, s)
def evEs (w : W) : Exs → S → Out (List D × S)
  | .nil, s => .ok ([], s)
  | .cons a r, s => do
    let (x, s) ← evE w a s
    let (xs, s) ← evEs w r s
    .ok (x :: xs, s)
  | .star a r, s => do
    let (x, s) ← evE w a s
    let ys ← opt (seqOf s.m x)
    let (xs, s) ← evEs w r s
    .ok (ys ++ xs, s)
def evDs (w : W) : Exs → S → List D → Out (List D × S)
  | .nil, s, es => .ok (es, s)
  | .cons k (.cons v r), s, es => do
    let (x, s) ← evE w k s
    let (y, s) ← evE w v s
    gd (kindOk es x && decide (es.length < 15))
    evDs w r s (dput es x y)
  | _, _, _ => .bad
/-- tests, all of them -/
def evA (w : W) : Exs → S → Out (Bool × S)
  | .nil, s => .ok (true, s)
  | .cons a r, s => do
    let (x, s) ← evE w a s
    if ← asBool x then evA w r s else .ok (false, s)
  | .star _ _, _ => .bad
def evI (w : W) : It → S → Out (List D × S)
  | .val a, s => do
    let (x, s) ← evE w a s
    let xs ← opt (walkD x)
    .ok (xs, s)
  | .enm a, s => do
    let (x, s) ← evE w a s
    let xs ← opt (seqV x)
    .ok (enumL 0 xs, s)
  | .zip a b, s => do
    let (x, s) ← evE w a s
    let (y, s) ← evE w b s
    let r ← opt (zipD x y)
    .ok (r, s)
  | .rng es, s => do
    let (xs, s) ← evEs w es s
    let r ← rngD xs
    .ok (r, s)
  | .itm a, s => do
    let (x, s) ← evE w a s
    let es ← opt (lkI s.m x)
    .ok (es, s)
  | .itf a, s => do
    let (x, s) ← evE w a s
    let es ← opt (dctV x)
    gd (kindOk es (.int 0))
    .ok (es, s)
  | .lkv a, s => do
    let (x, s) ← evE w a s
    let xs ← opt (lkV s.m x)
    .ok (xs, s)
def asg (w : W) : Tg → D → S → Out S
  | .name i, d, s => .ok ⟨s.e.set i (some d), s.m⟩
  | .tup ts, d, s => do
    let xs ← opt (seqOf s.m d)
    gd (decide (xs.length = tgN ts))
    asgs w ts xs s
  | .sub o i, d, s => do
    let (x, s) ← evE w o s
    let (y, s) ← evE w i s
    let m ← putD s.m x y d
    .ok ⟨s.e, m⟩
  | .att o f, d, s => do
    let (x, s) ← evE w o s
    match x with
    | .ref k => match s.m[k]? with
      | some (.obj c fs) => do gd (hasF c f && decide (fs.length < 16)); .ok ⟨s.e, s.m.set k (.obj c (fput fs f d))⟩
      | _ => .bad
    | _ => .bad
def asgs (w : W) : Tgs → List D → S → Out S
  | .nil, [], s => .ok s
  | .cons t r, d :: ds, s => do
    let s ← asg w t d s
    asgs w r ds s
  | _, _, _ => .bad
end
/-- the first case of a match that fits: a list or tuple of a text and, or not, one more -/
def matP (s : S) (xs : List D) : List (Str × Option Nat) → Nat → Option (Nat × S)
  | [], _ => none
  | (z, none) :: r, n => match xs with
    | [.str y] => if y = z then some (n, s) else matP s xs r (n + 1)
    | _ => matP s xs r (n + 1)
  | (z, some i) :: r, n => match xs with
    | [.str y, d] => if y = z then some (n, ⟨s.e.set i (some d), s.m⟩) else matP s xs r (n + 1)
    | _ => matP s xs r (n + 1)
mutual
/-- x: the exception that is being handled -/
def exS (w : W) (x : Option (Nat × D)) : Sm → S → Out (Ctl × S)
  | .asg t a, s => do
    let (d, s) ← evE w a s
    let s ← asg w t d s
    .ok (.nx, s)
  | .par ts es, s => do
    let (ds, s) ← evEs w es s
    let s ← asgs w ts ds s
    .ok (.nx, s)
  | .aug i op a, s => do
    match s.e[i]? with
    | some (some d) => do
      let (y, s) ← evE w a s
      let z ← augD op d y
      .ok (.nx, ⟨s.e.set i (some z), s.m⟩)
    | _ => .bad
  | .exp a, s => do
    let (_, s) ← evE w a s
    .ok (.nx, s)
  | .ifs c a b, s => do
    let (d, s) ← evE w c s
    if ← asBool d then exSs w x a s else exSs w x b s
  | .whl c b, s => whlL (fun s => do
      let (d, s) ← evE w c s
      let k ← asBool d
      .ok (k, s)) (fun s => exSs w x b s) w.fuel s
  | .for t it b, s => do
    let (xs, s) ← evI w it s
    forL (fun d s => do
      let s ← asg w t d s
      exSs w x b s) xs s
  | .ret a, s => do
    let (d, s) ← evE w a s
    .ok (.ret d, s)
  | .rse c a, s => do
    let (d, s) ← evE w a s
    .exc c d s
  | .rers, s => match x with
    | some (c, d) => .exc c d s
    | none => .bad
  | .try b h, s => match exSs w x b s with
    | .ok r => .ok r
    | .exc c d s' => exSs w (some (c, d)) h s'
    | .bad => .bad
  | .mat a ps bs, s => do
    let (d, s) ← evE w a s
    let xs ← opt (seqOf s.m d)
    match matP s xs ps 0 with
    | some (n, s') => exNth w x bs n s'
    | none => .ok (.nx, s)
  | .lok a b, s => match evE w a s with
    | .ok (.ref k, _) => do
      let o ← opt s.m[k]?
      let mo ← opt (lckM o)
      let (c, s1) ← noX (exS w x b ⟨s.e, s.m.set k mo⟩)
      gd (decide (s1.m[k]? = some mo))
      .ok (c, ⟨s1.e, s1.m.set k o⟩)
    | _ => .bad
  | .pas, s => .ok (.nx, s)
  | .never, _ => .bad
def exSs (w : W) (x : Option (Nat × D)) : List Sm → S → Out (Ctl × S)
  | [], s => .ok (.nx, s)
  | a :: r, s => match exS w x a s with
    | .ok (.nx, s') => exSs w x r s'
    | .ok (c, s') => .ok (c, s')
    | .exc c d s' => .exc c d s'
    | .bad => .bad
def exNth (w : W) (x : Option (Nat × D)) : List Sm → Nat → S → Out (Ctl × S)
  | [], _, _ => .bad
  | a :: _, 0, s => exS w x a s
  | _ :: r, n + 1, s => exNth w x r n s
end
structure Fn where
  /-- parameters, slots -/
  np : Nat
  ns : Nat
  star : Bool := false
  /-- what it changes of the store is kept: a method or maker of an object that may change -/
  keep : Bool := false
  body : List Sm
  deriving Inhabited
def leave (keep : Bool) (m : List MO) (d : D) (m' : List MO) : Out (D × List MO) :=
  if keep then .ok (d, m') else
  if exOk m.length m m' && cloD m.length d then .ok (d, m'.take m.length) else .bad
def leaveX (keep : Bool) (m : List MO) (c : Nat) (d : D) (m' : List MO) : Out (D × List MO) :=
  if keep then .exc c d ⟨[], m'⟩ else
  if exOk m.length m m' && cloD m.length d then .exc c d ⟨[], m'.take m.length⟩ else .bad
def argsOf (f : Fn) (xs : List D) : Option (List D) :=
  if f.star then (if f.np ≤ xs.length + 1 ∧ xs.length ≤ sizeL then some (xs.take (f.np - 1) ++ [.tup (xs.drop (f.np - 1))]) else none)
  else if xs.length = f.np then some xs else none
def runF (w : W) (f : Fn) (xs : List D) (m : List MO) : Out (D × List MO) :=
  match argsOf f xs with
  | none => .bad
  | some ys => match exSs w none f.body ⟨ys.map some ++ List.replicate (f.ns - ys.length) none, m⟩ with
    | .ok (.ret d, s) => leave f.keep m d s.m
    | .ok (.nx, s) => leave f.keep m .non s.m
    | .ok _ => .bad
    | .exc c d s => leaveX f.keep m c d s.m
    | .bad => .bad
/-- a program: its defs by number; methods and makers of its classes; constants of classes; bodies of lambdas -/
structure Pg where
  fn : Nat → Option Fn
  meth : Nat → Nat → Option Nat
  init : Nat → Option Nat
  kcon : Nat → Nat → Option D
  lam : Nat → Option Ex
  fuel : Nat
def wAt (p : Pg) (call : Nat → List D → List MO → Out (D × List MO)) (clo : Nat → S → Out (D × S)) : W :=
  ⟨call, p.meth, p.init, p.kcon, clo, p.fuel⟩
def callF (p : Pg) : Nat → (Nat → List D → List MO → Out (D × List MO)) × (Nat → S → Out (D × S))
  | 0 => (fun _ _ _ => .bad, fun _ _ => .bad)
  | n + 1 =>
    let w := wAt p (callF p n).1 (callF p n).2
    (fun f xs m => match p.fn f with
      | some i => runF w i xs m
      | none => .bad,
     fun k s => match p.lam k with
      | some e => evE w e s
      | none => .bad)
end SV
set_option linter.all false
namespace SV
open PySem
abbrev Tab (α : Type) := List (Str × α)
def tGet {α : Type} (t : Tab α) (x : Str) : Option α := match t with
  | [] => none
  | (y, a) :: r => if y = x then some a else tGet r x
def tCls : Tab Nat := [("Cell", 0), ("Last", 1), ("Less", 2), ("Greater", 3), ("Near", 4), ("Chain", 5), ("Flow", 6), ("Observer", 7), ("Worktop", 8)]
/-- where one stands: the names by slot, the scope, the names whose lists are frozen when they are handed on (mu), those that stay (rf); cl: the class of the name cls -/
structure Tc where
  N : List Str
  sc : Scope
  mu : List Str
  rf : List Str
  cl : Nat
  /-- every new list is laid into the store (a method that keeps copies) -/
  lay : Bool
def ixIn (x : Str) : List Str → Option Nat
  | [] => none
  | y :: r => if y = x then some 0 else (ixIn x r).map (· + 1)
def okN (x : Str) : Bool := !(x == ("__debug__" : Str)) && !(x == ("__classdict__" : Str)) && !(x == ("__name__" : Str))
def slotOf (c : Tc) (x : Str) : Option Nat := if okN x then match c.sc.names.lookup x with
  | some .local => ixIn x c.N
  | some .cell => ixIn x c.N
  | some .free => ixIn x c.N
  | _ => none
  else none
def isGlob (c : Tc) (x : Str) : Bool := okN x && c.sc.names.lookup x == some .globalImplicit
/-- the scope of a comprehension's block as it runs -/
def relS' (scope sc : Scope) : Scope :=
  { scope with names := scope.names.map fun (n, k) => if (k == .free && sc.kind == .function && sc.names.lookup n == some .cell) then (n, .cell) else (n, k) }
mutual
/-- the slots of a target -/
def tgSlots : Nat → Tg → List Nat
  | 0, _ => []
  | _ + 1, .name i => [i]
  | n + 1, .tup ts => tgsSlots n ts
  | _ + 1, _ => []
def tgsSlots : Nat → Tgs → List Nat
  | 0, _ => []
  | _ + 1, .nil => []
  | n + 1, .cons t r => tgSlots n t ++ tgsSlots n r
end
end SV
set_option linter.all false
set_option Elab.async false
set_option maxRecDepth 100000
namespace SV
open PySem PySem.Spec PyProof.Rows L2
abbrev Io := List (Option Addr)
def kD : Key → D
  | .inl i => .int i
  | .inr s => .str s
/-- the names of the fields -/
def fname : Nat → Str
  | 0 => "rule" | 1 => "goal" | 2 => "cells" | 3 => "states" | 4 => "outs" | 5 => "start" | 6 => "chains" | 7 => "now" | 8 => "facts" | 9 => "past" | 10 => "undone" | 11 => "saved" | 12 => "index" | 13 => "word" | 14 => "place"
  | _ => ""
mutual
/-- a nested key by its value -/
def nkOf : D → Option NestedKey
  | .non => some .none
  | .int i => some (.num i)
  | .str s => some (.text s)
  | .tup xs => (nksOf xs).map .tup
  | _ => none
def nksOf : List D → Option (List NestedKey)
  | [] => some []
  | x :: r => match nkOf x, nksOf r with
    | some a, some b => some (a :: b)
    | _, _ => none
end
/-- .. a tuple's -/
def nkT : D → Option NestedKey
  | .tup xs => nkOf (.tup xs)
  | _ => none
/-- no table of code objects -/
def notT : HO → Bool
  | .tbl _ => false
  | _ => true
/-- what values need of a later heap -/
structure Lx (H : Hp) (ι : Io) (H' : Hp) (ι' : Io) : Prop where
  keep : ∀ a o, H a = some o → some a ∉ ι → notT o = true → H' a = some o ∧ some a ∉ ι'
  len : ι.length ≤ ι'.length
  same : ∀ (k : Nat), k < ι.length → ι'[k]? = ι[k]? ∨ ι'[k]? = some none
/-- where the program's text stands: classes, the world -/
structure Cfg where
  P : Program
  w : World
  K : PySem.W.Frag
  aC : Nat → Addr
  aF : Nat → Addr
  /-- exceptions are spoken of -/
  xp : Bool
  /-- the classes that are asked for by isinstance; the text's constants -/
  asks : List Nat := []
  cnI : List (Str × Int) := []
  cnS : List (Str × Str) := []
  /-- the text's defs by name; its classes, their makers -/
  fns : List (Str × Nat) := []
  clss : List (Str × Nat) := []
  /-- classmethods: class, def -/
  cms : List (Nat × Nat) := []
  /-- exception classes by name -/
  exs : List (Str × Nat) := []
  /-- .. with an own __init__ -/
  exi : List (Str × Nat) := []
  /-- tables of code objects -/
  tabs : List (Addr × Str) := []
  /-- foreign values: what they are, that they stay so -/
  ext : Nat → Hp → Io → V → Prop := fun _ _ _ _ => False
  extLx : ∀ k H ι H' ι' v, Lx H ι H' ι' → ext k H ι v → ext k H' ι' v := by intro _ _ _ _ _ _ _ h; exact h
  extCut : ∀ k H ι n v, ext k H ι v → ext k H (ι.take n) v := by intro _ _ _ _ _ h; exact h
/-- a dict whose keys are tuples, by its own object; xs: the keys, where they stand, the values -/
def GDo (P : Program) (w : World) (a : Addr) (xs : List (NestedKey × Addr × V)) : HO := .ext fun h =>
  (a == sysModules) = false ∧ xs.length ≤ sizeLine ∧ (xs.map (·.1)).Nodup ∧ ∃ (o : Obj) (es : Array DictEntry) (ep : Nat) (us : List (NestedKey × Addr × Value)),
    h.get? a = some o ∧ o.ExactDict ∧ o.data = .dict es ep ∧ es.toList = us.map (entryOfKey (nestedKind P w)) ∧ Paired (fun p q => p.1 = q.1 ∧ p.2.1 = q.2.1 ∧ RelV p.2.2 q.2.2) xs us
/-- a list that stands in the written part -/
def KL (K : PySem.W.Frag) (a : Addr) (xs : List V) : Prop := ∃ (o : Obj) (its : Array Value) (n : Nat), K.lookup a = some o ∧ o.cls = .type "list" ∧ o.dict = none ∧ o.data = .seq its n ∧ its.size ≤ sizeLine ∧ Vals xs its.toList
mutual
/-- the value v is d -/
def Den (g : Cfg) (H : Hp) (ι : Io) : D → V → Prop
  | .non, v => v = .non
  | .bl b, v => v = .bl b
  | .int i, v => v = .int i
  | .str s, v => v = .str s
  | .tup xs, v => ∃ a vs, v = .ref a ∧ (H a = some (.tup vs) ∧ some a ∉ ι) ∧ DenL g H ι xs vs
  | .lst xs, v => ∃ a vs, v = .ref a ∧ (H a = some (.lst vs) ∧ some a ∉ ι) ∧ DenL g H ι xs vs
  | .dct es, v => ∃ a, v = .ref a ∧ some a ∉ ι ∧ ((∃ kvs, H a = some (.dK kvs) ∧ DenE g H ι es kvs) ∨ ∃ xs, H a = some (GDo g.P g.w a xs) ∧ es ≠ [] ∧ DenG g H ι es xs)
  | .ins c xs, v => ∃ a dx vs ns, v = .ref a ∧ (H a = some (.ins (g.aC c) dx ((ns.map fname).zip vs)) ∧ some a ∉ ι) ∧ flds c = some ns ∧ ns.length = vs.length ∧ DenL g H ι xs vs
  | .ref k, v => k < ι.length ∧ ∀ a, ι[k]? = some (some a) → v = .ref a
  | .clo k, v => g.ext k H ι v
  | .cls c, v => v = .ref (g.aC c)
  | .scr xs, v => ∃ a, v = .ref a ∧ ((Rd H a (.lst (xs.map V.int)) ∧ some a ∉ ι) ∨ KL g.K a (xs.map V.int))
def DenL (g : Cfg) (H : Hp) (ι : Io) : List D → List V → Prop
  | [], vs => vs = []
  | x :: r, vs => ∃ v t, vs = v :: t ∧ Den g H ι x v ∧ DenL g H ι r t
def DenE (g : Cfg) (H : Hp) (ι : Io) : List D → List (Key × V) → Prop
  | [], kvs => kvs = []
  | .tup [k, x] :: r, kvs => ∃ key v t, kvs = (key, v) :: t ∧ kD key = k ∧ Den g H ι x v ∧ DenE g H ι r t
  | _ :: _, _ => False
def DenG (g : Cfg) (H : Hp) (ι : Io) : List D → List (NestedKey × Addr × V) → Prop
  | [], xs => xs = []
  | .tup [k, x] :: r, xs => ∃ nk b v t, xs = (nk, b, v) :: t ∧ nkT k = some nk ∧ Den g H ι k (.ref b) ∧ Den g H ι x v ∧ DenG g H ι r t
  | _ :: _, _ => False
end
def DctAt (g : Cfg) (H : Hp) (ι : Io) (a : Addr) (es : List D) : Prop :=
  (∃ kvs, H a = some (.dK kvs) ∧ DenE g H ι es kvs) ∨ ∃ xs, H a = some (GDo g.P g.w a xs) ∧ es ≠ [] ∧ DenG g H ι es xs
def DenF (g : Cfg) (H : Hp) (ι : Io) : List (Nat × D) → List (Str × V) → Prop
  | [], fs => fs = []
  | (f, x) :: r, fs => ∃ v t, fs = (fname f, v) :: t ∧ Den g H ι x v ∧ DenF g H ι r t
def MDen (g : Cfg) (H : Hp) (ι : Io) (a : Addr) : MO → Prop
  | .lst xs => ∃ vs, H a = some (.lst vs) ∧ DenL g H ι xs vs
  | .dct es => DctAt g H ι a es
  | .obj c fs => ∃ dx fs', H a = some (.ins (g.aC c) dx fs') ∧ DenF g H ι fs fs' ∧ fs.length ≤ 16
  | .dead => False
  | .lkl xs => ∃ o vs, H a = some (.frz o (.lst vs)) ∧ DenL g H ι xs vs
  | .lkd es => (∃ o kvs, H a = some (.frz o (.dK kvs)) ∧ DenE g H ι es kvs) ∨ ∃ o xs, H a = some (.frz o (GDo g.P g.w a xs)) ∧ es ≠ [] ∧ DenG g H ι es xs
structure Rel (g : Cfg) (H : Hp) (ι : Io) (m : List MO) : Prop where
  len : ι.length = m.length
  at_ : ∀ (k : Nat) (mo : MO), m[k]? = some mo → (mo = .dead ∧ ι[k]? = some none) ∨ ∃ a, ι[k]? = some (some a) ∧ MDen g H ι a mo
  inj : ∀ (j k : Nat) (a : Addr), ι[j]? = some (some a) → ι[k]? = some (some a) → j = k
  tab : ∀ p ∈ g.tabs, LamX.TabS H p.1 p.2
/-- names by slot -/
def EnvDen (g : Cfg) (H : Hp) (ι : Io) (σ : L2.St) (e : List (Option D)) : Prop :=
  σ.length = e.length ∧ ∀ (i : Nat) d, e[i]? = some (some d) → ∃ v, σ[i]? = some (some v) ∧ Den g H ι d v
def SR (g : Cfg) (H : Hp) (ι : Io) (σ : L2.St) (s : S) : Prop := EnvDen g H ι σ s.e ∧ Rel g H ι s.m
/-- a later heap: what stood outside the store stands, and is not taken into it; places of the store die at most -/
structure Le (H : Hp) (ι : Io) (H' : Hp) (ι' : Io) : Prop where
  keep : ∀ a o, H a = some o → some a ∉ ι → notT o = true → H' a = some o ∧ some a ∉ ι'
  trk : ∀ a o, H a = some o → notT o = true → ∃ o', H' a = some o' ∧ notT o' = true
  len : ι.length ≤ ι'.length
  same : ∀ (k : Nat), k < ι.length → ι'[k]? = ι[k]? ∨ ι'[k]? = some none
  frz : ∀ a o u, H a = some (.frz o u) → H' a = some (.frz o u)
  fresh : ∀ (k : Nat) (p : Addr), ι.length ≤ k → ι'[k]? = some (some p) → ∀ o, H p = some o → notT o = false
theorem nofresh {ι : Io} {P : Addr → Prop} : ∀ (k : Nat) (p : Addr), ι.length ≤ k → ι[k]? = some (some p) → P p := fun k p h e => by rw [List.getElem?_eq_none h] at e; cases e
section
variable {g : Cfg} {H H' H2 : Hp} {ι ι' ι2 : Io}
theorem Le.full (keep : ∀ a o, H a = some o → some a ∉ ι → H' a = some o ∧ some a ∉ ι') (trk : ∀ a o, H a = some o → notT o = true → ∃ o', H' a = some o' ∧ notT o' = true) (len : ι.length ≤ ι'.length) (same : ∀ (k : Nat), k < ι.length → ι'[k]? = ι[k]? ∨ ι'[k]? = some none)
    (frz : ∀ a o u, H a = some (.frz o u) → H' a = some (.frz o u)) (fresh : ∀ (k : Nat) (p : Addr), ι.length ≤ k → ι'[k]? = some (some p) → ∀ o, H p = some o → notT o = false) : Le H ι H' ι' :=
  ⟨fun a o h n _ => keep a o h n, trk, len, same, frz, fresh⟩
theorem Le.refl (H : Hp) (ι : Io) : Le H ι H ι := .full (fun _ _ h n => ⟨h, n⟩) (fun _ o h t => ⟨o, h, t⟩) (Nat.le_refl _) (fun _ _ => .inl rfl) (fun _ _ _ h => h) nofresh
theorem Le.trans (a : Le H ι H' ι') (b : Le H' ι' H2 ι2) : Le H ι H2 ι2 where
  keep := fun c o h n t => by
    obtain ⟨h1, n1⟩ := a.keep c o h n t
    exact b.keep c o h1 n1 t
  trk := fun c o h t => by
    obtain ⟨o', h', t'⟩ := a.trk c o h t
    exact b.trk c o' h' t'
  len := Nat.le_trans a.len b.len
  frz := fun c o u h => b.frz c o u (a.frz c o u h)
  fresh := fun k p h e o ho => by
    by_cases hk : k < ι'.length
    · rcases b.same k hk with q | q
      · exact a.fresh k p h (q ▸ e) o ho
      · rw [q] at e; cases e
    · cases t : notT o with
      | false => rfl
      | true =>
        obtain ⟨o', h1, h2⟩ := a.trk p o ho t
        have := b.fresh k p (by omega) e o' h1
        rw [h2] at this
        cases this
  same := fun k hk => by
    rcases b.same k (Nat.lt_of_lt_of_le hk a.len) with e | e
    · rcases a.same k hk with f | f
      · exact .inl (e.trans f)
      · exact .inr (e.trans f)
    · exact .inr e
theorem Rd.lx {a : Addr} {u : HO} (l : Lx H ι H' ι') (h : Rd H a u) (n : some a ∉ ι) (t : notT u = true) : Rd H' a u ∧ some a ∉ ι' := by
  rcases h with h | ⟨o, h⟩
  · obtain ⟨h1, n1⟩ := l.keep _ _ h n t
    exact ⟨.inl h1, n1⟩
  · obtain ⟨h1, n1⟩ := l.keep _ _ h n rfl
    exact ⟨.inr ⟨o, h1⟩, n1⟩
mutual
theorem Den.lx (l : Lx H ι H' ι') : ∀ (d : D) (v : V), Den g H ι d v → Den g H' ι' d v
  | .non, v, h => by simpa only [Den] using h
  | .bl b, v, h => by simpa only [Den] using h
  | .int i, v, h => by simpa only [Den] using h
  | .str s, v, h => by simpa only [Den] using h
  | .cls c, v, h => by simpa only [Den] using h
  | .clo c, v, h => by
    simp only [Den] at h ⊢
    exact g.extLx c _ _ _ _ v l h
  | .scr xs, v, h => by
    simp only [Den] at h ⊢
    obtain ⟨a, rfl, h⟩ := h
    rcases h with ⟨ha, na⟩ | h
    · exact ⟨a, rfl, .inl (Rd.lx l ha na rfl)⟩
    · exact ⟨a, rfl, .inr h⟩
  | .tup xs, v, h => by
    simp only [Den] at h ⊢
    obtain ⟨a, vs, rfl, ⟨ha, na⟩, r⟩ := h
    exact ⟨a, vs, rfl, l.keep _ _ ha na rfl, DenL.lx l xs vs r⟩
  | .lst xs, v, h => by
    simp only [Den] at h ⊢
    obtain ⟨a, vs, rfl, ⟨ha, na⟩, r⟩ := h
    exact ⟨a, vs, rfl, l.keep _ _ ha na rfl, DenL.lx l xs vs r⟩
  | .dct es, v, h => by
    simp only [Den] at h ⊢
    obtain ⟨a, rfl, na, r⟩ := h
    rcases r with ⟨kvs, ha, r⟩ | ⟨xs, ha, ne, r⟩
    · exact ⟨a, rfl, (l.keep _ _ ha na rfl).2, .inl ⟨kvs, (l.keep _ _ ha na rfl).1, DenE.lx l es kvs r⟩⟩
    · exact ⟨a, rfl, (l.keep _ _ ha na rfl).2, .inr ⟨xs, (l.keep _ _ ha na rfl).1, ne, DenG.lx l es xs r⟩⟩
  | .ins c xs, v, h => by
    simp only [Den] at h ⊢
    obtain ⟨a, dx, vs, ns, rfl, ⟨ha, na⟩, e, e2, r⟩ := h
    exact ⟨a, dx, vs, ns, rfl, l.keep _ _ ha na rfl, e, e2, DenL.lx l xs vs r⟩
  | .ref k, v, h => by
    simp only [Den] at h ⊢
    refine ⟨Nat.lt_of_lt_of_le h.1 l.len, fun a e => ?_⟩
    rcases l.same k h.1 with f | f
    · exact h.2 a (f ▸ e)
    · rw [f] at e
      cases e
theorem DenL.lx (l : Lx H ι H' ι') : ∀ (d : List D) (v : List V), DenL g H ι d v → DenL g H' ι' d v
  | [], v, h => by simpa only [DenL] using h
  | x :: r, v, h => by
    simp only [DenL] at h ⊢
    obtain ⟨u, t, rfl, a, b⟩ := h
    exact ⟨u, t, rfl, Den.lx l x u a, DenL.lx l r t b⟩
theorem DenE.lx (l : Lx H ι H' ι') : ∀ (d : List D) (v : List (Key × V)), DenE g H ι d v → DenE g H' ι' d v
  | [], v, h => by simpa only [DenE] using h
  | .tup [k, x] :: r, v, h => by
    simp only [DenE] at h ⊢
    obtain ⟨key, u, t, rfl, e, a, b⟩ := h
    exact ⟨key, u, t, rfl, e, Den.lx l x u a, DenE.lx l r t b⟩
  | .non :: r, v, h => by simp only [DenE] at h
  | .bl _ :: r, v, h => by simp only [DenE] at h
  | .int _ :: r, v, h => by simp only [DenE] at h
  | .str _ :: r, v, h => by simp only [DenE] at h
  | .lst _ :: r, v, h => by simp only [DenE] at h
  | .dct _ :: r, v, h => by simp only [DenE] at h
  | .ins _ _ :: r, v, h => by simp only [DenE] at h
  | .ref _ :: r, v, h => by simp only [DenE] at h
  | .clo _ :: r, v, h => by simp only [DenE] at h
  | .cls _ :: r, v, h => by simp only [DenE] at h
  | .scr _ :: r, v, h => by simp only [DenE] at h
  | .tup [] :: r, v, h => by simp only [DenE] at h
  | .tup [_] :: r, v, h => by simp only [DenE] at h
  | .tup (_ :: _ :: _ :: _) :: r, v, h => by simp only [DenE] at h
theorem DenG.lx (l : Lx H ι H' ι') : ∀ (d : List D) (v : List (NestedKey × Addr × V)), DenG g H ι d v → DenG g H' ι' d v
  | [], v, h => by simpa only [DenG] using h
  | .tup [k, x] :: r, v, h => by
    simp only [DenG] at h ⊢
    obtain ⟨nk, b, u, t, rfl, e, a, c, d⟩ := h
    exact ⟨nk, b, u, t, rfl, e, Den.lx l k _ a, Den.lx l x u c, DenG.lx l r t d⟩
  | .non :: r, v, h => by simp only [DenG] at h
  | .bl _ :: r, v, h => by simp only [DenG] at h
  | .int _ :: r, v, h => by simp only [DenG] at h
  | .str _ :: r, v, h => by simp only [DenG] at h
  | .lst _ :: r, v, h => by simp only [DenG] at h
  | .dct _ :: r, v, h => by simp only [DenG] at h
  | .ins _ _ :: r, v, h => by simp only [DenG] at h
  | .ref _ :: r, v, h => by simp only [DenG] at h
  | .clo _ :: r, v, h => by simp only [DenG] at h
  | .cls _ :: r, v, h => by simp only [DenG] at h
  | .scr _ :: r, v, h => by simp only [DenG] at h
  | .tup [] :: r, v, h => by simp only [DenG] at h
  | .tup [_] :: r, v, h => by simp only [DenG] at h
  | .tup (_ :: _ :: _ :: _) :: r, v, h => by simp only [DenG] at h
end
theorem Le.lx (l : Le H ι H' ι') : Lx H ι H' ι' := ⟨l.keep, l.len, l.same⟩
theorem Den.le (l : Le H ι H' ι') (d : D) (v : V) (h : Den g H ι d v) : Den g H' ι' d v := Den.lx l.lx d v h
theorem DenL.le (l : Le H ι H' ι') (d : List D) (v : List V) (h : DenL g H ι d v) : DenL g H' ι' d v := DenL.lx l.lx d v h
theorem DenE.le (l : Le H ι H' ι') (d : List D) (v : List (Key × V)) (h : DenE g H ι d v) : DenE g H' ι' d v := DenE.lx l.lx d v h
theorem DenG.le (l : Le H ι H' ι') (d : List D) (v : List (NestedKey × Addr × V)) (h : DenG g H ι d v) : DenG g H' ι' d v := DenG.lx l.lx d v h
theorem DenF.lx (l : Lx H ι H' ι') : ∀ (d : List (Nat × D)) (v : List (Str × V)), DenF g H ι d v → DenF g H' ι' d v
  | [], v, h => by simpa only [DenF] using h
  | (f, x) :: r, v, h => by
    simp only [DenF] at h ⊢
    obtain ⟨u, t, rfl, a, b⟩ := h
    exact ⟨u, t, rfl, Den.lx l x u a, DenF.lx l r t b⟩
theorem DenF.le (l : Le H ι H' ι') : ∀ (d : List (Nat × D)) (v : List (Str × V)), DenF g H ι d v → DenF g H' ι' d v
  | [], v, h => by simpa only [DenF] using h
  | (f, x) :: r, v, h => by
    simp only [DenF] at h ⊢
    obtain ⟨u, t, rfl, a, b⟩ := h
    exact ⟨u, t, rfl, Den.le l x u a, DenF.le l r t b⟩
theorem EnvDen.le {σ : L2.St} {e : List (Option D)} (l : Le H ι H' ι') (h : EnvDen g H ι σ e) : EnvDen g H' ι' σ e :=
  ⟨h.1, fun i d q => by
    obtain ⟨v, a, b⟩ := h.2 i d q
    exact ⟨v, a, Den.le l d v b⟩⟩
theorem DenL.length : ∀ {xs : List D} {vs : List V}, DenL g H ι xs vs → xs.length = vs.length
  | [], vs, h => by simp only [DenL] at h; subst h; rfl
  | x :: r, vs, h => by
    simp only [DenL] at h
    obtain ⟨v, t, rfl, _, b⟩ := h
    simp only [List.length_cons, DenL.length b]
theorem DenL.cons {x : D} {xs : List D} {v : V} {vs : List V} (a : Den g H ι x v) (b : DenL g H ι xs vs) : DenL g H ι (x :: xs) (v :: vs) := by
  simp only [DenL]; exact ⟨v, vs, rfl, a, b⟩
theorem DenL.append : ∀ {xs ys : List D} {vs ws : List V}, DenL g H ι xs vs → DenL g H ι ys ws → DenL g H ι (xs ++ ys) (vs ++ ws)
  | [], ys, vs, ws, h, k => by simp only [DenL] at h; subst h; exact k
  | x :: r, ys, vs, ws, h, k => by
    simp only [DenL] at h
    obtain ⟨v, t, rfl, a, b⟩ := h
    exact DenL.cons a (DenL.append b k)
theorem DenL.get : ∀ {xs : List D} {vs : List V} {i : Nat} {d : D}, DenL g H ι xs vs → xs[i]? = some d → ∃ v, vs[i]? = some v ∧ Den g H ι d v
  | [], _, _, _, _, e => by simp at e
  | x :: r, vs, 0, d, h, e => by
    simp only [DenL] at h
    obtain ⟨v, t, rfl, a, b⟩ := h
    simp at e
    subst e
    exact ⟨v, by simp, a⟩
  | x :: r, vs, i + 1, d, h, e => by
    simp only [DenL] at h
    obtain ⟨v, t, rfl, a, b⟩ := h
    obtain ⟨u, e1, e2⟩ := DenL.get (i := i) b (by simpa using e)
    exact ⟨u, by simpa using e1, e2⟩
theorem DenL.take : ∀ {xs : List D} {vs : List V} (n : Nat), DenL g H ι xs vs → DenL g H ι (xs.take n) (vs.take n)
  | xs, vs, 0, h => by simp [DenL]
  | [], vs, n + 1, h => by simp only [DenL] at h; subst h; simp [DenL]
  | x :: r, vs, n + 1, h => by
    simp only [DenL] at h
    obtain ⟨v, t, rfl, a, b⟩ := h
    exact DenL.cons a (DenL.take n b)
theorem DenL.drop : ∀ {xs : List D} {vs : List V} (n : Nat), DenL g H ι xs vs → DenL g H ι (xs.drop n) (vs.drop n)
  | xs, vs, 0, h => h
  | [], vs, n + 1, h => by simp only [DenL] at h; subst h; simp [DenL]
  | x :: r, vs, n + 1, h => by
    simp only [DenL] at h
    obtain ⟨v, t, rfl, a, b⟩ := h
    exact DenL.drop n b
theorem DenL.set : ∀ {xs : List D} {vs : List V} (n : Nat) {d : D} {v : V}, Den g H ι d v → DenL g H ι xs vs → DenL g H ι (xs.set n d) (vs.set n v)
  | [], vs, n, d, v, e, h => by simp only [DenL] at h; subst h; simp [DenL]
  | x :: r, vs, 0, d, v, e, h => by
    simp only [DenL] at h
    obtain ⟨u, t, rfl, a, b⟩ := h
    exact DenL.cons e b
  | x :: r, vs, n + 1, d, v, e, h => by
    simp only [DenL] at h
    obtain ⟨u, t, rfl, a, b⟩ := h
    exact DenL.cons a (DenL.set n e b)
theorem DenL.erase : ∀ {xs : List D} {vs : List V} (n : Nat), DenL g H ι xs vs → DenL g H ι (xs.eraseIdx n) (vs.eraseIdx n)
  | [], vs, n, h => by simp only [DenL] at h; subst h; simp [DenL]
  | x :: r, vs, 0, h => by
    simp only [DenL] at h
    obtain ⟨u, t, rfl, a, b⟩ := h
    exact b
  | x :: r, vs, n + 1, h => by
    simp only [DenL] at h
    obtain ⟨u, t, rfl, a, b⟩ := h
    exact DenL.cons a (DenL.erase n b)
theorem DenL.reverse : ∀ {xs : List D} {vs : List V}, DenL g H ι xs vs → DenL g H ι xs.reverse vs.reverse
  | [], vs, h => by simp only [DenL] at h; subst h; simp [DenL]
  | x :: r, vs, h => by
    simp only [DenL] at h
    obtain ⟨u, t, rfl, a, b⟩ := h
    rw [List.reverse_cons, List.reverse_cons]
    exact DenL.append (DenL.reverse b) (DenL.cons a (by simp [DenL]))
theorem DenL.rep {xs : List D} {vs : List V} (h : DenL g H ι xs vs) : ∀ k : Nat, DenL g H ι (List.replicate k xs).flatten (List.replicate k vs).flatten
  | 0 => by simp [DenL]
  | k + 1 => by
    rw [List.replicate_succ, List.replicate_succ, List.flatten_cons, List.flatten_cons]
    exact DenL.append h (DenL.rep h k)
end
end SV
set_option linter.all false
set_option Elab.async false
set_option maxRecDepth 100000
namespace SV
open PySem PySem.Spec PyProof.Rows L2
/-- what is wanted of an outcome -/
def OutP {α : Type} (o : Out α) (P : α → Prop) (E : Nat → D → S → Prop) : Prop := match o with
  | .ok a => P a
  | .exc c d s => E c d s
  | .bad => False
section
variable {α β : Type} {P P' : α → Prop} {E E' : Nat → D → S → Prop}
theorem OutP.mono {o : Out α} (h : OutP o P E) (hp : ∀ a, P a → P' a) (he : ∀ c d s, E c d s → E' c d s) : OutP o P' E' := by
  cases o with
  | ok a => exact hp a h
  | exc c d s => exact he c d s h
  | bad => exact h
theorem OutP.bind {o : Out α} {f : α → Out β} {Q : β → Prop} : OutP (o >>= f) Q E ↔ OutP o (fun a => OutP (f a) Q E) E := by
  cases o <;> exact Iff.rfl
theorem OutP.gd {b : Bool} {Q : Unit → Prop} : OutP (gd b) Q E ↔ b = true ∧ Q () := by
  cases b <;> simp [SV.gd, OutP]
theorem OutP.opt {o : Option α} {Q : α → Prop} : OutP (opt o) Q E ↔ ∃ a, o = some a ∧ Q a := by
  cases o <;> simp [SV.opt, OutP]
theorem OutP.ok {a : α} : OutP (.ok a) P E ↔ P a := Iff.rfl
theorem OutP.pure {a : α} : OutP (pure a : Out α) P E ↔ P a := Iff.rfl
theorem OutP.bad : ¬ OutP (.bad : Out α) P E := fun h => h
end
/-- how an exception of SV lies behind: its class, its own dict -/
def EDen (g : Cfg) (H : Hp) (ι : Io) (c : Nat) (d : D) (cls : Value) (dd : Option Addr) : Prop :=
  cls = .ref (g.aC c) ∧ ((dd = none ∧ d = .non) ∨ ∃ a f v, dd = some a ∧ (H a = some (.xd [(f, v)]) ∧ some a ∉ ι) ∧ Den g H ι d v ∧
    ((c = 22 ∧ f = fname 12) ∨ (c = 24 ∧ f = fname 12) ∨ (c = 25 ∧ f = fname 13) ∨ (c = 30 ∧ f = fname 14)))
def XC (g : Cfg) (W : WX) (H : Hp) (ι : Io) (σ : L2.St) : Nat → D → S → Prop := fun c d s => g.xp = true ∧
  ∀ cls dd σ' H' ι', Le H ι H' ι' → SR g H' ι' σ' s → EDen g H' ι' c d cls dd → W cls dd σ' H'
/-- a list or dict that is new where its expression says so: made last, over a heap of which R is known -/
def Nw (fr : Bool) (g : Cfg) (R : Hp → Io → Prop) (H' : Hp) (ι' : Io) (z : D) (w : V) : Prop := fr = true →
  (∀ xs, z = .lst xs → ∃ H1 p vs, w = .ref p ∧ H1 p = none ∧ H' = upd H1 p (.lst vs) ∧ R H1 ι' ∧ DenL g H1 ι' xs vs) ∧
  (∀ es, z = .dct es → ∃ H1 p kvs, w = .ref p ∧ H1 p = none ∧ H' = upd H1 p (.dK kvs) ∧ R H1 ι' ∧ DenE g H1 ι' es kvs)
/-- an expression: it is run by SV, and what is wanted is wanted of its value -/
def tD (g : Cfg) (W : WX) (fr : Bool) (f : S → Out (D × S)) : TE := fun σ H Q => ∃ ι s, SR g H ι σ s ∧
  OutP (f s) (fun p => ∀ v H' ι', Le H ι H' ι' → SR g H' ι' σ p.2 → Den g H' ι' p.1 v → Nw fr g (fun H1 ι1 => Le H ι H1 ι1 ∧ SR g H1 ι1 σ p.2) H' ι' p.1 v → Q v H') (XC g W H ι σ)
def tDs (g : Cfg) (W : WX) (f : S → Out (List D × S)) : TA := fun σ H Q => ∃ ι s, SR g H ι σ s ∧
  OutP (f s) (fun p => ∀ vs H' ι', Le H ι H' ι' → SR g H' ι' σ p.2 → DenL g H' ι' p.1 vs → Q vs H') (XC g W H ι σ)
def tDb (g : Cfg) (W : WX) (f : S → Out (Bool × S)) : TT := fun σ H Q => ∃ ι s, SR g H ι σ s ∧
  OutP (f s) (fun p => ∀ H' ι', Le H ι H' ι' → SR g H' ι' σ p.2 → Q p.1 H') (XC g W H ι σ)
/-- an expression as a test -/
def bE (f : S → Out (D × S)) : S → Out (Bool × S) := fun s => do
  let (d, s) ← f s
  let b ← asBool d
  .ok (b, s)
section
variable {g : Cfg} {W : WX} {H H' H2 : Hp} {ι ι' ι2 : Io} {σ : L2.St} {s : S}
theorem SR.le {s : S} (l : Le H ι H' ι') (h : SR g H ι σ s) (r : Rel g H' ι' s.m) : SR g H' ι' σ s := ⟨h.1.le l, r⟩
theorem XC.mono (l : Le H ι H' ι') {c : Nat} {d : D} {s : S} (h : XC g W H ι σ c d s) : XC g W H' ι' σ c d s := ⟨h.1, fun cls dd σ' H2 ι2 l2 r e => h.2 cls dd σ' H2 ι2 (l.trans l2) r e⟩
theorem Nw.imp {fr : Bool} {R R' : Hp → Io → Prop} {d : D} {v : V} (h : Nw fr g R H' ι' d v) (k : ∀ H1 ι1, R H1 ι1 → R' H1 ι1) : Nw fr g R' H' ι' d v := fun e => by
  obtain ⟨h1, h2⟩ := h e
  refine ⟨fun xs q => ?_, fun xs q => ?_⟩
  · obtain ⟨H1, p, vs, a, b, c, d, e⟩ := h1 xs q
    exact ⟨H1, p, vs, a, b, c, k _ _ d, e⟩
  · obtain ⟨H1, p, vs, a, b, c, d, e⟩ := h2 xs q
    exact ⟨H1, p, vs, a, b, c, k _ _ d, e⟩
theorem Nw.no {R : Hp → Io → Prop} {d : D} {v : V} : Nw false g R H' ι' d v := fun e => nomatch e
theorem Nw.wk {fr fr' : Bool} {R : Hp → Io → Prop} {d : D} {v : V} (h : Nw fr' g R H' ι' d v) (k : fr = true → fr' = true) : Nw fr g R H' ι' d v := fun e => h (k e)
theorem Nw.flat {fr : Bool} {R : Hp → Io → Prop} {d : D} {v : V} (h : ∀ xs, d ≠ .lst xs ∧ d ≠ .dct xs) : Nw fr g R H' ι' d v := fun _ => ⟨fun xs e => absurd e (h xs).1, fun xs e => absurd e (h xs).2⟩
/-- the value of an expression, then the rest -/
theorem tD.then {fr : Bool} {f : S → Out (D × S)} {Q : VK} {E : Nat → D → S → Prop} {P : D × S → Prop} (hr : SR g H ι σ s) (h : OutP (f s) P E)
    (hE : ∀ c d s, E c d s → XC g W H ι σ c d s)
    (k : ∀ d s' v H' ι', P (d, s') → Le H ι H' ι' → SR g H' ι' σ s' → Den g H' ι' d v → Nw fr g (fun H1 ι1 => Le H ι H1 ι1 ∧ SR g H1 ι1 σ s') H' ι' d v → Q v H') : tD g W fr f σ H Q :=
  ⟨ι, s, hr, h.mono (fun p hp v H' ι' l r e n => k p.1 p.2 v H' ι' hp l r e n) hE⟩
theorem tDs.then {f : S → Out (List D × S)} {Q : List V → Hp → Prop} {E : Nat → D → S → Prop} {P : List D × S → Prop} (hr : SR g H ι σ s) (h : OutP (f s) P E)
    (hE : ∀ c d s, E c d s → XC g W H ι σ c d s)
    (k : ∀ ds s' vs H' ι', P (ds, s') → Le H ι H' ι' → SR g H' ι' σ s' → DenL g H' ι' ds vs → Q vs H') : tDs g W f σ H Q :=
  ⟨ι, s, hr, h.mono (fun p hp v H' ι' l r e => k p.1 p.2 v H' ι' hp l r e) hE⟩
theorem tDb.then {f : S → Out (Bool × S)} {Q : Bool → Hp → Prop} {E : Nat → D → S → Prop} {P : Bool × S → Prop} (hr : SR g H ι σ s) (h : OutP (f s) P E)
    (hE : ∀ c d s, E c d s → XC g W H ι σ c d s)
    (k : ∀ b s' H' ι', P (b, s') → Le H ι H' ι' → SR g H' ι' σ s' → Q b H') : tDb g W f σ H Q :=
  ⟨ι, s, hr, h.mono (fun p hp H' ι' l r => k p.1 p.2 H' ι' hp l r) hE⟩
end
theorem PE.imp {X : Cx} {e : Expr} {t u : TE} (h : PE X e t) (k : ∀ σ H Q, u σ H Q → t σ H Q) : PE X e u := ⟨fun pins s σ H Q I q => h.run pins s σ H Q I (k σ H Q q)⟩
theorem PT.imp {X : Cx} {e : Expr} {t u : TT} (h : PT X e t) (k : ∀ σ H Q, u σ H Q → t σ H Q) : PT X e u := ⟨fun pins s σ H Q I q => h.run pins s σ H Q I (k σ H Q q)⟩
theorem PA.imp {X : Cx} {e : List Expr} {t u : TA} (h : PA X e t) (k : ∀ σ H Q, u σ H Q → t σ H Q) : PA X e u := ⟨fun pos pins s σ H Q I q => h.run pos pins s σ H Q I (k σ H Q q)⟩
theorem PS.imp {X : Cx} {e : Stmt} {t u : TS} (h : PS X e t) (k : ∀ D σ H, u D σ H → t D σ H) : PS X e u := ⟨fun pins s σ H D I q => h.run pins s σ H D I (k D σ H q)⟩
theorem PSs.imp {X : Cx} {e : List Stmt} {t u : TS} (h : PSs X e t) (k : ∀ D σ H, u D σ H → t D σ H) : PSs X e u := ⟨fun pins s σ H D I q => h.run pins s σ H D I (k D σ H q)⟩
section
variable {X : Cx} {g : Cfg} {W : WX} {a b : Expr} {fa fb : S → Out (D × S)} {pos : Pos}
/-- a two-place operation by values: f gives the value and the store -/
def Op2 (g : Cfg) (r : R2) (fr : Bool) (f : List MO → D → D → Out D) : Prop :=
  ∀ (H : Hp) (ι : Io) (m : List MO) (x y : D) (v u : V) (z : D) (Q : VK), Rel g H ι m → Den g H ι x v → Den g H ι y u → f m x y = .ok z →
    (∀ w H' ι', Le H ι H' ι' → Rel g H' ι' m → Den g H' ι' z w → Nw fr g (fun H1 ι1 => Le H ι H1 ι1 ∧ Rel g H1 ι1 m) H' ι' z w → Q w H') → r v u H Q
/-- the operation never raises -/
def Calm2 (f : List MO → D → D → Out D) : Prop := ∀ m x y c d s, f m x y ≠ .exc c d s
theorem tOp_D {r : R2} {fr fra frb : Bool} {f : List MO → D → D → Out D} (h : Op2 g r fr f) (hc : Calm2 f) {σ : L2.St} {H : Hp} {Q : VK}
    (q : tD g W fr (fun s => do
      let (x, s) ← fa s
      let (y, s) ← fb s
      let z ← f s.m x y
      .ok (z, s)) σ H Q) : tOp r (tD g W fra fa) (tD g W frb fb) σ H Q := by
  obtain ⟨ι, s, sr, o⟩ := q
  rw [OutP.bind] at o
  refine tD.then sr o (fun _ _ _ h => h) fun x s1 v H1 ι1 o1 l1 sr1 d1 _ => ?_
  dsimp only at o1
  rw [OutP.bind] at o1
  refine tD.then sr1 o1 (fun _ _ _ h => h.mono l1) fun y s2 u H2 ι2 o2 l2 sr2 d2 _ => ?_
  dsimp only at o2
  rw [OutP.bind] at o2
  cases e : f s2.m x y with
  | bad => rw [e] at o2; exact o2.elim
  | exc c d t => exact absurd e (hc _ _ _ _ _ _)
  | ok z =>
    rw [e] at o2
    exact h H2 ι2 s2.m x y v u z Q sr2.2 (Den.le l2 _ _ d1) d2 e fun w H' ι' l r dn n => o2 w H' ι' ((l1.trans l2).trans l) (sr2.le l r) dn (n.imp fun H1 ι1 q => ⟨(l1.trans l2).trans q.1, sr2.le q.1 q.2⟩)
end
end SV
set_option linter.all false
set_option Elab.async false
set_option maxRecDepth 100000
set_option maxHeartbeats 4000000
namespace SV
open PySem PySem.Spec PyProof.Rows L2
theorem sizeL_eq : sizeL = sizeLine := by rw [sizeLine_eq]; rfl
section
variable {X : Cx}
/-- () + t is t -/
theorem op_catT0 : OpR X (binaryOp .Add) (fun x y H Q => ∃ a b ys, x = .ref a ∧ y = .ref b ∧ SqT X.K H a [] ∧ SqT X.K H b ys ∧ Q (.ref b) H) := by
  intro pins s σ H x y v u Q I rx ry h
  obtain ⟨a, b, ys, rfl, rfl, ha, hb, q⟩ := h
  cases rx
  cases ry
  obtain ⟨its, r1, p1, _⟩ := I.tuple ha
  obtain ⟨its2, r2, p2, _⟩ := I.tuple hb
  cases r1
  obtain ⟨⟨cls, dd, data, sl⟩, ho, hc, n, hd⟩ := id p1
  obtain ⟨⟨cls2, dd2, data2, sl2⟩, ho2, hc2, n2, hd2⟩ := id p2
  simp only at hc hd hc2 hd2
  subst hc hd hc2 hd2
  exact concat_meets ⟨_, ho, rfl⟩ ⟨_, ho2, rfl⟩ noFill_tuple_add seq_tuple_add PySem.F.slot_tuple_add PySem.F.entry_tuple_add (PySem.F.args_tuple_add_2 _ _)
      (tuple_addW0 a b #[] its2.toArray n n2 dd dd2 sl sl2 rfl) ⟨ho, ho2, ⟨.ref b, H, I, rfl, q⟩⟩
theorem tuple_mulW1 (l : Addr) (items : Array Value) (n : Nat) (dd : Option Addr) (sl : Array (Option Value)) (x : Int) (u : Tok) (c0 : (decide (x < -(2 ^ 63)) || decide (x ≥ 2 ^ 63)) = false) (c1 : (items.isEmpty || x == 1) = true) :
    Meets (Builtin.«tuple.__mul__» ⟨[.ref l, .int x u], []⟩) (fun _ R s => s.heap.get? l = some { cls := .type "tuple", dict := dd, data := .seq items n, slots := sl } ∧
      R (.ok (.ret (Value.ref l))) s) :=
  .of_wp fun prog w A R s h => by
    obtain ⟨hp, g, d, tk, os⟩ := s
    obtain ⟨hl, h⟩ := h
    have f1 := AutoSeq1.idx_int
    wp_walk using wpAny_loadPart' hl
    repeat (first
      | (refine wpAny_ite_false (decide_eq_false (by rw [c0]; exact Bool.false_ne_true)) ?_; wp_walk using wpAny_loadPart' hl)
      | (refine wpAny_ite_true (decide_eq_true c1) ?_; wp_walk using wpAny_loadPart' hl))
    exact ⟨_, rfl, h⟩
theorem tuple_mulW0 (l : Addr) (items : Array Value) (n : Nat) (dd : Option Addr) (sl : Array (Option Value)) (x : Int) (u : Tok) (c0 : (decide (x < -(2 ^ 63)) || decide (x ≥ 2 ^ 63)) = false) (c1 : (items.isEmpty || x == 1) = false) (c2 : (decide (x ≤ 0) || items.isEmpty) = true) :
    Meets (Builtin.«tuple.__mul__» ⟨[.ref l, .int x u], []⟩) (fun _ R s => s.heap.get? l = some { cls := .type "tuple", dict := dd, data := .seq items n, slots := sl } ∧
      R (.ok (.ret (Value.ref s.heap.objs.size))) { s with heap := s.heap.push { cls := Value.type "tuple", data := Data.seq #[] }, toks := s.toks }) :=
  .of_wp fun prog w A R s h => by
    obtain ⟨hp, g, d, tk, os⟩ := s
    obtain ⟨hl, h⟩ := h
    have f1 := AutoSeq1.idx_int
    wp_walk using wpAny_loadPart' hl
    repeat (first
      | (refine wpAny_ite_false (decide_eq_false (by rw [c0]; exact Bool.false_ne_true)) ?_; wp_walk using wpAny_loadPart' hl)
      | (refine wpAny_ite_false (decide_eq_false (by rw [c1]; exact Bool.false_ne_true)) ?_; wp_walk using wpAny_loadPart' hl)
      | (refine wpAny_ite_true (decide_eq_true c2) ?_; wp_walk using wpAny_loadPart' hl))
    exact ⟨_, rfl, h⟩
/-- a tuple once, or not at all -/
def rRepT1 (K : PySem.W.Frag) : R2 := fun x y H Q => ∃ l k xs, x = .ref l ∧ y = .int k ∧ SqT K H l xs ∧ xs ≠ [] ∧ -(2 ^ 62) < k ∧ k ≤ 1 ∧ (k = 1 → Q (.ref l) H) ∧ (k ≤ 0 → ∀ p, H p = none → Q (.ref p) (upd H p (.tup [])))
theorem op_repT1 : OpR X (binaryOp .Mult) (rRepT1 X.K) := by
  intro pins s σ H x y v u Q I rx ry h
  obtain ⟨l, k, xs, rfl, rfl, hT, hne, h1, h2, q1, q0⟩ := h
  cases rx
  obtain ⟨t, rfl⟩ := ry
  obtain ⟨its, r, ⟨⟨cls, dd, data, sl⟩, ho, hc, n, hd⟩, hs⟩ := I.tuple hT
  simp only at hc hd
  subst hc hd
  have hle : its.length = xs.length := r.length.symm
  have hi : its.toArray.isEmpty = false := by
    cases its with
    | nil => exact absurd (List.eq_nil_of_length_eq_zero hle.symm) hne
    | cons a b => rfl
  have c0 : (decide (k < -(2 ^ 63)) || decide (k ≥ 2 ^ 63)) = false := by
    rw [decide_eq_false (by omega), decide_eq_false (by omega)] <;> rfl
  by_cases e1 : k = 1
  · subst e1
    have c1 : (its.toArray.isEmpty || (1 : Int) == 1) = true := by rw [hi]; rfl
    exact wpAny_binaryOp_repeat_ref (T := "tuple") (U := "int") (by decide) ⟨_, ho, rfl⟩ (fun s' => typeIs_int s' 1 t) noFill_tuple_mul F.fills_int_mul F.slot_int_rmul repeat_tuple F.slot_int_index.lookup
      (call_meets F.slot_int_rmul (typeIs_int s 1 t) F.entry_int_rmul (F.args_int_rmul_2 _ _) (int_rmul_tuple 1 t l its.toArray n dd sl)
        ⟨ho, rfl, ⟨_, ho, rfl⟩, call_meets F.slot_tuple_mul ⟨_, ho, rfl⟩ F.entry_tuple_mul (F.args_tuple_mul_2 _ _) (tuple_mulW1 l its.toArray n dd sl 1 t c0 c1) ⟨ho, ⟨.ref l, H, I, rfl, q1 rfl⟩⟩⟩)
  · have c1 : (its.toArray.isEmpty || k == 1) = false := by
      rw [hi, Bool.false_or]
      exact beq_eq_false_iff_ne.mpr e1
    have c2 : (decide (k ≤ 0) || its.toArray.isEmpty) = true := by
      rw [decide_eq_true (by omega), Bool.true_or]
    refine wpAny_binaryOp_repeat_ref (T := "tuple") (U := "int") (by decide) ⟨_, ho, rfl⟩ (fun s' => typeIs_int s' k t) noFill_tuple_mul F.fills_int_mul F.slot_int_rmul repeat_tuple F.slot_int_index.lookup
      (call_meets F.slot_int_rmul (typeIs_int s k t) F.entry_int_rmul (F.args_int_rmul_2 _ _) (int_rmul_tuple k t l its.toArray n dd sl)
        ⟨ho, rfl, ⟨_, ho, rfl⟩, call_meets F.slot_tuple_mul ⟨_, ho, rfl⟩ F.entry_tuple_mul (F.args_tuple_mul_2 _ _) (tuple_mulW0 l its.toArray n dd sl k t c0 c1 c2) ⟨ho, ?_⟩⟩)
    refine ⟨.ref s.heap.objs.size, _, I.laid (t' := s.toks) (o := .tup []) (fun b ob q => Heap.get?_push_of_some _ q) (Nat.le_refl _) ?_, rfl, q0 (by omega) _ (I.hok.fresh (Nat.le_refl _))⟩
    exact ⟨Nat.zero_le _, [], .nil, IsTup.new _ _⟩
end
end SV
set_option linter.all false
set_option Elab.async false
set_option maxRecDepth 100000
set_option maxHeartbeats 4000000
namespace SV
open PySem PySem.Spec PyProof.Rows L2
section
variable {g : Cfg} {H H' : Hp} {ι ι' : Io} {m : List MO} {p : Addr} {o : HO}
theorem Rel.ne (r : Rel g H ι m) {a : Addr} (h : some a ∈ ι) : H a ≠ none := by
  obtain ⟨k, hk⟩ := List.getElem?_of_mem h
  have hlt : k < m.length := by rw [← r.len]; exact (List.getElem?_eq_some_iff.mp hk).1
  rcases r.at_ k _ (List.getElem?_eq_getElem hlt) with ⟨_, e⟩ | ⟨b, e, md⟩
  · rw [hk] at e; cases e
  · rw [hk] at e
    cases e
    generalize m[k] = mo at md
    cases mo with
    | lst xs => obtain ⟨vs, q, _⟩ := md; rw [q]; exact fun z => nomatch z
    | dct es =>
      rcases md with ⟨kvs, q, _⟩ | ⟨xs, q, _⟩
      · rw [q]; exact fun z => nomatch z
      · rw [q]; exact fun z => nomatch z
    | obj c fs => obtain ⟨dx, fs', q, _⟩ := md; rw [q]; exact fun z => nomatch z
    | dead => exact md.elim
    | lkl xs => obtain ⟨o, vs, q, _⟩ := md; rw [q]; exact fun z => nomatch z
    | lkd es =>
      rcases md with ⟨o, kvs, q, _⟩ | ⟨o, xs, q, _⟩
      · rw [q]; exact fun z => nomatch z
      · rw [q]; exact fun z => nomatch z
/-- an object that is no dict is no dict with nested keys -/
theorem codeO_gdo {P : Program} {w : World} {c a : Addr} {q : Str} {xs : List (NestedKey × Addr × V)} : LamX.CodeO c q ≠ GDo P w a xs := fun z => by
  unfold LamX.CodeO GDo at z
  have e := HO.ext.inj z
  let ob : Obj := { cls := .none, data := .fields #[.none, .str q 0] }
  let h : Heap := { objs := Array.replicate (c + 1) ob }
  have hg : ∀ b o, h.get? b = some o → o = ob := fun b o hb => by
    unfold Heap.get? at hb
    by_cases hl : b < c + 1
    · have e1 : h.objs[b]? = some ob := by simp [h, hl]
      rw [e1] at hb
      exact (Option.some.inj hb).symm
    · have e1 : h.objs[b]? = none := Array.getElem?_eq_none (by show (Array.replicate (c + 1) ob).size ≤ b; rw [Array.size_replicate]; exact Nat.le_of_not_lt hl)
      rw [e1] at hb
      cases hb
  have hc : h.get? c = some ob := by
    unfold Heap.get?
    have e1 : h.objs[c]? = some ob := by simp [h]
    rw [e1]
  have l : ∃ (oc : Obj) (vs : Array Value) (t : Tok), h.get? c = some oc ∧ oc.data = .fields vs ∧ vs[1]? = some (.str q t) := ⟨ob, #[.none, .str q 0], 0, hc, rfl, rfl⟩
  rw [show (∃ (oc : Obj) (vs : Array Value) (t : Tok), h.get? c = some oc ∧ oc.data = .fields vs ∧ vs[1]? = some (.str q t)) = _ from congrFun e h] at l
  obtain ⟨_, _, _, o, es, ep, us, h1, _, h2, _⟩ := l
  have e2 := hg a o h1
  subst e2
  cases h2
/-- a place of the store is no table and no code object -/
theorem MDen.ntc {a : Addr} {mo : MO} (md : MDen g H ι a mo) : (∀ ps, H a ≠ some (.tbl ps)) ∧ ∀ c q, H a ≠ some (LamX.CodeO c q) := by
  cases mo with
  | lst xs => obtain ⟨vs, q, _⟩ := md; rw [q]; exact ⟨fun _ z => (by cases z), fun _ _ z => (by unfold LamX.CodeO at z; cases z)⟩
  | dct es =>
    rcases md with ⟨kvs, q, _⟩ | ⟨xs, q, _⟩
    · rw [q]; exact ⟨fun _ z => (by cases z), fun _ _ z => (by unfold LamX.CodeO at z; cases z)⟩
    · rw [q]; exact ⟨fun _ z => (by unfold GDo at z; cases z), fun _ _ z => codeO_gdo (Option.some.inj z).symm⟩
  | obj c fs => obtain ⟨dx, fs', q, _⟩ := md; rw [q]; exact ⟨fun _ z => (by cases z), fun _ _ z => (by unfold LamX.CodeO at z; cases z)⟩
  | dead => exact md.elim
  | lkl xs => obtain ⟨o, vs, q, _⟩ := md; rw [q]; exact ⟨fun _ z => (by cases z), fun _ _ z => (by unfold LamX.CodeO at z; cases z)⟩
  | lkd es =>
    rcases md with ⟨o, kvs, q, _⟩ | ⟨o, xs, q, _⟩
    · rw [q]; exact ⟨fun _ z => (by cases z), fun _ _ z => (by unfold LamX.CodeO at z; cases z)⟩
    · rw [q]; exact ⟨fun _ z => (by cases z), fun _ _ z => (by unfold LamX.CodeO at z; cases z)⟩
theorem Rel.ntc (r : Rel g H ι m) {k : Nat} {p : Addr} (e : ι[k]? = some (some p)) : (∀ ps, H p ≠ some (.tbl ps)) ∧ ∀ c q, H p ≠ some (LamX.CodeO c q) := by
  have hk : k < m.length := by rw [← r.len]; exact (List.getElem?_eq_some_iff.mp e).1
  rcases r.at_ k m[k] (List.getElem?_eq_getElem hk) with ⟨_, z⟩ | ⟨a, z, md⟩
  · rw [e] at z; cases z
  · rw [e] at z; cases z; exact md.ntc
/-- tables and code objects that stay -/
theorem tabS_of {H H' : Hp} {P : Addr} {q : Str} (t : LamX.TabS H P q) (k : ∀ b o, H b = some o → ((∃ ps, o = .tbl ps) ∨ ∃ c q, o = LamX.CodeO c q) → H' b = some o) : LamX.TabS H' P q := by
  obtain ⟨ps, h1, h2, h3⟩ := t
  refine ⟨ps, k _ _ h1 (.inl ⟨_, rfl⟩), h2, fun pos cv hc => ?_⟩
  obtain ⟨c, e1, e2⟩ := h3 pos cv hc
  exact ⟨c, e1, k _ _ e2 (.inr ⟨_, _, rfl⟩)⟩
theorem Rel.tabW (r : Rel g H ι m) {k : Nat} {p : Addr} (e : ι[k]? = some (some p)) {H' : Hp} (hk : ∀ b, b ≠ p → H' b = H b) : ∀ q ∈ g.tabs, LamX.TabS H' q.1 q.2 := fun q hq => by
  obtain ⟨n1, n2⟩ := r.ntc e
  refine tabS_of (r.tab q hq) fun b o h z => ?_
  rw [hk b (fun y => ?_)]
  · exact h
  · subst y
    rcases z with ⟨ps, z⟩ | ⟨c, q, z⟩
    · subst z; exact n1 ps h
    · subst z; exact n2 c q h
theorem Rel.nin (r : Rel g H ι m) {a : Addr} (h : H a = none) : some a ∉ ι := fun z => r.ne z h
theorem Le.new (hp : H p = none) : Le H ι (upd H p o) ι := .full (fun a u h n => ⟨by rw [upd_ne (ne_of_none h hp)]; exact h, n⟩) (fun a o h t => ⟨o, by rw [upd_ne (ne_of_none h hp)]; exact h, t⟩) (Nat.le_refl _) (fun _ _ => .inl rfl) (fun a _ _ h => by rw [upd_ne (ne_of_none h hp)]; exact h) nofresh
theorem DctAt.le {a : Addr} {es : List D} (l : Le H ι H' ι') (hk : ∀ u, H a = some u → H' a = some u) (h : DctAt g H ι a es) : DctAt g H' ι' a es := by
  rcases h with ⟨kvs, q, r⟩ | ⟨xs, q, ne, r⟩
  · exact .inl ⟨kvs, hk _ q, r.le l⟩
  · exact .inr ⟨xs, hk _ q, ne, r.le l⟩
theorem MDen.le {a : Addr} {mo : MO} (l : Le H ι H' ι') (hk : ∀ u, H a = some u → H' a = some u) (h : MDen g H ι a mo) : MDen g H' ι' a mo := by
  cases mo with
  | lst xs => obtain ⟨vs, q, r⟩ := h; exact ⟨vs, hk _ q, r.le l⟩
  | dct es => exact DctAt.le l hk h
  | obj c fs => obtain ⟨dx, fs', q, r, z⟩ := h; exact ⟨dx, fs', hk _ q, r.le l, z⟩
  | dead => exact h
  | lkl xs => obtain ⟨o, vs, q, r⟩ := h; exact ⟨o, vs, hk _ q, r.le l⟩
  | lkd es =>
    rcases h with ⟨o, kvs, q, r⟩ | ⟨o, xs, q, ne, r⟩
    · exact .inl ⟨o, kvs, hk _ q, r.le l⟩
    · exact .inr ⟨o, xs, hk _ q, ne, r.le l⟩
theorem Rel.ext (r : Rel g H ι m) (l : Le H ι H' ι) (hk : ∀ a u, some a ∈ ι → H a = some u → H' a = some u) (hT : ∀ a u, H a = some u → H' a = some u) : Rel g H' ι m :=
  ⟨r.len, fun k mo e => by
    rcases r.at_ k mo e with q | ⟨a, q, md⟩
    · exact .inl q
    · exact .inr ⟨a, q, md.le l (fun u => hk a u (List.mem_of_getElem? q))⟩, r.inj, fun p hp => (r.tab p hp).ext hT⟩
theorem Rel.new (r : Rel g H ι m) (hp : H p = none) : Rel g (upd H p o) ι m := r.ext (Le.new hp) (fun a u _ h => by rw [upd_ne (ne_of_none h hp)]; exact h) fun a u h => by rw [upd_ne (ne_of_none h hp)]; exact h
theorem SR.new {σ : L2.St} {s : S} (r : SR g H ι σ s) (hp : H p = none) : SR g (upd H p o) ι σ s := ⟨r.1.le (Le.new hp), r.2.new hp⟩
theorem Den.newT {xs : List D} {vs : List V} (r : Rel g H ι m) (hp : H p = none) (d : DenL g H ι xs vs) : Den g (upd H p (.tup vs)) ι (.tup xs) (.ref p) := by
  simp only [Den]
  exact ⟨p, vs, rfl, ⟨upd_same, r.nin hp⟩, d.le (Le.new hp)⟩
theorem Den.newL {xs : List D} {vs : List V} (r : Rel g H ι m) (hp : H p = none) (d : DenL g H ι xs vs) : Den g (upd H p (.lst vs)) ι (.lst xs) (.ref p) := by
  simp only [Den]
  exact ⟨p, vs, rfl, ⟨upd_same, r.nin hp⟩, d.le (Le.new hp)⟩
theorem Nw.newL {fr : Bool} {xs : List D} {vs : List V} (hp : H p = none) (r : Rel g H ι m) (d : DenL g H ι xs vs) : Nw fr g (fun H1 ι1 => Le H ι H1 ι1 ∧ Rel g H1 ι1 m) (upd H p (.lst vs)) ι (.lst xs) (.ref p) :=
  fun _ => ⟨fun ys e => by cases e; exact ⟨H, p, vs, rfl, hp, rfl, ⟨Le.refl _ _, r⟩, d⟩, fun ys e => nomatch e⟩
/-- what a list (of the store or frozen) is -/
theorem Den.seq {d : D} {v : V} (r : Rel g H ι m) (h : Den g H ι d v) {xs : List D} (e : seqOf m d = some xs) :
    ∃ a vs, v = .ref a ∧ (H a = some (.lst vs) ∨ H a = some (.tup vs)) ∧ DenL g H ι xs vs := by
  cases d with
  | tup ys => simp only [Den] at h; obtain ⟨a, vs, rfl, ⟨ha, _⟩, q⟩ := h; simp only [seqOf, Option.some.injEq] at e; subst e; exact ⟨a, vs, rfl, .inr ha, q⟩
  | lst ys => simp only [Den] at h; obtain ⟨a, vs, rfl, ⟨ha, _⟩, q⟩ := h; simp only [seqOf, Option.some.injEq] at e; subst e; exact ⟨a, vs, rfl, .inl ha, q⟩
  | ref k =>
    simp only [seqOf] at e
    cases hm : m[k]? with
    | none => rw [hm] at e; cases e
    | some mo =>
      rw [hm] at e
      cases mo with
      | lst ys =>
        simp only [Option.some.injEq] at e
        subst e
        rcases r.at_ k _ hm with ⟨z, _⟩ | ⟨a, q, vs, ha, dn⟩
        · cases z
        · simp only [Den] at h
          exact ⟨a, vs, h.2 a q, .inl ha, dn⟩
      | dct _ => cases e
      | obj _ _ => cases e
      | dead => cases e
      | lkl _ => cases e
      | lkd _ => cases e
  | non => cases e
  | bl _ => cases e
  | int _ => cases e
  | str _ => cases e
  | dct _ => cases e
  | ins _ _ => cases e
  | clo _ => cases e
  | cls _ => cases e
  | scr _ => cases e
/-- .. a list alone -/
theorem Den.list {d : D} {v : V} (r : Rel g H ι m) (h : Den g H ι d v) {xs : List D} (e : rslv m d = .lst xs) :
    ∃ a vs, v = .ref a ∧ H a = some (.lst vs) ∧ DenL g H ι xs vs := by
  cases d with
  | lst ys => simp only [Den] at h; obtain ⟨a, vs, rfl, ⟨ha, _⟩, q⟩ := h; simp only [rslv, D.lst.injEq] at e; subst e; exact ⟨a, vs, rfl, ha, q⟩
  | ref k =>
    simp only [rslv] at e
    cases hm : m[k]? with
    | none => rw [hm] at e; cases e
    | some mo =>
      rw [hm] at e
      cases mo with
      | lst ys =>
        simp only [D.lst.injEq] at e
        subst e
        rcases r.at_ k _ hm with ⟨z, _⟩ | ⟨a, q, vs, ha, dn⟩
        · cases z
        · simp only [Den] at h
          exact ⟨a, vs, h.2 a q, ha, dn⟩
      | dct _ => cases e
      | obj _ _ => cases e
      | dead => cases e
      | lkl _ => cases e
      | lkd _ => cases e
  | tup _ => cases e
  | non => cases e
  | bl _ => cases e
  | int _ => cases e
  | str _ => cases e
  | dct _ => cases e
  | ins _ _ => cases e
  | clo _ => cases e
  | cls _ => cases e
  | scr _ => cases e
theorem Den.tuple {v : V} {xs : List D} (h : Den g H ι (.tup xs) v) : ∃ a vs, v = .ref a ∧ H a = some (.tup vs) ∧ DenL g H ι xs vs := by
  simp only [Den] at h
  obtain ⟨a, vs, rfl, ⟨ha, _⟩, q⟩ := h
  exact ⟨a, vs, rfl, ha, q⟩
end
theorem gd_ok {b : Bool} {α : Type} {f : Unit → Out α} {z : α} (h : (gd b >>= f) = .ok z) : b = true ∧ f () = .ok z := by
  cases b
  · cases h
  · exact ⟨rfl, h⟩
theorem calm_bind {α : Type} {o : Option α} {β : Type} {f : α → Out β} (h : ∀ a c d s, f a ≠ .exc c d s) : ∀ c d s, (opt o >>= f) ≠ .exc c d s := by
  intro c d s
  cases o with
  | none => exact fun z => nomatch z
  | some a => exact h a c d s
theorem calm_gd {b : Bool} {β : Type} {f : Unit → Out β} (h : ∀ c d s, f () ≠ .exc c d s) : ∀ c d s, (gd b >>= f) ≠ .exc c d s := by
  intro c d s
  cases b with
  | false => exact fun z => nomatch z
  | true => exact h c d s
theorem opt_ok {α β : Type} {o : Option α} {f : α → Out β} {z : β} (h : (opt o >>= f) = .ok z) : ∃ a, o = some a ∧ f a = .ok z := by
  cases o with
  | none => cases h
  | some a => exact ⟨a, rfl, h⟩
/-- the rule of every operator that SV knows -/
def rBin (K : PySem.W.Frag) : Operator → R2
  | .Add => fun x y H Q => (rI0 (fun i j => .int (i + j)) x y H Q) ∨ ((∃ i j, x = .str i ∧ y = .str j ∧ i.length + j.length ≤ sizeLine ∧ Q (.str (i ++ j)) H) ∨ (rCat x y H Q ∨ (rCatT K x y H Q ∨ (∃ a b ys, x = .ref a ∧ y = .ref b ∧ SqT K H a [] ∧ SqT K H b ys ∧ Q (.ref b) H))))
  | .Sub => rI0 fun i j => .int (i - j)
  | .Mult => fun x y H Q => (rI CMul (fun i j => .int (i * j)) x y H Q) ∨ (rRep x y H Q ∨ (rRepT K x y H Q ∨ rRepT1 K x y H Q))
  | .FloorDiv => rI CDivW fun i j => .int (i / j)
  | .Mod => rI (fun _ j => 0 < j) fun i j => .int (i % j)
  | .Pow => rI CPow fun i j => .int (i ^ j.toNat)
  | _ => fun _ _ _ _ => False
theorem opr_never {X : Cx} {f : Value → Value → Sem Value} : OpR X f (fun _ _ _ _ => False) := fun _ _ _ _ _ _ _ _ _ _ _ _ h => h.elim
theorem op_bin {X : Cx} : ∀ op : Operator, OpR X (binaryOp op) (rBin X.K op)
  | .Add => OpR.or op_add (OpR.or op_add_str (OpR.or op_cat (OpR.or op_catT op_catT0)))
  | .Sub => op_sub
  | .Mult => OpR.or op_mul (OpR.or op_rep (OpR.or op_repT op_repT1))
  | .FloorDiv => op_fdivW
  | .Mod => op_mod
  | .Pow => op_pow
  | .MatMult => opr_never
  | .Div => opr_never
  | .LShift => opr_never
  | .RShift => opr_never
  | .BitOr => opr_never
  | .BitXor => opr_never
  | .BitAnd => opr_never
end SV
set_option linter.all false
set_option Elab.async false
set_option maxRecDepth 100000
set_option maxHeartbeats 4000000
namespace SV
open PySem PySem.Spec PyProof.Rows L2
section
variable {g : Cfg} {H H' : Hp} {ι ι' : Io} {m : List MO}
theorem log_small {j : Int} (h0 : 0 < j) (h : j < 2 ^ 62) : j.natAbs.log2 < 9000 := by
  have h1 : j.natAbs < 2 ^ 62 := by omega
  have h2 : j.natAbs ≠ 0 := by omega
  have : j.natAbs.log2 < 62 := (Nat.log2_lt h2).mpr h1
  omega
theorem bin_ok (op : Operator) : Op2 g (rBin g.K op) true (fun m x y => binD m op x y) := by
  intro H ι m x y v u z Q r dx dy e k
  simp only [binD] at e
  split at e
  · -- ints
    cases e
    simp only [Den] at dx dy
    subst dx dy
    exact .inl ⟨_, _, rfl, rfl, k _ H ι (Le.refl _ _) r (by simp only [Den]) (Nw.flat (by intro a; constructor <;> (intro z; cases z)))⟩
  · obtain ⟨b, e⟩ := gd_ok e
    cases e
    simp only [Den] at dx dy
    subst dx dy
    rw [sizeL_eq] at b
    exact .inr (.inl ⟨_, _, rfl, rfl, of_decide_eq_true b, k _ H ι (Le.refl _ _) r (by simp only [Den]) (Nw.flat (by intro a; constructor <;> (intro z; cases z)))⟩)
  · obtain ⟨b, e⟩ := gd_ok e
    cases e
    rw [sizeL_eq] at b
    have hb := of_decide_eq_true b
    obtain ⟨a1, vs, rfl, ha, da⟩ := dx.tuple
    obtain ⟨a2, ws, rfl, hb2, db⟩ := dy.tuple
    rename_i xs ys
    by_cases hx : vs = []
    · subst hx
      have : xs = [] := by
        have := da.length
        exact List.eq_nil_of_length_eq_zero this
      subst this
      exact .inr (.inr (.inr (.inr ⟨a1, a2, ws, rfl, rfl, SqT.of ha, SqT.of hb2, k _ H ι (Le.refl _ _) r dy (Nw.flat (by intro a; constructor <;> (intro z; cases z)))⟩)))
    · refine .inr (.inr (.inr (.inl ⟨a1, a2, vs, ws, rfl, rfl, SqT.of ha, SqT.of hb2, hx, by rw [← da.length, ← db.length]; exact hb, fun hy => ?_, fun _ p hp => ?_⟩)))
      · subst hy
        have : ys = [] := List.eq_nil_of_length_eq_zero db.length
        subst this
        rw [List.append_nil] at k
        exact k _ H ι (Le.refl _ _) r dx (Nw.flat (by intro a; constructor <;> (intro z; cases z)))
      · exact k _ _ ι (Le.new hp) (r.new hp) (Den.newT r hp (da.append db)) (Nw.flat (by intro a; constructor <;> (intro z; cases z)))
  · -- lists
    split at e
    · rename_i xs ys e1 e2
      obtain ⟨b, e⟩ := gd_ok e
      cases e
      rw [sizeL_eq] at b
      have hb := of_decide_eq_true b
      obtain ⟨a1, vs, rfl, ha, da⟩ := dx.list r e1
      obtain ⟨a2, ws, rfl, hb2, db⟩ := dy.list r e2
      refine .inr (.inr (.inl ⟨a1, a2, vs, ws, rfl, rfl, ha, hb2, by rw [← da.length, ← db.length]; exact hb, fun p hp => ?_⟩))
      exact k _ _ ι (Le.new hp) (r.new hp) (Den.newL r hp (da.append db)) (Nw.newL hp r (da.append db))
    · cases e
  · cases e
    simp only [Den] at dx dy
    subst dx dy
    exact ⟨_, _, rfl, rfl, k _ H ι (Le.refl _ _) r (by simp only [Den]) (Nw.flat (by intro a; constructor <;> (intro z; cases z)))⟩
  · obtain ⟨b, e⟩ := gd_ok e
    cases e
    simp only [Den] at dx dy
    subst dx dy
    have hb := of_decide_eq_true b
    exact .inl ⟨_, _, rfl, rfl, hb, k _ H ι (Le.refl _ _) r (by simp only [Den]) (Nw.flat (by intro a; constructor <;> (intro z; cases z)))⟩
  · obtain ⟨b, e⟩ := gd_ok e
    cases e
    rename_i xs kk
    obtain ⟨h1, h2, h3, h4⟩ := of_decide_eq_true b
    obtain ⟨a1, vs, rfl, ha, da⟩ := dx.tuple
    simp only [Den] at dy
    subst dy
    have hne : vs ≠ [] := fun z => h1 (by subst z; exact List.eq_nil_of_length_eq_zero da.length)
    by_cases h5 : 2 ≤ kk
    · refine .inr (.inr (.inl ⟨a1, kk, vs, rfl, rfl, SqT.of ha, hne, h5, h4, by rw [← da.length]; exact h2, fun p hp => ?_⟩))
      exact k _ _ ι (Le.new hp) (r.new hp) (Den.newT r hp (da.rep _)) (Nw.flat (by intro a; constructor <;> (intro z; cases z)))
    · refine .inr (.inr (.inr ⟨a1, kk, vs, rfl, rfl, SqT.of ha, hne, h3, by omega, fun e1 => ?_, fun e0 p hp => ?_⟩))
      · subst e1
        have e : (List.replicate (1 : Int).toNat xs).flatten = xs := by simp
        rw [e] at k
        exact k _ H ι (Le.refl _ _) r dx (Nw.flat (by intro a; constructor <;> (intro z; cases z)))
      · have e : (List.replicate kk.toNat xs).flatten = [] := by
          have : kk.toNat = 0 := by omega
          rw [this]
          rfl
        rw [e] at k
        exact k _ _ ι (Le.new hp) (r.new hp) (Den.newT r hp (by simp only [DenL])) (Nw.flat (by intro a; constructor <;> (intro z; cases z)))
  · split at e
    · rename_i xs e1
      obtain ⟨b, e⟩ := gd_ok e
      cases e
      rw [sizeL_eq] at b
      obtain ⟨h1, h2, h3⟩ := of_decide_eq_true b
      obtain ⟨a1, vs, rfl, ha, da⟩ := dx.list r e1
      simp only [Den] at dy
      subst dy
      refine .inr (.inl ⟨a1, _, vs, rfl, rfl, ha, by omega, by omega, by rw [← da.length]; exact h1, fun p hp => ?_⟩)
      exact k _ _ ι (Le.new hp) (r.new hp) (Den.newL r hp (da.rep _)) (Nw.newL hp r (da.rep _))
    · cases e
  · obtain ⟨b, e⟩ := gd_ok e
    cases e
    obtain ⟨h1, h2⟩ := of_decide_eq_true b
    simp only [Den] at dx dy
    subst dx dy
    exact ⟨_, _, rfl, rfl, ⟨h1, log_small h1 h2⟩, k _ H ι (Le.refl _ _) r (by simp only [Den]) (Nw.flat (by intro a; constructor <;> (intro z; cases z)))⟩
  · obtain ⟨b, e⟩ := gd_ok e
    cases e
    simp only [Den] at dx dy
    subst dx dy
    have hb := of_decide_eq_true b
    exact ⟨_, _, rfl, rfl, hb, k _ H ι (Le.refl _ _) r (by simp only [Den]) (Nw.flat (by intro a; constructor <;> (intro z; cases z)))⟩
  · obtain ⟨b, e⟩ := gd_ok e
    cases e
    simp only [Den] at dx dy
    subst dx dy
    have hb := of_decide_eq_true b
    exact ⟨_, _, rfl, rfl, hb, k _ H ι (Le.refl _ _) r (by simp only [Den]) (Nw.flat (by intro a; constructor <;> (intro z; cases z)))⟩
  · cases e
theorem bin_calm (op : Operator) : Calm2 (fun m x y => binD m op x y) := by
  intro m x y c d s
  simp only [binD]
  split
  · intro z; cases z
  · exact calm_gd (fun _ _ _ z => by cases z) c d s
  · exact calm_gd (fun _ _ _ z => by cases z) c d s
  · split
    · exact calm_gd (fun _ _ _ z => by cases z) c d s
    · intro z; cases z
  · intro z; cases z
  · exact calm_gd (fun _ _ _ z => by cases z) c d s
  · exact calm_gd (fun _ _ _ z => by cases z) c d s
  · split
    · exact calm_gd (fun _ _ _ z => by cases z) c d s
    · intro z; cases z
  · exact calm_gd (fun _ _ _ z => by cases z) c d s
  · exact calm_gd (fun _ _ _ z => by cases z) c d s
  · exact calm_gd (fun _ _ _ z => by cases z) c d s
  · intro z; cases z
end
end SV
set_option linter.all false
set_option Elab.async false
set_option maxRecDepth 100000
set_option maxHeartbeats 4000000
namespace SV
open PySem PySem.Spec PyProof.Rows L2
mutual
def pd : D → PyData
  | .bl b => .bool b
  | .int i => .int i
  | .str s => .str s
  | .tup xs => .tuple (pds xs)
  | .lst xs => .list (pds xs)
  | _ => .none
def pds : List D → List PyData
  | [] => []
  | x :: r => pd x :: pds r
end
section
variable {g : Cfg} {H H' : Hp} {ι ι' : Io} {m : List MO}
theorem okD_dp : ∀ (n : Nat) (d : D) (v : V), okD n d = true → Den g H ι d v → Dp g.K H v (pd d) ∧ (pd d).canLay0 = true ∧ (pd d).depth ≤ n := by
  intro n
  induction n with
  | zero =>
    intro d v h e
    cases d <;> simp only [okD, Bool.false_eq_true] at h <;> simp only [Den] at e
    · subst e; exact ⟨.non, rfl, by simp [pd, PyData.depth]⟩
    · subst e; exact ⟨.bl _, rfl, by simp [pd, PyData.depth]⟩
    · subst e; exact ⟨.int _, rfl, by simp [pd, PyData.depth]⟩
    · subst e; exact ⟨.str _, by simp only [pd, PyData.canLay0]; exact h, by simp [pd, PyData.depth]⟩
  | succ n ih =>
    have hall : ∀ (xs : List D) (vs : List V), xs.all (okD n) = true → DenL g H ι xs vs → DpAll g.K H vs (pds xs) ∧ PyData.canLayAll0 (pds xs) = true ∧ PyData.depthAll (pds xs) ≤ n := by
      intro xs
      induction xs with
      | nil => intro vs _ e; simp only [DenL] at e; subst e; exact ⟨.nil, rfl, by simp [pds, PyData.depthAll]⟩
      | cons x r ir =>
        intro vs h e
        simp only [List.all_cons, Bool.and_eq_true] at h
        simp only [DenL] at e
        obtain ⟨v, t, rfl, a, b⟩ := e
        obtain ⟨a1, a2, a3⟩ := ih x v h.1 a
        obtain ⟨b1, b2, b3⟩ := ir t h.2 b
        refine ⟨.cons a1 b1, ?_, ?_⟩
        · simp only [pds, PyData.canLayAll0, a2, b2, Bool.and_self]
        · simp only [pds, PyData.depthAll]; omega
    intro d v h e
    cases d <;> simp only [okD, Bool.false_eq_true] at h
    · simp only [Den] at e; subst e; exact ⟨.non, rfl, by simp [pd, PyData.depth]⟩
    · simp only [Den] at e; subst e; exact ⟨.bl _, rfl, by simp [pd, PyData.depth]⟩
    · simp only [Den] at e; subst e; exact ⟨.int _, rfl, by simp [pd, PyData.depth]⟩
    · simp only [Den] at e; subst e; exact ⟨.str _, by simp only [pd, PyData.canLay0]; exact h, by simp [pd, PyData.depth]⟩
    · obtain ⟨a, vs, rfl, ha, dn⟩ := e.tuple
      obtain ⟨b1, b2, b3⟩ := hall _ vs h dn
      refine ⟨.tup (SqT.of ha) b1, by simpa only [pd, PyData.canLay0] using b2, by simp only [pd, PyData.depth]; omega⟩
    · simp only [Den] at e
      obtain ⟨a, vs, rfl, ⟨ha, _⟩, dn⟩ := e
      obtain ⟨b1, b2, b3⟩ := hall _ vs h dn
      refine ⟨.lst (SqL.of ha) b1, by simpa only [pd, PyData.canLay0] using b2, by simp only [pd, PyData.depth]; omega⟩
theorem okD_dps (n : Nat) : ∀ (xs : List D) (vs : List V), xs.all (okD n) = true → DenL g H ι xs vs → DpAll g.K H vs (pds xs) ∧ PyData.canLayAll0 (pds xs) = true ∧ PyData.depthAll (pds xs) ≤ n
  | [], vs, _, e => by simp only [DenL] at e; subst e; exact ⟨.nil, rfl, by simp [pds, PyData.depthAll]⟩
  | x :: r, vs, h, e => by
    simp only [List.all_cons, Bool.and_eq_true] at h
    simp only [DenL] at e
    obtain ⟨v, t, rfl, a, b⟩ := e
    obtain ⟨a1, a2, a3⟩ := okD_dp n x v h.1 a
    obtain ⟨b1, b2, b3⟩ := okD_dps n r t h.2 b
    refine ⟨.cons a1 b1, ?_, ?_⟩
    · simp only [pds, PyData.canLayAll0, a2, b2, Bool.and_self]
    · simp only [pds, PyData.depthAll]; omega
/-- .. at the top, perhaps of the store -/
theorem okD_top {n : Nat} (r : Rel g H ι m) {d : D} {v : V} (h : okD n (rslv m d) = true) (e : Den g H ι d v) : Dp g.K H v (pd (rslv m d)) ∧ (pd (rslv m d)).canLay0 = true ∧ (pd (rslv m d)).depth ≤ n := by
  cases d with
  | ref k =>
    cases hr : rslv m (.ref k) with
    | lst xs =>
      rw [hr] at h
      cases n with
      | zero => simp [okD] at h
      | succ n =>
        simp only [okD] at h
        obtain ⟨a, vs, rfl, ha, dn⟩ := e.list r hr
        obtain ⟨b1, b2, b3⟩ := okD_dps n _ vs h dn
        refine ⟨.lst (SqL.of ha) b1, by simpa only [pd, PyData.canLay0] using b2, by simp only [pd, PyData.depth]; omega⟩
    | ref j => rw [hr] at h; cases n <;> simp [okD] at h
    | dct es => rw [hr] at h; cases n <;> simp [okD] at h
    | non => simp only [rslv] at hr; split at hr <;> cases hr
    | bl _ => simp only [rslv] at hr; split at hr <;> cases hr
    | int _ => simp only [rslv] at hr; split at hr <;> cases hr
    | str _ => simp only [rslv] at hr; split at hr <;> cases hr
    | tup _ => simp only [rslv] at hr; split at hr <;> cases hr
    | ins _ _ => simp only [rslv] at hr; split at hr <;> cases hr
    | clo _ => simp only [rslv] at hr; split at hr <;> cases hr
    | cls _ => simp only [rslv] at hr; split at hr <;> cases hr
    | scr _ => simp only [rslv] at hr; split at hr <;> cases hr
  | non => exact okD_dp n _ v h e
  | bl _ => exact okD_dp n _ v h e
  | int _ => exact okD_dp n _ v h e
  | str _ => exact okD_dp n _ v h e
  | tup _ => exact okD_dp n _ v h e
  | lst _ => exact okD_dp n _ v h e
  | dct _ => exact okD_dp n _ v h e
  | ins _ _ => exact okD_dp n _ v h e
  | clo _ => exact okD_dp n _ v h e
  | cls _ => exact okD_dp n _ v h e
  | scr _ => exact okD_dp n _ v h e
end
mutual
theorem eqB_pd : ∀ (n k : Nat) (x y : D), okD n x = true → okD k y = true → PyData.eqv (pd x) (pd y) = eqB x y
  | 0, k, x, y, hx, hy => by
    cases x <;> simp only [okD, Bool.false_eq_true] at hx <;> cases y <;> (first | rfl | (cases k <;> simp only [okD, Bool.false_eq_true] at hy <;> rfl))
  | n + 1, 0, x, y, hx, hy => by
    cases y <;> simp only [okD, Bool.false_eq_true] at hy <;> cases x <;> simp only [okD, Bool.false_eq_true] at hx <;> rfl
  | n + 1, k + 1, x, y, hx, hy => by
    cases x <;> simp only [okD, Bool.false_eq_true] at hx <;> cases y <;> simp only [okD, Bool.false_eq_true] at hy <;> (try rfl)
    · simp only [pd, PyData.eqv, eqB]; exact eqBs_pd n k _ _ hx hy
    · simp only [pd, PyData.eqv, eqB]; exact eqBs_pd n k _ _ hx hy
theorem eqBs_pd : ∀ (n k : Nat) (xs ys : List D), xs.all (okD n) = true → ys.all (okD k) = true → PyData.eqvAll (pds xs) (pds ys) = eqBs xs ys
  | n, k, [], [], _, _ => by simp [pds, PyData.eqvAll, eqBs]
  | n, k, [], _ :: _, _, _ => by simp [pds, PyData.eqvAll, eqBs]
  | n, k, _ :: _, [], _, _ => by simp [pds, PyData.eqvAll, eqBs]
  | n, k, x :: r, y :: t, hx, hy => by
    simp only [List.all_cons, Bool.and_eq_true] at hx hy
    simp only [pds, PyData.eqvAll, eqBs]
    rw [eqB_pd n k x y hx.1 hy.1, eqBs_pd n k r t hx.2 hy.2]
end
end SV
namespace SV
open PySem PySem.Spec PyProof.Rows L2
/-- a two-place operation as SV reckons it -/
def rS (g : Cfg) (fr : Bool) (f : List MO → D → D → Out D) : R2 := fun v u H Q => ∃ ι m x y z, Rel g H ι m ∧ Den g H ι x v ∧ Den g H ι y u ∧ f m x y = .ok z ∧
  ∀ w H' ι', Le H ι H' ι' → Rel g H' ι' m → Den g H' ι' z w → Nw fr g (fun H1 ι1 => Le H ι H1 ι1 ∧ Rel g H1 ι1 m) H' ι' z w → Q w H'
theorem OpR.imp {X : Cx} {f : Value → Value → Sem Value} {r r' : R2} (h : OpR X f r) (k : ∀ x y H Q, r' x y H Q → r x y H Q) : OpR X f r' :=
  fun pins s σ H x y v u Q I rx ry q => h pins s σ H x y v u Q I rx ry (k x y H Q q)
theorem op2_rS {g : Cfg} {fr : Bool} {f : List MO → D → D → Out D} : Op2 g (rS g fr f) fr f := fun H ι m x y v u z Q r dx dy e k => ⟨ι, m, x, y, z, r, dx, dy, e, k⟩
theorem rS_of {X : Cx} {g : Cfg} {fr : Bool} {f : List MO → D → D → Out D} {r : R2} {h : Value → Value → Sem Value} (o : OpR X h r) (k : Op2 g r fr f) : OpR X h (rS g fr f) :=
  OpR.imp o fun x y H Q q => by
    obtain ⟨ι, m, a, b, z, hr, da, db, e, q⟩ := q
    exact k H ι m a b x y z Q hr da db e q
theorem rS_or {X : Cx} {g : Cfg} {fr : Bool} {f f1 f2 : List MO → D → D → Out D} {h : Value → Value → Sem Value} (o1 : OpR X h (rS g fr f1)) (o2 : OpR X h (rS g fr f2))
    (k : ∀ m x y z, f m x y = .ok z → f1 m x y = .ok z ∨ f2 m x y = .ok z) : OpR X h (rS g fr f) :=
  OpR.imp (OpR.or o1 o2) fun x y H Q q => by
    obtain ⟨ι, m, a, b, z, hr, da, db, e, q⟩ := q
    rcases k m a b z e with e | e
    · exact .inl ⟨ι, m, a, b, z, hr, da, db, e, q⟩
    · exact .inr ⟨ι, m, a, b, z, hr, da, db, e, q⟩
section
variable {X : Cx} {g : Cfg}
theorem bin_S (hK : g.K = X.K) (op : Operator) : OpR X (binaryOp op) (rS g true fun m x y => binD m op x y) := rS_of (op_bin op) (by have := @bin_ok g op; rw [hK] at this; exact this)
theorem sh_of {d : PyData} (a : d.canLay0 = true) (b : d.depth ≤ 60) : SeqAt.shaped d = true := by
  unfold SeqAt.shaped
  rw [a, Bool.true_and]
  exact decide_eq_true (by omega)
theorem qb {g : Cfg} {H : Hp} {ι : Io} {m : List MO} {b : Bool} {Q : VK} {z : D} (r : Rel g H ι m) (h : ∀ w H' ι', Le H ι H' ι' → Rel g H' ι' m → Den g H' ι' z w → Nw false g (fun H1 ι1 => Le H ι H1 ι1 ∧ Rel g H1 ι1 m) H' ι' z w → Q w H') (e : z = .bl b) : Q (.bl b) H :=
  h _ _ _ (Le.refl _ _) r (by subst e; simp only [Den]) Nw.no
theorem qi {g : Cfg} {H : Hp} {ι : Io} {m : List MO} {b : Int} {Q : VK} {z : D} {fr : Bool} (r : Rel g H ι m) (h : ∀ w H' ι', Le H ι H' ι' → Rel g H' ι' m → Den g H' ι' z w → Nw fr g (fun H1 ι1 => Le H ι H1 ι1 ∧ Rel g H1 ι1 m) H' ι' z w → Q w H') (e : z = .int b) : Q (.int b) H :=
  h _ _ _ (Le.refl _ _) r (by subst e; simp only [Den]) (Nw.flat (by intro a; subst e; constructor <;> (intro z; cases z)))
theorem qs {g : Cfg} {H : Hp} {ι : Io} {m : List MO} {b : Str} {Q : VK} {z : D} {fr : Bool} (r : Rel g H ι m) (h : ∀ w H' ι', Le H ι H' ι' → Rel g H' ι' m → Den g H' ι' z w → Nw fr g (fun H1 ι1 => Le H ι H1 ι1 ∧ Rel g H1 ι1 m) H' ι' z w → Q w H') (e : z = .str b) : Q (.str b) H :=
  h _ _ _ (Le.refl _ _) r (by subst e; simp only [Den]) (Nw.flat (by intro a; subst e; constructor <;> (intro z; cases z)))
theorem opt_bl {o : Option Bool} {z : D} {f : Bool → Bool} (h : (do .ok (.bl (f (← opt o))) : Out D) = .ok z) : ∃ b, o = some b ∧ z = .bl (f b) := by
  cases o with
  | none => cases h
  | some b => cases h; exact ⟨b, rfl, rfl⟩
theorem rslv_str {m : List MO} {x : D} {a : Str} (h : rslv m x = .str a) : x = .str a := by
  cases x <;> simp only [rslv] at h <;> (try (first | exact h | cases h))
  split at h <;> cases h
theorem eqD_data {x y : D} {b : Bool} (h : eqD x y = some b) : (∃ s t, x = .str s ∧ y = .str t ∧ b = (s == t)) ∨ (okD 60 x = true ∧ okD 60 y = true ∧ b = eqB x y) := by
  unfold eqD at h
  split at h
  · simp only [Option.some.injEq] at h; exact .inl ⟨_, _, rfl, rfl, h.symm⟩
  · split at h
    · rename_i e
      simp only [Bool.and_eq_true] at e
      simp only [Option.some.injEq] at h
      exact .inr ⟨e.1, e.2, h.symm⟩
    · cases h
/-- == of data -/
def eqSd (m : List MO) (x y : D) : Out D := do .ok (.bl (← opt (eqD (rslv m x) (rslv m y))))
def neSd (m : List MO) (x y : D) : Out D := do .ok (.bl (!(← opt (eqD (rslv m x) (rslv m y)))))
theorem eq_Sd (hK : g.K = X.K) (hu : X.A.units + 64 < cLine) : OpR X (compareOp .Eq) (rS g false eqSd) :=
  rS_of (OpR.or op_eq (op_eqD hu)) fun H ι m x y v u z Q r dx dy e k => by
    obtain ⟨b, e, ez⟩ := opt_bl (f := fun b => b) e
    rcases eqD_data e with ⟨s, t, e1, e2, e3⟩ | ⟨o1, o2, e3⟩
    · rw [rslv_str e1] at dx
      rw [rslv_str e2] at dy
      simp only [Den] at dx dy
      subst dx dy
      refine .inl ⟨rfl, ?_⟩
      rw [dec_str, ← e3]
      exact qb r k ez
    · obtain ⟨p1, p2, p3⟩ := okD_top r o1 dx
      obtain ⟨q1, q2, q3⟩ := okD_top r o2 dy
      refine .inr ⟨_, _, hK ▸ p1, hK ▸ q1, sh_of p2 p3, sh_of q2 q3, ?_⟩
      rw [eqB_pd _ _ _ _ o1 o2, ← e3]
      exact qb r k ez
theorem ne_Sd (hK : g.K = X.K) (hu : X.A.units + 64 < cLine) : OpR X (compareOp .NotEq) (rS g false neSd) :=
  rS_of (OpR.or op_ne (op_neD hu)) fun H ι m x y v u z Q r dx dy e k => by
    obtain ⟨b, e, ez⟩ := opt_bl (f := fun b => !b) e
    rcases eqD_data e with ⟨s, t, e1, e2, e3⟩ | ⟨o1, o2, e3⟩
    · rw [rslv_str e1] at dx
      rw [rslv_str e2] at dy
      simp only [Den] at dx dy
      subst dx dy
      refine .inl ⟨rfl, ?_⟩
      rw [dec_str, ← e3]
      exact qb r k ez
    · obtain ⟨p1, p2, p3⟩ := okD_top r o1 dx
      obtain ⟨q1, q2, q3⟩ := okD_top r o2 dy
      refine .inr ⟨_, _, hK ▸ p1, hK ▸ q1, sh_of p2 p3, sh_of q2 q3, ?_⟩
      rw [eqB_pd _ _ _ _ o1 o2, ← e3]
      exact qb r k ez
theorem lx_eq : ∀ a b : List (Int ⊕ List Nat), PyProof.Rows.lexLt PyProof.Rows.itemOrd a b = lxLt a b
  | [], [] => rfl
  | [], _ :: _ => rfl
  | _ :: _, [] => rfl
  | x :: r, y :: t => by
    have e : ∀ x y : Int ⊕ List Nat, PyProof.Rows.itemOrd.blt x y = itLt x y := by
      intro x y
      cases x <;> cases y <;> rfl
    rw [PyProof.Rows.lex_cons, lx_eq r t, e, e]
    rfl
mutual
theorem toks_pd : ∀ d : D, PySem.W.keyToks (pd d) = toksD d
  | .non => by simp [pd, PySem.W.keyToks, toksD]
  | .bl b => by simp [pd, PySem.W.keyToks, toksD]
  | .int i => by simp [pd, PySem.W.keyToks, toksD]
  | .str s => by simp [pd, PySem.W.keyToks, toksD]
  | .dct _ => by simp [pd, PySem.W.keyToks, toksD]
  | .ins _ _ => by simp [pd, PySem.W.keyToks, toksD]
  | .ref _ => by simp [pd, PySem.W.keyToks, toksD]
  | .clo _ => by simp [pd, PySem.W.keyToks, toksD]
  | .cls _ => by simp [pd, PySem.W.keyToks, toksD]
  | .scr _ => by simp [pd, PySem.W.keyToks, toksD]
  | .tup xs => by simp only [pd, PySem.W.keyToks, toksD]; exact tokss_pd xs
  | .lst xs => by simp only [pd, PySem.W.keyToks, toksD]; exact tokss_pd xs
theorem tokss_pd : ∀ ds : List D, PySem.W.keyToksAll (pds ds) = toksDs ds
  | [] => by simp [pds, PySem.W.keyToksAll, toksDs]
  | x :: r => by simp only [pds, PySem.W.keyToksAll, toksDs]; rw [toks_pd x, tokss_pd r]
end
theorem ltG_pd (a b : D) : PySem.W.dataLt (pd a) (pd b) = ltG a b := by
  unfold PySem.W.dataLt ltG
  rw [lx_eq, toks_pd, toks_pd]
mutual
theorem alik_pd : ∀ a b : D, alikD a b = true → PySem.W.alike (pd a) (pd b) = true
  | .int _, b, h => by cases b <;> simp [alikD] at h ⊢ <;> simp [pd, PySem.W.alike]
  | .str _, b, h => by cases b <;> simp [alikD] at h ⊢ <;> simp [pd, PySem.W.alike]
  | .non, b, h => by cases b <;> simp [alikD] at h ⊢ <;> simp [pd, PySem.W.alike]
  | .tup xs, b, h => by
    cases b <;> simp [alikD] at h ⊢
    simp only [pd, PySem.W.alike]
    exact aliks_pd xs _ h
  | .lst xs, b, h => by
    cases b <;> simp [alikD] at h ⊢
    simp only [pd, PySem.W.alike]
    exact aliks_pd xs _ h
  | .bl _, b, h => by cases b <;> simp [alikD] at h
  | .dct _, b, h => by cases b <;> simp [alikD] at h
  | .ins _ _, b, h => by cases b <;> simp [alikD] at h
  | .ref _, b, h => by cases b <;> simp [alikD] at h
  | .clo _, b, h => by cases b <;> simp [alikD] at h
  | .cls _, b, h => by cases b <;> simp [alikD] at h
  | .scr _, b, h => by cases b <;> simp [alikD] at h
theorem aliks_pd : ∀ a b : List D, alikDs a b = true → PySem.W.alikeAll (pds a) (pds b) = true
  | [], b, h => by cases b <;> simp [pds, PySem.W.alikeAll]
  | x :: r, [], h => by simp [pds, PySem.W.alikeAll]
  | x :: r, y :: t, h => by
    simp only [alikDs, Bool.and_eq_true] at h
    simp only [pds, PySem.W.alikeAll, Bool.and_eq_true]
    exact ⟨alik_pd x y h.1, aliks_pd r t h.2⟩
end
/-- > of lists of data -/
def rGtL (K : PySem.W.Frag) : R2 := fun x y H Q => ∃ a b, Dp K H x (.list a) ∧ Dp K H y (.list b) ∧ PySem.W.alike (.list a) (.list b) = true ∧ (PyData.list a).depth ≤ 40 ∧ Q (.bl (PySem.W.dataLt (.list b) (.list a))) H
theorem op_gtL (hu : X.A.units + 65 < cLine) : OpR X (compareOp .Gt) (rGtL X.K) := by
  intro pins s σ H x y v u Q I rx ry h
  obtain ⟨a, b, hd, he, ha, hz, q⟩ := h
  obtain ⟨as, r1⟩ := Dp.reads I _ x v hd rx
  obtain ⟨bs, r2⟩ := Dp.reads I _ y u he ry
  refine PySem.W.rcGt_alike _ _ X.A s v u as bs r1 r2 ha (by intro z; cases z) ?_ _ _ _ _ ⟨.bl _, H, I, rfl, q⟩
  have := Nat.min_le_left (PyData.list a).depth (PyData.list b).depth
  omega
theorem ltS_cases {x y : D} {b : Bool} (h : ltS x y = some b) : (∃ i j, x = .int i ∧ y = .int j ∧ b = decide (i < j)) ∨ (∃ i j, x = .str i ∧ y = .str j ∧ b = decide (i.cps.toList < j.cps.toList)) := by
  unfold ltS at h
  split at h
  · simp only [Option.some.injEq] at h; exact .inl ⟨_, _, rfl, rfl, h.symm⟩
  · simp only [Option.some.injEq] at h; exact .inr ⟨_, _, rfl, rfl, h.symm⟩
  · cases h
theorem lt_S : OpR X (compareOp .Lt) (rS g false fun m x y => cmpD m .Lt x y) :=
  rS_of (OpR.or op_lt op_lt_str) fun H ι m x y v u z Q r dx dy e k => by
    obtain ⟨b, e, ez⟩ := opt_bl (f := fun b => b) (by simpa only [cmpD] using e)
    rcases ltS_cases e with ⟨i, j, rfl, rfl, e3⟩ | ⟨i, j, rfl, rfl, e3⟩ <;> simp only [Den] at dx dy <;> subst dx dy
    · exact .inl ⟨_, _, rfl, rfl, by show Q (.bl (decide _)) H; rw [← e3]; exact qb r k ez⟩
    · exact .inr ⟨_, _, rfl, rfl, e3 ▸ qb r k ez⟩
theorem gt_S (hK : g.K = X.K) (hu : X.A.units + 65 < cLine) : OpR X (compareOp .Gt) (rS g false fun m x y => cmpD m .Gt x y) :=
  rS_of (OpR.or (OpR.or op_gt op_gt_str) (op_gtL hu)) fun H ι m x y v u z Q r dx dy e k => by
    simp only [cmpD] at e
    split at e
    · rename_i b e1
      have ez : z = .bl b := by cases e; rfl
      have e := e1
      rcases ltS_cases e with ⟨i, j, rfl, rfl, e3⟩ | ⟨i, j, rfl, rfl, e3⟩ <;> simp only [Den] at dx dy <;> subst dx dy
      · exact .inl (.inl ⟨_, _, rfl, rfl, by show Q (.bl (decide _)) H; rw [← e3]; exact qb r k ez⟩)
      · exact .inl (.inr ⟨_, _, rfl, rfl, e3 ▸ qb r k ez⟩)
    · obtain ⟨b, e, ez⟩ := opt_bl (f := fun b => b) e
      right
      have key : ∃ xs ys, x = .lst xs ∧ y = .lst ys ∧ (okD 40 (.lst ys) && okD 40 (.lst xs) && alikD (.lst ys) (.lst xs)) = true ∧ b = ltG (.lst ys) (.lst xs) := by
        unfold ltL at e
        split at e
        · split at e
          · rename_i hc
            exact ⟨_, _, rfl, rfl, hc, (Option.some.inj e).symm⟩
          · cases e
        · cases e
      obtain ⟨xs, ys, rfl, rfl, hc, rfl⟩ := key
      simp only [Bool.and_eq_true] at hc
      obtain ⟨p1, p2, p3⟩ := okD_dp 40 _ v hc.1.2 dx
      obtain ⟨q1, q2, q3⟩ := okD_dp 40 _ u hc.1.1 dy
      refine ⟨pds xs, pds ys, hK ▸ p1, hK ▸ q1, ?_, p3, ?_⟩
      · have := PySem.W.alike_comm (pd (.lst ys)) (pd (.lst xs))
        exact this ▸ alik_pd _ _ hc.2
      · have h1 := ltG_pd (.lst ys) (.lst xs)
        show Q (.bl (PySem.W.dataLt (pd (.lst ys)) (pd (.lst xs)))) H
        rw [h1]
        exact qb r k ez
theorem le_S : OpR X (compareOp .LtE) (rS g false fun m x y => cmpD m .LtE x y) :=
  rS_of (OpR.or op_le op_le_str) fun H ι m x y v u z Q r dx dy e k => by
    obtain ⟨b, e, ez⟩ := opt_bl (f := fun b => !b) (by simpa only [cmpD] using e)
    rcases ltS_cases e with ⟨i, j, rfl, rfl, e3⟩ | ⟨i, j, rfl, rfl, e3⟩ <;> simp only [Den] at dx dy <;> subst dx dy
    · refine .inl ⟨_, _, rfl, rfl, ?_⟩
      have : (decide (j ≤ i)) = !b := by
        rw [e3]
        by_cases h : i < j
        · rw [decide_eq_true h, decide_eq_false (by omega)]; rfl
        · rw [decide_eq_false h, decide_eq_true (by omega)]; rfl
      show Q (.bl (decide (j ≤ i))) H
      rw [this]
      exact qb r k ez
    · exact .inr ⟨_, _, rfl, rfl, e3 ▸ qb r k ez⟩
theorem ge_S : OpR X (compareOp .GtE) (rS g false fun m x y => cmpD m .GtE x y) :=
  rS_of (OpR.or op_ge op_ge_str) fun H ι m x y v u z Q r dx dy e k => by
    obtain ⟨b, e, ez⟩ := opt_bl (f := fun b => !b) (by simpa only [cmpD] using e)
    rcases ltS_cases e with ⟨i, j, rfl, rfl, e3⟩ | ⟨i, j, rfl, rfl, e3⟩ <;> simp only [Den] at dx dy <;> subst dx dy
    · refine .inl ⟨_, _, rfl, rfl, ?_⟩
      have : (decide (j ≤ i)) = !b := by
        rw [e3]
        by_cases h : i < j
        · rw [decide_eq_true h, decide_eq_false (by omega)]; rfl
        · rw [decide_eq_false h, decide_eq_true (by omega)]; rfl
      show Q (.bl (decide (j ≤ i))) H
      rw [this]
      exact qb r k ez
    · exact .inr ⟨_, _, rfl, rfl, e3 ▸ qb r k ez⟩
theorem nonD_ok {H : Hp} {ι : Io} {m : List MO} {x : D} {v : V} {b : Bool} (r : Rel g H ι m) (dx : Den g H ι x v) (e : nonD m x = some b) : decide (v = .non) = b := by
  cases x with
  | ref k =>
    simp only [nonD] at e
    have key : ∀ mo, m[k]? = some mo → mo ≠ .dead → ∃ a, v = .ref a := fun mo h hd => by
      rcases r.at_ k mo h with ⟨z, _⟩ | ⟨a, q, _⟩
      · exact absurd z hd
      · simp only [Den] at dx
        exact ⟨a, dx.2 a q⟩
    split at e
    · rename_i xs h; obtain ⟨a, rfl⟩ := key _ h (by intro z; cases z); simp only [Option.some.injEq] at e; subst e; exact decide_eq_false (fun z => nomatch z)
    · rename_i xs h; obtain ⟨a, rfl⟩ := key _ h (by intro z; cases z); simp only [Option.some.injEq] at e; subst e; exact decide_eq_false (fun z => nomatch z)
    · rename_i c fs h; obtain ⟨a, rfl⟩ := key _ h (by intro z; cases z); simp only [Option.some.injEq] at e; subst e; exact decide_eq_false (fun z => nomatch z)
    · cases e
  | non => simp only [Den] at dx; subst dx; simp only [nonD, Option.some.injEq] at e; subst e; rfl
  | clo _ => simp only [nonD] at e; cases e
  | bl _ => simp only [Den] at dx; subst dx; simp only [nonD, Option.some.injEq] at e; subst e; exact decide_eq_false (fun z => nomatch z)
  | int _ => simp only [Den] at dx; subst dx; simp only [nonD, Option.some.injEq] at e; subst e; exact decide_eq_false (fun z => nomatch z)
  | str _ => simp only [Den] at dx; subst dx; simp only [nonD, Option.some.injEq] at e; subst e; exact decide_eq_false (fun z => nomatch z)
  | cls _ => simp only [Den] at dx; subst dx; simp only [nonD, Option.some.injEq] at e; subst e; exact decide_eq_false (fun z => nomatch z)
  | tup _ => simp only [Den] at dx; obtain ⟨a, _, rfl, _⟩ := dx; simp only [nonD, Option.some.injEq] at e; subst e; exact decide_eq_false (fun z => nomatch z)
  | lst _ => simp only [Den] at dx; obtain ⟨a, _, rfl, _⟩ := dx; simp only [nonD, Option.some.injEq] at e; subst e; exact decide_eq_false (fun z => nomatch z)
  | dct _ => simp only [Den] at dx; obtain ⟨a, rfl, _⟩ := dx; simp only [nonD, Option.some.injEq] at e; subst e; exact decide_eq_false (fun z => nomatch z)
  | ins _ _ => simp only [Den] at dx; obtain ⟨a, _, _, _, rfl, _⟩ := dx; simp only [nonD, Option.some.injEq] at e; subst e; exact decide_eq_false (fun z => nomatch z)
  | scr _ => simp only [Den] at dx; obtain ⟨a, rfl, _⟩ := dx; simp only [nonD, Option.some.injEq] at e; subst e; exact decide_eq_false (fun z => nomatch z)
theorem is_S : OpR X (compareOp .Is) (rS g false fun m x y => cmpD m .Is x y) :=
  rS_of (OpR.or op_isN op_isBl) fun H ι m x y v u z Q r dx dy e k => by
    simp only [cmpD] at e
    split at e
    · obtain ⟨b, e, ez⟩ := opt_bl (f := fun b => b) e
      simp only [Den] at dy
      subst dy
      exact .inl ⟨rfl, by rw [nonD_ok r dx e]; exact qb r k ez⟩
    · split at e
      · cases e
        simp only [Den] at dx dy
        subst dx dy
        exact .inr ⟨_, _, rfl, rfl, qb r k rfl⟩
      · cases e
    · cases e
theorem isnot_S : OpR X (compareOp .IsNot) (rS g false fun m x y => cmpD m .IsNot x y) :=
  rS_of (OpR.or op_notN op_notBl) fun H ι m x y v u z Q r dx dy e k => by
    simp only [cmpD] at e
    split at e
    · obtain ⟨b, e, ez⟩ := opt_bl (f := fun b => !b) e
      simp only [Den] at dy
      subst dy
      exact .inl ⟨rfl, by rw [nonD_ok r dx e]; exact qb r k ez⟩
    · split at e
      · cases e
        simp only [Den] at dx dy
        subst dx dy
        exact .inr ⟨_, _, rfl, rfl, qb r k rfl⟩
      · cases e
    · cases e
end
end SV
namespace SV
open PySem PySem.Spec PyProof.Rows L2
mutual
theorem eqB_comm : ∀ (x y : D), eqB x y = eqB y x
  | .non, y => by cases y <;> rfl
  | .bl a, y => by cases y <;> simp [eqB, Bool.beq_comm]
  | .int a, y => by cases y <;> simp [eqB, BEq.comm]
  | .str a, y => by cases y <;> simp [eqB, BEq.comm]
  | .tup a, y => by cases y <;> simp [eqB]; exact eqBs_comm _ _
  | .lst a, y => by cases y <;> simp [eqB]; exact eqBs_comm _ _
  | .dct a, y => by cases y <;> simp [eqB]
  | .ins c a, y => by cases y <;> simp [eqB]
  | .ref a, y => by cases y <;> simp [eqB]
  | .clo a, y => by cases y <;> simp [eqB]
  | .cls a, y => by cases y <;> simp [eqB]
  | .scr a, y => by cases y <;> simp [eqB]
theorem eqBs_comm : ∀ (x y : List D), eqBs x y = eqBs y x
  | [], y => by cases y <;> simp [eqBs]
  | a :: x, y => by
    cases y with
    | nil => simp [eqBs]
    | cons b t => simp only [eqBs]; rw [eqB_comm a b, eqBs_comm x t]
end
theorem eqB_any (x : D) (hx : okD 60 x = true) : ∀ ys : List D, ys.all (okD 60) = true → ((pds ys).any fun y => PyData.eqv y (pd x)) = ys.any fun y => eqB y x
  | [], _ => rfl
  | y :: r, h => by
    simp only [List.all_cons, Bool.and_eq_true] at h
    simp only [pds, List.any_cons]
    rw [eqB_pd _ _ _ _ h.1 hx, eqB_any x hx r h.2]
section
variable {X : Cx} {g : Cfg}
/-- x in a list or tuple of data: by data -/
def rInS (K : PySem.W.Frag) (neg : Bool) : R2 := fun x y H Q => ∃ d ds, Dp K H x d ∧ (Dp K H y (.list ds) ∨ Dp K H y (.tuple ds)) ∧ d.canLay0 = true ∧ d.depth ≤ 60 ∧ PyData.canLayAll0 ds = true ∧
  Q (.bl (if neg then !(ds.any fun z => PyData.eqv z d) else ds.any fun z => PyData.eqv z d)) H
theorem op_inSq (hu : X.A.units + 65 < cLine) : OpR X (compareOp .In) (rInS X.K false) := by
  intro pins s σ H x y v u Q I rx ry h
  obtain ⟨d, ds, hd, he, c1, c2, c3, q⟩ := h
  obtain ⟨as, r1⟩ := Dp.reads I d x v hd rx
  have hr : X.A.units + 1 + min (PyData.depthAll ds) d.depth < cLine := by
    have : min (PyData.depthAll ds) d.depth ≤ 60 := Nat.le_trans (Nat.min_le_right _ _) c2
    omega
  rcases he with he | he
  · obtain ⟨bs, r2⟩ := Dp.reads I (.list ds) y u he ry
    exact SeqAt.in_list_reads r2 r1 c3 c1 hr ⟨.bl _, H, I, rfl, q⟩
  · obtain ⟨bs, r2⟩ := Dp.reads I (.tuple ds) y u he ry
    exact SeqAt.in_tuple_reads r2 r1 c3 c1 hr ⟨.bl _, H, I, rfl, q⟩
theorem op_notInSq (hu : X.A.units + 65 < cLine) : OpR X (compareOp .NotIn) (rInS X.K true) := by
  intro pins s σ H x y v u Q I rx ry h
  obtain ⟨d, ds, hd, he, c1, c2, c3, q⟩ := h
  obtain ⟨as, r1⟩ := Dp.reads I d x v hd rx
  have hr : X.A.units + 1 + min (PyData.depthAll ds) d.depth < cLine := by
    have : min (PyData.depthAll ds) d.depth ≤ 60 := Nat.le_trans (Nat.min_le_right _ _) c2
    omega
  rcases he with he | he
  · obtain ⟨bs, r2⟩ := Dp.reads I (.list ds) y u he ry
    exact SeqAt.notIn_list_reads r2 r1 c3 c1 hr ⟨.bl _, H, I, rfl, q⟩
  · obtain ⟨bs, r2⟩ := Dp.reads I (.tuple ds) y u he ry
    exact SeqAt.notIn_tuple_reads r2 r1 c3 c1 hr ⟨.bl _, H, I, rfl, q⟩
def inSq (m : List MO) (x y : D) : Out D := do .ok (.bl (← opt (inD (rslv m x) (← opt (seqOf m y)))))
def notInSq (m : List MO) (x y : D) : Out D := do .ok (.bl (!(← opt (inD (rslv m x) (← opt (seqOf m y))))))
def inSg (_ : List MO) (x y : D) : Out D := match x, y with
  | .str a, .str b => do gd (decide (a.length = 1)); .ok (.bl (match a.cps.toList with | [c] => b.cps.toList.contains c | _ => false))
  | _, _ => .bad
theorem inD_some {x : D} {ys : List D} {b : Bool} (h : inD x ys = some b) : okD 60 x = true ∧ ys.all (okD 60) = true ∧ b = ys.any fun y => eqB y x := by
  unfold inD at h
  split at h
  · rename_i e
    simp only [Bool.and_eq_true] at e
    simp only [Option.some.injEq] at h
    exact ⟨e.1, e.2, h.symm⟩
  · cases h
theorem in_data {H : Hp} {ι : Io} {m : List MO} {x y : D} {v u : V} {ys : List D} {b : Bool} (r : Rel g H ι m) (dx : Den g H ι x v) (dy : Den g H ι y u) (e1 : seqOf m y = some ys) (e : inD (rslv m x) ys = some b) :
    ∃ d ds, Dp g.K H v d ∧ (Dp g.K H u (.list ds) ∨ Dp g.K H u (.tuple ds)) ∧ d.canLay0 = true ∧ d.depth ≤ 60 ∧ PyData.canLayAll0 ds = true ∧ (ds.any fun z => PyData.eqv z d) = b := by
  obtain ⟨o1, o2, e3⟩ := inD_some e
  obtain ⟨p1, p2, p3⟩ := okD_top r o1 dx
  obtain ⟨a, vs, rfl, ha, dn⟩ := dy.seq r e1
  obtain ⟨b1, b2, b3⟩ := okD_dps 60 _ vs o2 dn
  refine ⟨_, _, p1, ?_, p2, p3, b2, by rw [eqB_any _ o1 _ o2, e3]⟩
  rcases ha with ha | ha
  · exact .inl (.lst (SqL.of ha) b1)
  · exact .inr (.tup (SqT.of ha) b1)
theorem in_Sq (hK : g.K = X.K) (hu : X.A.units + 65 < cLine) : OpR X (compareOp .In) (rS g false inSq) :=
  rS_of (op_inSq hu) fun H ι m x y v u z Q r dx dy e k => by
    simp only [inSq] at e
    obtain ⟨ys, e1, e⟩ := opt_ok e
    obtain ⟨b, e, ez⟩ := opt_bl (f := fun b => b) e
    obtain ⟨d, ds, h1, h2, h3, h4, h5, h6⟩ := in_data r dx dy e1 e
    rw [hK] at h1 h2
    exact ⟨d, ds, h1, h2, h3, h4, h5, by rw [h6]; exact qb r k ez⟩
theorem notIn_Sq (hK : g.K = X.K) (hu : X.A.units + 65 < cLine) : OpR X (compareOp .NotIn) (rS g false notInSq) :=
  rS_of (op_notInSq hu) fun H ι m x y v u z Q r dx dy e k => by
    simp only [notInSq] at e
    obtain ⟨ys, e1, e⟩ := opt_ok e
    obtain ⟨b, e, ez⟩ := opt_bl (f := fun b => !b) e
    obtain ⟨d, ds, h1, h2, h3, h4, h5, h6⟩ := in_data r dx dy e1 e
    rw [hK] at h1 h2
    exact ⟨d, ds, h1, h2, h3, h4, h5, by rw [h6]; exact qb r k ez⟩
theorem in_Sg : OpR X (compareOp .In) (rS g false inSg) :=
  rS_of op_in_sign fun H ι m x y v u z Q r dx dy e k => by
    unfold inSg at e
    split at e
    · rename_i a b
      obtain ⟨h, e⟩ := gd_ok e
      have hl := of_decide_eq_true h
      simp only [Den] at dx dy
      subst dx dy
      have : ∃ c, a = ⟨#[c]⟩ := by
        obtain ⟨⟨l⟩⟩ := a
        have hl : l.length = 1 := hl
        match l, hl with
        | [c], _ => exact ⟨c, rfl⟩
      obtain ⟨c, rfl⟩ := this
      refine ⟨c, b, rfl, rfl, qb r k ?_⟩
      simp only [Out.ok.injEq] at e
      rw [← e]
      congr 1
      rw [List.contains_eq_mem]
    · cases e
def eqSx (m : List MO) (x y : D) : Out D := match rslv m x, rslv m y with
  | .tup a, .tup b => if a = [] ∨ b = [] then .ok (.bl (decide (a = [] ∧ b = []))) else .bad
  | .lst a, .lst b => if a.length ≠ b.length then .ok (.bl false) else .bad
  | _, _ => .bad
def rSx (K : PySem.W.Frag) : R2 := fun x y H Q => ∃ a b xs ys, x = .ref a ∧ y = .ref b ∧ ((SqT K H a xs ∧ SqT K H b ys ∧ (xs = [] ∨ ys = []) ∧ Q (.bl (decide (xs = [] ∧ ys = []))) H) ∨ (SqL K H a xs ∧ SqL K H b ys ∧ xs.length ≠ ys.length ∧ Q (.bl false) H))
theorem op_eqSx (hu : X.A.units < cLine) : OpR X (compareOp .Eq) (rSx X.K) := by
  intro pins s σ H x y v u Q I rx ry h
  obtain ⟨a, b, xs, ys, rfl, rfl, h⟩ := h
  cases rx
  cases ry
  rcases h with ⟨ha, hb, he, q⟩ | ⟨ha, hb, he, q⟩
  · obtain ⟨its, r1, p1, _⟩ := I.tuple ha
    obtain ⟨its2, r2, p2, _⟩ := I.tuple hb
    have l1 := r1.length
    have l2 := r2.length
    refine SeqAt.eq_tupleAt (e := fun _ => true) p1 p2 hu (fun j h1 h2 => ?_) ?_
    · rcases he with rfl | rfl
      · simp only [List.length_nil] at l1
        rw [List.size_toArray] at h1
        omega
      · simp only [List.length_nil] at l2
        rw [List.size_toArray] at h2
        omega
    · refine ⟨.bl _, H, I, rfl, ?_⟩
      have : ((List.range (min its.toArray.size its2.toArray.size)).all (fun _ => true) && its.toArray.size == its2.toArray.size) = decide (xs = [] ∧ ys = []) := by
        rw [List.size_toArray, List.size_toArray, ← l1, ← l2]
        rcases he with rfl | rfl
        · cases ys with
          | nil => rfl
          | cons _ _ => simp
        · cases xs with
          | nil => rfl
          | cons _ _ => simp
      rw [this]
      exact q
  · obtain ⟨its, r1, p1, _⟩ := I.list ha
    obtain ⟨its2, r2, p2, _⟩ := I.list hb
    have l1 := r1.length
    have l2 := r2.length
    obtain ⟨o1, n1, g1, c1, _, d1⟩ := p1
    obtain ⟨o2, n2, g2, c2, _, d2⟩ := p2
    exact SeqAt.eq_list_lengthsAt ⟨o1, g1, c1, n1, d1⟩ ⟨o2, g2, c2, n2, d2⟩ (by simp only [List.size_toArray, bne_iff_ne, ne_eq]; omega) hu ⟨.bl _, H, I, rfl, q⟩
theorem eq_Sx (hK : g.K = X.K) (hu : X.A.units < cLine) : OpR X (compareOp .Eq) (rS g false eqSx) :=
  rS_of (op_eqSx hu) fun H ι m x y v u z Q r dx dy e k => by
    unfold eqSx at e
    split at e
    · rename_i a b e1 e2
      split at e
      · rename_i he
        cases e
        have h1 : x = .tup a := by
          cases x <;> simp only [rslv] at e1 <;> (try (first | exact e1 | cases e1))
          split at e1 <;> cases e1
        have h2 : y = .tup b := by
          cases y <;> simp only [rslv] at e2 <;> (try (first | exact e2 | cases e2))
          split at e2 <;> cases e2
        subst h1 h2
        obtain ⟨p, vs, rfl, ha, da⟩ := dx.tuple
        obtain ⟨q, ws, rfl, hb, db⟩ := dy.tuple
        have l1 := da.length
        have l2 := db.length
        have n1 : vs = [] ↔ a = [] := by rw [← List.length_eq_zero_iff, ← l1, List.length_eq_zero_iff]
        have n2 : ws = [] ↔ b = [] := by rw [← List.length_eq_zero_iff, ← l2, List.length_eq_zero_iff]
        refine ⟨p, q, vs, ws, rfl, rfl, .inl ⟨SqT.of ha, SqT.of hb, by rw [n1, n2]; exact he, ?_⟩⟩
        have : decide (vs = [] ∧ ws = []) = decide (a = [] ∧ b = []) := by rw [decide_eq_decide, n1, n2]
        rw [this]
        exact qb r k rfl
      · cases e
    · rename_i a b e1 e2
      split at e
      · rename_i he
        cases e
        obtain ⟨p, vs, rfl, ha, da⟩ := dx.list r e1
        obtain ⟨q, ws, rfl, hb, db⟩ := dy.list r e2
        have l1 := da.length
        have l2 := db.length
        exact ⟨p, q, vs, ws, rfl, rfl, .inr ⟨SqL.of ha, SqL.of hb, by omega, qb r k rfl⟩⟩
      · cases e
    · cases e
end
end SV
set_option linter.all false
set_option Elab.async false
set_option maxRecDepth 100000
set_option maxHeartbeats 4000000
namespace SV
open PySem PySem.Spec PyProof.Rows L2
theorem ixIn_get {x : Str} : ∀ {N : List Str} {i : Nat}, ixIn x N = some i → N[i]? = some x
  | [], i, h => by simp [ixIn] at h
  | y :: r, i, h => by
    simp only [ixIn] at h
    split at h
    · rename_i e
      cases h
      simp [e]
    · cases q : ixIn x r with
      | none => rw [q] at h; cases h
      | some j =>
        rw [q] at h
        cases h
        simpa using ixIn_get q
structure Gd (X : Cx) (g : Cfg) (c : Tc) : Prop where
  P : g.P = X.prog
  ww : g.w = X.w
  K : g.K = X.K
  N : X.N = c.N
  nd : X.N.Nodup
  sc : X.env.scope = c.sc
  un : X.A.units + 66 < cLine
section
variable {X : Cx} {g : Cfg} {c : Tc} {W : WX} {w : SV.W} {x : Str} {i : Nat}
theorem okN_d (h : okN x = true) : (x == ("__debug__" : Str)) = false ∧ (x == ("__classdict__" : Str)) = false ∧ x ≠ "__name__" := by
  simp only [okN, Bool.and_eq_true, Bool.not_eq_true'] at h
  exact ⟨h.1.1, h.1.2, fun e => by rw [e] at h; simp at h⟩
theorem slot_ok (G : Gd X g c) (h : slotOf c x = some i) : X.N[i]? = some x ∧ Vis X.env.scope x ∧ okN x = true := by
  unfold slotOf at h
  split at h
  · rename_i ho
    rw [G.N, G.sc]
    split at h
    · rename_i e; exact ⟨ixIn_get h, .inl e, ho⟩
    · rename_i e; exact ⟨ixIn_get h, .inr (.inl e), ho⟩
    · rename_i e; exact ⟨ixIn_get h, .inr (.inr e), ho⟩
    · cases h
  · cases h
theorem glob_ok (G : Gd X g c) (h : isGlob c x = true) : Gl X x ∧ okN x = true := by
  simp only [isGlob, Bool.and_eq_true, beq_iff_eq] at h
  refine ⟨?_, h.1⟩
  show X.env.scope.names.lookup x = _
  rw [G.sc]
  exact h.2
theorem tD.of {fr : Bool} {f : S → Out (D × S)} {σ : L2.St} {H : Hp} {Q : VK} (q : tD g W fr f σ H Q) : ∃ ι s, SR g H ι σ s ∧ OutP (f s) (fun p => ∀ v H' ι', Le H ι H' ι' → SR g H' ι' σ p.2 → Den g H' ι' p.1 v → Nw fr g (fun H1 ι1 => Le H ι H1 ι1 ∧ SR g H1 ι1 σ p.2) H' ι' p.1 v → Q v H') (XC g W H ι σ) := q
theorem tD.fr {fr fra : Bool} {f : S → Out (D × S)} {σ : L2.St} {H : Hp} {Q : VK} (k : fr = true → fra = true) (q : tD g W fr f σ H Q) : tD g W fra f σ H Q := by
  obtain ⟨ι, s, r, o⟩ := q
  exact ⟨ι, s, r, o.mono (fun p hp v H' ι' l sr dn n => hp v H' ι' l sr dn fun e => n (k e)) fun _ _ _ h => h⟩
theorem PE.fr {e : Expr} {fr fra : Bool} {f : S → Out (D × S)} (k : fr = true → fra = true) (h : PE X e (tD g W fra f)) : PE X e (tD g W fr f) := PE.imp h fun _ _ _ q => tD.fr k q
/-- a value without more ado -/
theorem tD.val {fr : Bool} {f : S → Out (D × S)} {σ : L2.St} {H : Hp} {Q : VK} (q : tD g W fr f σ H Q) (h : ∀ ι s, SR g H ι σ s → ∀ P E, OutP (f s) P E → ∃ d, P (d, s) ∧ ∃ v, Den g H ι d v ∧ (∀ xs, d ≠ .lst xs ∧ d ≠ .dct xs ∨ fr = false)) : ∃ ι s d v, SR g H ι σ s ∧ Den g H ι d v ∧ Q v H := by
  obtain ⟨ι, s, r, o⟩ := q
  obtain ⟨d, p, v, dn, nf⟩ := h ι s r _ _ o
  refine ⟨ι, s, d, v, r, dn, p v H ι (Le.refl _ _) r dn fun e => ⟨fun xs q => ?_, fun xs q => ?_⟩⟩
  · rcases nf xs with z | z
    · exact absurd q z.1
    · rw [z] at e; cases e
  · rcases nf xs with z | z
    · exact absurd q z.2
    · rw [z] at e; cases e
theorem ev_var {pos : Pos} (G : Gd X g c) (h : slotOf c x = some i) : PE X (.Name x pos) (tD g W false (evE w (.var i))) := by
  obtain ⟨h1, h2, h3⟩ := slot_ok G h
  obtain ⟨h4, h5, _⟩ := okN_d h3
  refine PE.imp (pe_var h1 h2 h4 h5) fun σ H Q q => ?_
  obtain ⟨ι, s, r, o⟩ := q
  simp only [evE] at o
  split at o
  · rename_i d e
    obtain ⟨v, hv, dn⟩ := r.1.2 i d e
    exact ⟨v, hv, o v H ι (Le.refl _ _) r dn Nw.no⟩
  · exact o.elim
theorem cst_imp {fr : Bool} {d : D} {v : V} (hd : ∀ H ι, Den g H ι d v) (hn : ∀ xs, d ≠ .lst xs ∧ d ≠ .dct xs) {σ : L2.St} {H : Hp} {Q : VK} (q : tD g W fr (evE w (.cst d)) σ H Q) : tC v σ H Q := by
  obtain ⟨ι, s, r, o⟩ := q
  simp only [evE] at o
  exact o v H ι (Le.refl _ _) r (hd _ _) (Nw.flat hn)
theorem nol {d : D} (h1 : ∀ xs, d ≠ .lst xs) (h2 : ∀ xs, d ≠ .dct xs) : ∀ xs, d ≠ .lst xs ∧ d ≠ .dct xs := fun xs => ⟨h1 xs, h2 xs⟩
theorem ev_cint {n : Int} {j pos} {fr : Bool} : PE X (.Constant (.int n) j pos) (tD g W fr (evE w (.cst (.int n)))) := PE.imp pe_int fun _ _ _ q => cst_imp (fun _ _ => by simp only [Den]) (nol (fun _ z => by cases z) fun _ z => by cases z) q
theorem ev_cbl {n : Bool} {j pos} {fr : Bool} : PE X (.Constant (.bool n) j pos) (tD g W fr (evE w (.cst (.bl n)))) := PE.imp pe_bl fun _ _ _ q => cst_imp (fun _ _ => by simp only [Den]) (nol (fun _ z => by cases z) fun _ z => by cases z) q
theorem ev_cnon {j pos} {fr : Bool} : PE X (.Constant .none j pos) (tD g W fr (evE w (.cst .non))) := PE.imp pe_non fun _ _ _ q => cst_imp (fun _ _ => by simp only [Den]) (nol (fun _ z => by cases z) fun _ z => by cases z) q
theorem ev_cstr {n : Str} {j pos} {fr : Bool} : PE X (.Constant (.str n) j pos) (tD g W fr (evE w (.cst (.str n)))) := PE.imp pe_str fun _ _ _ q => cst_imp (fun _ _ => by simp only [Den]) (nol (fun _ z => by cases z) fun _ z => by cases z) q
theorem OutP.asBool {d : D} {P : Bool → Prop} {E : Nat → D → S → Prop} (h : OutP (asBool d) P E) : ∃ b, d = .bl b ∧ P b := by
  cases d <;> first | exact h.elim | exact ⟨_, rfl, h⟩
theorem OutP.bnd {α β : Type} {o : Out α} {f : α → Out β} {P : β → Prop} {E : Nat → D → S → Prop} (h : OutP (o >>= f) P E) : OutP o (fun a => OutP (f a) P E) E := OutP.bind.mp h
theorem tB_imp {fr : Bool} {f : S → Out (D × S)} {σ : L2.St} {H : Hp} {Q : Bool → Hp → Prop} (q : tDb g W (bE f) σ H Q) : tB (tD g W fr f) σ H Q := by
  obtain ⟨ι, s, r, o⟩ := q
  refine tD.then r (OutP.bnd o) (fun _ _ _ h => h) fun d s' v H' ι' p l sr dn _ => ?_
  obtain ⟨b, rfl, p⟩ := OutP.asBool (OutP.bnd p)
  simp only [Den] at dn
  exact ⟨b, dn, p H' ι' l sr⟩
theorem pt_of {e : Expr} {fr : Bool} {f : S → Out (D × S)} (h : PE X e (tD g W fr f)) (he : ∀ whole, isTrue e X.env whole = (do let v ← whole; standAt e.pos; holding [v] (truthy v)) := by intro _; rfl) : PT X e (tDb g W (bE f)) := PT.imp (pt_val h he) fun _ _ _ q => tB_imp q
variable {a b d : Expr} {a' b' d' : Ex} {pos : Pos} {fra frb frd fr : Bool}
theorem ev_bin {op : Operator} (G : Gd X g c) (hop : op ≠ .RShift) (ha : PE X a (tD g W fra (evE w a'))) (hb : PE X b (tD g W frb (evE w b'))) : PE X (.BinOp a op b pos) (tD g W true (evE w (.bin op a' b'))) := by
  refine PE.imp (pe_op (bin_S G.K op) ha hb) fun σ H Q q => tOp_D op2_rS (fun m x y => bin_calm op m x y) ?_
  simp only [evE, binF, if_neg hop] at q
  exact q
theorem cmp_calm (op : CmpOp) : Calm2 (fun m x y => cmpD m op x y) := by
  intro m x y c d s
  have hb : ∀ (o : Option Bool) (f : Bool → Bool), (do .ok (.bl (f (← opt o))) : Out D) ≠ .exc c d s := fun o f => calm_bind (fun _ _ _ _ z => by cases z) c d s
  cases op <;> simp only [cmpD]
  · split
    · intro z; cases z
    · split
      · intro z; cases z
      · exact hb _ (fun b => b)
  · split
    · intro z; cases z
    · exact hb _ (fun b => !b)
  · exact hb _ (fun b => b)
  · exact hb _ (fun b => !b)
  · split
    · intro z; cases z
    · exact hb _ (fun b => b)
  · exact hb _ (fun b => !b)
  · split
    · exact hb _ (fun b => b)
    · split
      · intro z; cases z
      · intro z; cases z
    · intro z; cases z
  · split
    · exact hb _ (fun b => !b)
    · split
      · intro z; cases z
      · intro z; cases z
    · intro z; cases z
  · split
    · exact calm_gd (fun _ _ _ z => by cases z) c d s
    · split
      · exact calm_gd (fun _ _ _ z => by cases z) c d s
      · exact calm_bind (fun _ => calm_bind fun _ _ _ _ z => by cases z) c d s
  · split
    · exact calm_gd (fun _ _ _ z => by cases z) c d s
    · exact calm_bind (fun _ => calm_bind fun _ _ _ _ z => by cases z) c d s
end
end SV
namespace SV
open PySem PySem.Spec PyProof.Rows L2
section
variable {X : Cx} {g : Cfg} {c : Tc} {W : WX} {w : SV.W} {x : Str} {i : Nat} {pins : List (Addr × Obj)} {s : Shared} {σ : L2.St} {H : Hp} {ι : Io} {st : S}
/-- an expression is run, then the rest -/
theorem runD {e : Expr} {fr : Bool} {f : S → Out (D × S)} {P : D × S → Prop} {E : Nat → D → S → Prop} {R : Value → Shared → Prop} (h : PE X e (tD g W fr f)) (I : Inv X pins σ H s) (sr : SR g H ι σ st) (o : OutP (f st) P E) (hE : ∀ c d s, E c d s → XC g W H ι σ c d s)
    (k : ∀ v u s' H' ι' d st', Inv X pins σ H' s' → RelV v u → Le H ι H' ι' → SR g H' ι' σ st' → Den g H' ι' d v → P (d, st') → R u s') : wpAny (model X.prog X.w) X.A (eval e X.env) R X.xe s := by
  refine thn (h.run pins s σ H (fun v H' => ∃ ι' d st', Le H ι H' ι' ∧ SR g H' ι' σ st' ∧ Den g H' ι' d v ∧ P (d, st')) I ⟨ι, st, sr, o.mono (fun p hp v H' ι' l r dn _ => ⟨ι', p.1, p.2, l, r, dn, hp⟩) hE⟩) ?_
  rintro u s' ⟨v, H', I', rv, ι', d, st', l, r, dn, p⟩
  exact k v u s' H' ι' d st' I' rv l r dn p
theorem runDs {es : List Expr} {pos : Pos} {f : S → Out (List D × S)} {P : List D × S → Prop} {E : Nat → D → S → Prop} {R : List Value → Shared → Prop} (h : PA X es (tDs g W f)) (I : Inv X pins σ H s) (sr : SR g H ι σ st) (o : OutP (f st) P E) (hE : ∀ c d s, E c d s → XC g W H ι σ c d s)
    (k : ∀ vs us s' H' ι' ds st', Inv X pins σ H' s' → Vals vs us → Le H ι H' ι' → SR g H' ι' σ st' → DenL g H' ι' ds vs → P (ds, st') → R us s') : wpAny (model X.prog X.w) X.A (spliced (backTo pos (starEach es X.env))) R X.xe s := by
  refine thn (h.run pos pins s σ H (fun vs H' => ∃ ι' ds st', Le H ι H' ι' ∧ SR g H' ι' σ st' ∧ DenL g H' ι' ds vs ∧ P (ds, st')) I ⟨ι, st, sr, o.mono (fun p hp v H' ι' l r dn => ⟨ι', p.1, p.2, l, r, dn, hp⟩) hE⟩) ?_
  rintro u s' ⟨v, H', I', rv, ι', d, st', l, r, dn, p⟩
  exact k v u s' H' ι' d st' I' rv l r dn p
/-- a two-place operation that may ask the store and may raise -/
def OpX (X : Cx) (g : Cfg) (W : WX) (fr : Bool) (h : Value → Value → Sem Value) (f : D → D → S → Out (D × S)) : Prop :=
  ∀ (pins : List (Addr × Obj)) (s : Shared) (σ : L2.St) (H : Hp) (ι : Io) (x y : D) (v u : V) (vv uu : Value) (st : S) (Q : VK), Inv X pins σ H s → SR g H ι σ st → Den g H ι x v → Den g H ι y u → RelV v vv → RelV u uu →
    OutP (f x y st) (fun p => ∀ v H' ι', Le H ι H' ι' → SR g H' ι' σ p.2 → Den g H' ι' p.1 v → Nw fr g (fun H1 ι1 => Le H ι H1 ι1 ∧ SR g H1 ι1 σ p.2) H' ι' p.1 v → Q v H') (XC g W H ι σ) →
    wpAny (model X.prog X.w) X.A (h vv uu) (EP X pins σ Q) X.xe s
/-- of one value -/
def UnX (X : Cx) (g : Cfg) (W : WX) (h : Value → Sem Value) (f : D → S → Out (D × S)) : Prop :=
  ∀ (pins : List (Addr × Obj)) (s : Shared) (σ : L2.St) (H : Hp) (ι : Io) (x : D) (v : V) (vv : Value) (st : S) (Q : VK), Inv X pins σ H s → SR g H ι σ st → Den g H ι x v → RelV v vv →
    OutP (f x st) (fun p => ∀ v H' ι', Le H ι H' ι' → SR g H' ι' σ p.2 → Den g H' ι' p.1 v → Q v H') (XC g W H ι σ) →
    wpAny (model X.prog X.w) X.A (h vv) (EP X pins σ Q) X.xe s
/-- of a list of values -/
def CaX (X : Cx) (g : Cfg) (W : WX) (fr : Bool) (h : List Value → Sem Value) (f : List D → S → Out (D × S)) : Prop :=
  ∀ (pins : List (Addr × Obj)) (s : Shared) (σ : L2.St) (H : Hp) (ι : Io) (xs : List D) (vs : List V) (us : List Value) (st : S) (Q : VK), Inv X pins σ H s → SR g H ι σ st → DenL g H ι xs vs → Vals vs us →
    OutP (f xs st) (fun p => ∀ v H' ι', Le H ι H' ι' → SR g H' ι' σ p.2 → Den g H' ι' p.1 v → Nw fr g (fun H1 ι1 => Le H ι H1 ι1 ∧ SR g H1 ι1 σ p.2) H' ι' p.1 v → Q v H') (XC g W H ι σ) →
    wpAny (model X.prog X.w) X.A (h us) (EP X pins σ Q) X.xe s
/-- by values alone -/
def calmF (f : List MO → D → D → Out D) : D → D → S → Out (D × S) := fun x y s => do
  let z ← f s.m x y
  .ok (z, s)
theorem opX_of {fr : Bool} {h : Value → Value → Sem Value} {f : List MO → D → D → Out D} (o : OpR X h (rS g fr f)) (hc : Calm2 f) : OpX X g W fr h (calmF f) := by
  intro pins s σ H ι x y v u vv uu st Q I sr dx dy rx ry q
  have q := OutP.bnd q
  cases e : f st.m x y with
  | bad => rw [e] at q; exact q.elim
  | exc c d t => exact absurd e (hc _ _ _ _ _ _)
  | ok z =>
    rw [e] at q
    exact o pins s σ H v u vv uu Q I rx ry ⟨ι, st.m, x, y, z, sr.2, dx, dy, e, fun w H' ι' l r dn n => q w H' ι' l (sr.le l r) dn (n.imp fun H1 ι1 z => ⟨z.1, sr.le z.1 z.2⟩)⟩
/-- what is wanted behind a sub-expression, carried on -/
theorem OutP.carry {α : Type} {H' : Hp} {ι' : Io} {o : Out α} {P : α → Prop} {P' : α → Prop} (l : Le H ι H' ι') (h : OutP o P (XC g W H ι σ)) (k : ∀ a, P a → P' a) : OutP o P' (XC g W H' ι' σ) := h.mono k fun _ _ _ z => z.mono l
variable {a b d : Expr} {a' b' d' : Ex} {pos : Pos} {fra frb frd fr : Bool} {fa fb fd : S → Out (D × S)}
theorem two {f : D → D → S → Out (D × S)} {h : Value → Value → Sem Value} {Q : VK} (hx : OpX X g W fr h f) (ha : PE X a (tD g W fra fa)) (hb : PE X b (tD g W frb fb)) (I : Inv X pins σ H s)
    (q : tD g W fr (fun s => do
      let (x, s) ← fa s
      let (y, s) ← fb s
      f x y s) σ H Q) : wpAny (model X.prog X.w) X.A (eval a X.env) (fun v s₁ => wpAny (model X.prog X.w) X.A (eval b X.env) (fun u s₂ => wpAny (model X.prog X.w) X.A (h v u) (EP X pins σ Q) X.xe s₂) X.xe s₁) X.xe s := by
  obtain ⟨ι, st, sr, o⟩ := q
  refine runD ha I sr (OutP.bnd o) (fun _ _ _ z => z) fun v vv s1 H1 ι1 x st1 I1 r1 l1 sr1 d1 o1 => ?_
  refine runD hb I1 sr1 (OutP.bnd o1) (fun _ _ _ z => z.mono l1) fun u uu s2 H2 ι2 y st2 I2 r2 l2 sr2 d2 o2 => ?_
  refine hx pins s2 σ H2 ι2 x y v u vv uu st2 Q I2 sr2 (d1.le l2) d2 r1 r2 (OutP.carry (l1.trans l2) o2 fun p hp v H' ι' l r dn n => hp v H' ι' ((l1.trans l2).trans l) r dn (n.imp fun H1 ι1 z => ⟨(l1.trans l2).trans z.1, z.2⟩))
theorem ev_cmpX {op : CmpOp} {f : D → D → S → Out (D × S)} (hx : OpX X g W fr (compareOp op) f) (ha : PE X a (tD g W fra fa)) (hb : PE X b (tD g W frb fb)) (hm : behindInMarks op b = false) : PE X (.Compare a [op] [b] pos) (tD g W fr (fun s => do
      let (x, s) ← fa s
      let (y, s) ← fb s
      f x y s)) := ⟨fun pins s σ H Q I q => wpAny_Compare1 (two hx ha hb I q) hm⟩
theorem pt_cmpX {op : CmpOp} {f : D → D → S → Out (D × S)} (hx : OpX X g W fr (compareOp op) f) (ha : PE X a (tD g W fra fa)) (hb : PE X b (tD g W frb fb)) (hm : behindInMarks op b = false) : PT X (.Compare a [op] [b] pos) (tDb g W (bE fun s => do
      let (x, s) ← fa s
      let (y, s) ← fb s
      f x y s)) := by
  refine ⟨fun pins s σ H Q I q => ?_⟩
  have q2 : tD g W fr (fun s => do
      let (x, s) ← fa s
      let (y, s) ← fb s
      f x y s) σ H (fun x H' => ∃ k, x = .bl k ∧ Q k H') := tB_imp q
  refine wpAny_isTrue_Compare1 (thn (two hx ha hb I q2) fun _ _ z => thn z fun _ _ z => thn z fun _ _ z => ?_) hm
  obtain ⟨v, H', I', r, k, rfl, q⟩ := z
  cases r
  exact wpAny_truthy_bool ⟨H', I', q⟩
theorem ev_unX {op : UnaryOp} {f : D → S → Out (D × S)} (hx : UnX X g W (unaryOp op) f) (ha : PE X a (tD g W fra fa)) : PE X (.UnaryOp op a pos) (tD g W false (fun s => do
      let (x, s) ← fa s
      f x s)) := by
  refine ⟨fun pins s σ H Q I q => ?_⟩
  obtain ⟨ι, st, sr, o⟩ := q
  refine UnaryOp_ (runD ha I sr (OutP.bnd o) (fun _ _ _ z => z) fun v vv s1 H1 ι1 x st1 I1 r1 l1 sr1 d1 o1 => ?_)
  exact hx pins s1 σ H1 ι1 x v vv st1 Q I1 sr1 d1 r1 (OutP.carry l1 o1 fun p hp v H' ι' l r dn => hp v H' ι' (l1.trans l) r dn Nw.no)
/-- a op1 b op2 c -/
def chnF (f1 f2 : D → D → S → Out (D × S)) (fa fb fd : S → Out (D × S)) : S → Out (D × S) := fun s => do
  let (x, s) ← fa s
  let (y, s) ← fb s
  let (z, s) ← f1 x y s
  let k ← asBool z
  if k then do
    let (z, s) ← fd s
    f2 y z s
  else .ok (.bl false, s)
theorem ev_chnX {o1 o2 : CmpOp} {f1 f2 : D → D → S → Out (D × S)} (h1 : OpX X g W false (compareOp o1) f1) (h2 : OpX X g W false (compareOp o2) f2) (ha : PE X a (tD g W fra fa)) (hb : PE X b (tD g W frb fb)) (hd : PE X d (tD g W frd fd)) (hm : lastMarks [o1, o2] [b, d] = false) :
    PE X (.Compare a [o1, o2] [b, d] pos) (tD g W false (chnF f1 f2 fa fb fd)) := by
  refine ⟨fun pins s σ H Q I q => ?_⟩
  obtain ⟨ι, st, sr, o⟩ := q
  unfold chnF at o
  refine Compare_chain (runD ha I sr (OutP.bnd o) (fun _ _ _ z => z) fun v vv s1 H1 ι1 x st1 I1 r1 l1 sr1 d1 o1 => chain_link (runD hb I1 sr1 (OutP.bnd o1) (fun _ _ _ z => z.mono l1) fun u uu s2 H2 ι2 y st2 I2 r2 l2 sr2 d2 o2 => ?_)) hm
  have l12 := l1.trans l2
  have o2 := OutP.bnd o2
  refine thn (h1 pins s2 σ H2 ι2 x y v u vv uu st2 (fun z H' => ∃ ι' dz st', Le H2 ι2 H' ι' ∧ SR g H' ι' σ st' ∧ Den g H' ι' dz z ∧ OutP (asBool dz >>= fun k => if k = true then (do let (z, s) ← fd st'; f2 y z s) else .ok (.bl false, st')) _ _) I2 sr2 (d1.le l2) d2 r1 r2 (OutP.carry l12 o2 fun p hp v H' ι' l r dn _ => ⟨ι', p.1, p.2, l, r, dn, hp⟩)) ?_
  rintro dd s3 ⟨z, H3, I3, r3, ι3, dz, st3, l3, sr3, d3, o3⟩
  obtain ⟨k, rfl, o3⟩ := OutP.asBool (OutP.bnd o3)
  simp only [Den] at d3
  subst d3
  cases r3
  refine wpAny_truthy_bool ?_
  have l13 := l12.trans l3
  cases k with
  | false =>
    simp only [Bool.false_eq_true, if_false] at o3
    exact ite_ff ⟨.bl false, H3, I3, rfl, o3 (.bl false) H3 ι3 l13 sr3 (by simp only [Den]) Nw.no⟩
  | true =>
    simp only [if_true] at o3
    refine ite_tt (chain_last (runD hd I3 sr3 (OutP.bnd o3) (fun _ _ _ z => z.mono l13) fun z' w' s4 H4 ι4 zd st4 I4 r4 l4 sr4 d4 o4 => ?_))
    have l14 := l13.trans l4
    exact h2 pins s4 σ H4 ι4 y zd u z' uu w' st4 Q I4 sr4 (d2.le (l3.trans l4)) d4 r2 r4 (OutP.carry l14 o4 fun p hp v H' ι' l r dn n => hp v H' ι' (l14.trans l) r dn Nw.no)
end
end SV
namespace SV
open PySem PySem.Spec PyProof.Rows L2
section
variable {X : Cx} {g : Cfg} {c : Tc} {W : WX} {w : SV.W} {x : Str} {i : Nat} {pins : List (Addr × Obj)} {s : Shared} {σ : L2.St} {H : Hp} {ι : Io} {st : S}
variable {a b d : Expr} {a' b' d' : Ex} {pos : Pos} {fra frb frd fr : Bool} {fa fb fd : S → Out (D × S)}
def andF (fa fb : S → Out (D × S)) : S → Out (D × S) := fun s => do
  let (x, s) ← fa s
  if ← asBool x then fb s else .ok (.bl false, s)
def orF (fa fb : S → Out (D × S)) : S → Out (D × S) := fun s => do
  let (x, s) ← fa s
  if ← asBool x then .ok (.bl true, s) else fb s
def notF (fa : S → Out (D × S)) : S → Out (D × S) := fun s => do
  let (x, s) ← fa s
  let b ← asBool x
  .ok (.bl (!b), s)
def iteF (fc fa fb : S → Out (D × S)) : S → Out (D × S) := fun s => do
  let (x, s) ← fc s
  if ← asBool x then fa s else fb s
theorem OutP.bE {f : S → Out (D × S)} {P : Bool × S → Prop} {E : Nat → D → S → Prop} : OutP (SV.bE f st) P E ↔ OutP (f st) (fun p => OutP (SV.asBool p.1) (fun b => P (b, p.2)) E) E := by
  unfold SV.bE
  rw [OutP.bind]
  constructor
  · intro h; exact h.mono (fun p q => (OutP.bnd q).mono (fun _ z => z) fun _ _ _ z => z) fun _ _ _ z => z
  · intro h; exact h.mono (fun p q => OutP.bind.mpr (q.mono (fun _ z => z) fun _ _ _ z => z)) fun _ _ _ z => z
theorem OutP.iteF {fc fa fb : S → Out (D × S)} {P : D × S → Prop} {E : Nat → D → S → Prop} (h : OutP (SV.iteF fc fa fb st) P E) : OutP (SV.bE fc st) (fun p => OutP (if p.1 = true then fa p.2 else fb p.2) P E) E := by
  rw [OutP.bE]
  exact (OutP.bnd h).mono (fun p q => (OutP.bnd q).mono (fun _ z => z) fun _ _ _ z => z) fun _ _ _ z => z
theorem Q_b {H' : Hp} {ι' : Io} {b : Bool} {Q : VK} {st' : S} (l : Le H ι H' ι') (sr : SR g H' ι' σ st') (h : ∀ v H' ι', Le H ι H' ι' → SR g H' ι' σ st' → Den g H' ι' (.bl b) v → Nw fr g (fun H1 ι1 => Le H ι H1 ι1 ∧ SR g H1 ι1 σ st') H' ι' (.bl b) v → Q v H') : Q (.bl b) H' :=
  h (.bl b) H' ι' l sr (by simp only [Den]) (Nw.flat (by intro a; constructor <;> (intro z; cases z)))
/-- an expression's own end, at a later heap -/
theorem OutP.on {H' : Hp} {ι' : Io} {o : Out (D × S)} {Q : VK} (l : Le H ι H' ι') (h : OutP o (fun p => ∀ v H' ι', Le H ι H' ι' → SR g H' ι' σ p.2 → Den g H' ι' p.1 v → Nw fr g (fun H1 ι1 => Le H ι H1 ι1 ∧ SR g H1 ι1 σ p.2) H' ι' p.1 v → Q v H') (XC g W H ι σ)) :
    OutP o (fun p => ∀ v H2 ι2, Le H' ι' H2 ι2 → SR g H2 ι2 σ p.2 → Den g H2 ι2 p.1 v → Nw fr g (fun H1 ι1 => Le H' ι' H1 ι1 ∧ SR g H1 ι1 σ p.2) H2 ι2 p.1 v → Q v H2) (XC g W H' ι' σ) :=
  OutP.carry l h fun p hp v H2 ι2 l2 r dn n => hp v H2 ι2 (l.trans l2) r dn (n.imp fun H1 ι1 z => ⟨l.trans z.1, z.2⟩)
theorem OutP.onB {H' : Hp} {ι' : Io} {o : Out (Bool × S)} {Q : Bool → Hp → Prop} (l : Le H ι H' ι') (h : OutP o (fun p => ∀ H' ι', Le H ι H' ι' → SR g H' ι' σ p.2 → Q p.1 H') (XC g W H ι σ)) :
    OutP o (fun p => ∀ H2 ι2, Le H' ι' H2 ι2 → SR g H2 ι2 σ p.2 → Q p.1 H2) (XC g W H' ι' σ) :=
  OutP.carry l h fun p hp H2 ι2 l2 r => hp H2 ι2 (l.trans l2) r
variable {rest : List Expr}
theorem ev_and (ha : PE X a (tD g W fra fa)) (hb : PE X (.BoolOp .And (b :: rest) pos) (tD g W frb fb)) : PE X (.BoolOp .And (a :: b :: rest) pos) (tD g W false (andF fa fb)) := by
  refine PE.imp (pe_and ha (PE.fr (fr := false) (fun z => nomatch z) hb)) fun σ H Q q => ?_
  obtain ⟨ι, st, sr, o⟩ := q
  refine tD.then sr (OutP.bnd o) (fun _ _ _ h => h) fun d s' v H' ι' p l sr dn _ => ?_
  obtain ⟨k, rfl, p⟩ := OutP.asBool (OutP.bnd p)
  simp only [Den] at dn
  refine ⟨k, dn, ?_⟩
  cases k with
  | false => simp only [Bool.false_eq_true, if_false] at p ⊢; exact Q_b l sr p
  | true => simp only [if_true] at p ⊢; exact ⟨ι', s', sr, OutP.on l p⟩
theorem ev_not (ha : PE X a (tD g W fra fa)) : PE X (.UnaryOp .Not a pos) (tD g W false (notF fa)) := by
  refine PE.imp (pe_not ha) fun σ H Q q => ?_
  obtain ⟨ι, st, sr, o⟩ := q
  refine tD.then sr (OutP.bnd o) (fun _ _ _ h => h) fun d s' v H' ι' p l sr dn _ => ?_
  obtain ⟨k, rfl, p⟩ := OutP.asBool (OutP.bnd p)
  simp only [Den] at dn
  exact ⟨k, dn, Q_b l sr p⟩
theorem bE_and : OutP (bE (andF fa fb) st) P E → OutP (bE fa st) (fun p => if p.1 = true then OutP (bE fb p.2) P E else P (false, p.2)) E := by
  intro h
  rw [OutP.bE] at h ⊢
  refine (OutP.bnd h).mono (fun p q => ?_) fun _ _ _ z => z
  refine (OutP.bnd q).mono (fun k q => ?_) fun _ _ _ z => z
  cases k with
  | true => simp only [if_true] at q ⊢; rw [OutP.bE]; exact q
  | false => simp only [Bool.false_eq_true, if_false] at q ⊢; exact q
theorem bE_or : OutP (bE (orF fa fb) st) P E → OutP (bE fa st) (fun p => if p.1 = true then P (true, p.2) else OutP (bE fb p.2) P E) E := by
  intro h
  rw [OutP.bE] at h ⊢
  refine (OutP.bnd h).mono (fun p q => ?_) fun _ _ _ z => z
  refine (OutP.bnd q).mono (fun k q => ?_) fun _ _ _ z => z
  cases k with
  | false => simp only [Bool.false_eq_true, if_false] at q ⊢; rw [OutP.bE]; exact q
  | true => simp only [if_true] at q ⊢; exact q
theorem bE_not : OutP (bE (notF fa) st) P E → OutP (bE fa st) (fun p => P (!p.1, p.2)) E := by
  intro h
  rw [OutP.bE] at h ⊢
  refine (OutP.bnd h).mono (fun p q => ?_) fun _ _ _ z => z
  exact (OutP.bnd q).mono (fun k q => q) fun _ _ _ z => z
theorem tDb.then' {f : S → Out (Bool × S)} {Q : Bool → Hp → Prop} {P : Bool × S → Prop} (sr : SR g H ι σ st) (h : OutP (f st) P (XC g W H ι σ))
    (k : ∀ b s' H' ι', P (b, s') → Le H ι H' ι' → SR g H' ι' σ s' → Q b H') : tDb g W f σ H Q := tDb.then sr h (fun _ _ _ z => z) k
theorem pw_andD (ha : PT X a (tDb g W (bE fa))) (hb : PW X (.BoolOp .And (b :: rest) pos) (tDb g W (bE fb))) : PW X (.BoolOp .And (a :: b :: rest) pos) (tDb g W (bE (andF fa fb))) := by
  refine ⟨fun wh pins s σ H Q I q => (pw_and ha hb).run wh pins s σ H Q I ?_⟩
  obtain ⟨ι, st, sr, o⟩ := q
  refine tDb.then' sr (bE_and o) fun k s' H' ι' p l sr => ?_
  cases k with
  | false => simp only [Bool.false_eq_true, if_false] at p ⊢; exact p H' ι' l sr
  | true => simp only [if_true] at p ⊢; exact ⟨ι', s', sr, OutP.onB l p⟩
theorem pw_orD (ha : PT X a (tDb g W (bE fa))) (hb : PW X (.BoolOp .Or (b :: rest) pos) (tDb g W (bE fb))) : PW X (.BoolOp .Or (a :: b :: rest) pos) (tDb g W (bE (orF fa fb))) := by
  refine ⟨fun wh pins s σ H Q I q => (pw_or ha hb).run wh pins s σ H Q I ?_⟩
  obtain ⟨ι, st, sr, o⟩ := q
  refine tDb.then' sr (bE_or o) fun k s' H' ι' p l sr => ?_
  cases k with
  | true => simp only [if_true] at p ⊢; exact p H' ι' l sr
  | false => simp only [Bool.false_eq_true, if_false] at p ⊢; exact ⟨ι', s', sr, OutP.onB l p⟩
theorem pt_notD (ha : PT X a (tDb g W (bE fa))) : PT X (.UnaryOp .Not a pos) (tDb g W (bE (notF fa))) := by
  refine PT.imp (pt_not ha) fun σ H Q q => ?_
  obtain ⟨ι, st, sr, o⟩ := q
  exact tDb.then' sr (bE_not o) fun k s' H' ι' p l sr => p H' ι' l sr
variable {fc : S → Out (D × S)} {ec : Expr}
theorem ev_ite (hc : PT X ec (tDb g W (bE fc))) (ha : PE X a (tD g W fr fa)) (hb : PE X b (tD g W fr fb)) : PE X (.IfExp ec a b pos) (tD g W fr (iteF fc fa fb)) := by
  refine PE.imp (pe_ifExp hc ha hb) fun σ H Q q => ?_
  obtain ⟨ι, st, sr, o⟩ := q
  refine tDb.then' sr (OutP.iteF o) fun k s' H' ι' p l sr => ?_
  cases k with
  | true => simp only [if_true] at p ⊢; exact ⟨ι', s', sr, OutP.on l p⟩
  | false => simp only [Bool.false_eq_true, if_false] at p ⊢; exact ⟨ι', s', sr, OutP.on l p⟩
end
end SV
set_option linter.all false
set_option Elab.async false
set_option maxRecDepth 100000
set_option maxHeartbeats 4000000
namespace SV
open PySem PySem.Spec PyProof.Rows L2
section
variable {X : Cx} {g : Cfg} {c : Tc} {W : WX} {w : SV.W} {x : Str} {i : Nat} {pins : List (Addr × Obj)} {s : Shared} {σ : L2.St} {H : Hp} {ι : Io} {st : S}
variable {a b d : Expr} {a' b' d' : Ex} {es : List Expr} {es' : Exs} {pos : Pos} {fra frb frd fr : Bool} {fa fb fd : S → Out (D × S)}
def noStar : Expr → Bool
  | .Starred .. => false
  | _ => true
theorem starEach_one {env : Env} (h : noStar a = true) : starEach (a :: es) env = (false, eval a env) :: starEach es env := by
  cases a <;> first | rfl | simp [noStar] at h
theorem any_plain {env : Env} : ∀ es : List Expr, es.all noStar = true → (backTo pos (starEach es env)).any (·.1) = false
  | [], _ => rfl
  | e :: r, h => by
    simp only [List.all_cons, Bool.and_eq_true] at h
    rw [starEach_one h.1]
    show (false || (backTo pos (starEach r env)).any (·.1)) = false
    rw [any_plain r h.2]
    rfl
theorem pa_nilD : PA X [] (tDs g W (evEs w .nil)) := PA.imp pa_nil fun σ H Q q => by
  obtain ⟨ι, st, sr, o⟩ := q
  simp only [evEs] at o
  exact o [] H ι (Le.refl _ _) sr (by simp only [DenL])
theorem pa_consD (ha : PE X a (tD g W fra (evE w a'))) (hr : PA X es (tDs g W (evEs w es'))) (hs : noStar a = true) : PA X (a :: es) (tDs g W (evEs w (.cons a' es'))) := PA.imp (pa_cons ha hr (starEach_one hs)) fun σ H Q q => by
  obtain ⟨ι, st, sr, o⟩ := q
  simp only [evEs] at o
  refine tD.then sr (OutP.bnd o) (fun _ _ _ z => z) fun x s1 v H1 ι1 o1 l1 sr1 d1 _ => ?_
  refine tDs.then sr1 (OutP.bnd o1) (fun _ _ _ z => z.mono l1) fun xs s2 vs H2 ι2 o2 l2 sr2 d2 => ?_
  exact o2 (v :: vs) H2 ι2 (l1.trans l2) sr2 (DenL.cons (d1.le l2) d2)
theorem lok_le {xs : List D} (h : lok xs = true) : xs.length ≤ sizeLine := by
  unfold lok at h
  rw [sizeL_eq] at h
  exact of_decide_eq_true h
theorem nolT {xs : List D} {fr : Bool} {R : Hp → Io → Prop} {H' : Hp} {ι' : Io} {v : V} : Nw fr g R H' ι' (.tup xs) v := Nw.flat (by intro a; constructor <;> (intro z; cases z))
theorem ev_tup {x1} (h : PA X es (tDs g W (evEs w es'))) : PE X (.Tuple es x1 pos) (tD g W fr (evE w (.tup es'))) := PE.imp (pe_tup h) fun σ H Q q => by
  obtain ⟨ι, st, sr, o⟩ := q
  simp only [evE] at o
  refine tDs.then sr (OutP.bnd o) (fun _ _ _ z => z) fun xs s1 vs H1 ι1 o1 l1 sr1 d1 => ?_
  obtain ⟨hl, o1⟩ := OutP.gd.mp (OutP.bnd o1)
  refine ⟨by rw [← d1.length]; exact lok_le hl, fun p hp => ?_⟩
  exact o1 _ _ ι1 (l1.trans (Le.new hp)) (sr1.new hp) (Den.newT sr1.2 hp d1) nolT
theorem Nw.newS {fr : Bool} {xs : List D} {vs : List V} {p : Addr} (hp : H p = none) {H0 : Hp} {ι0 : Io} (l : Le H0 ι0 H ι) (r : SR g H ι σ st) (d : DenL g H ι xs vs) : Nw fr g (fun H1 ι1 => Le H0 ι0 H1 ι1 ∧ SR g H1 ι1 σ st) (upd H p (.lst vs)) ι (.lst xs) (.ref p) :=
  fun _ => ⟨fun ys e => by cases e; exact ⟨H, p, vs, rfl, hp, rfl, ⟨l, r⟩, d⟩, fun ys e => nomatch e⟩
theorem ev_lst (h : PA X es (tDs g W (evEs w es'))) : PE X (.List es pos) (tD g W true (evE w (.lst es'))) := PE.imp (pe_lst h) fun σ H Q q => by
  obtain ⟨ι, st, sr, o⟩ := q
  simp only [evE] at o
  refine tDs.then sr (OutP.bnd o) (fun _ _ _ z => z) fun xs s1 vs H1 ι1 o1 l1 sr1 d1 => ?_
  obtain ⟨hl, o1⟩ := OutP.gd.mp (OutP.bnd o1)
  refine ⟨by rw [← d1.length]; exact lok_le hl, fun p hp => ?_⟩
  exact o1 _ _ ι1 (l1.trans (Le.new hp)) (sr1.new hp) (Den.newL sr1.2 hp d1) (Nw.newS hp l1 sr1 d1)
theorem mem_app {a p : Addr} (h : some a ∉ ι) (e : a ≠ p) : some a ∉ ι ++ [some p] := by
  intro z
  rcases List.mem_append.mp z with z | z
  · exact h z
  · simp only [List.mem_singleton, Option.some.injEq] at z
    exact e z
theorem Le.put {p : Addr} {o : HO} (hp : H p = none) : Le H ι (upd H p o) (ι ++ [some p]) :=
  .full (fun a u h n => ⟨by rw [upd_ne (ne_of_none h hp)]; exact h, mem_app n (ne_of_none h hp)⟩) (Le.new (ι := ι) hp).trk (by rw [List.length_append]; omega) (fun k hk => .inl (List.getElem?_append_left hk)) (Le.new (ι := ι) hp).frz (fun k q hk e => by
    by_cases h : k = ι.length
    · subst h
      simp at e
      subst e
      intro o ho
      rw [hp] at ho
      cases ho
    · rw [List.getElem?_eq_none (by simp; omega)] at e
      cases e)
theorem Rel.put {m : List MO} {p : Addr} {o : HO} {mo : MO} (r : Rel g H ι m) (hp : H p = none) (hm : ∀ H' ι', Le H ι H' ι' → H' p = some o → MDen g H' ι' p mo) : Rel g (upd H p o) (ι ++ [some p]) (m ++ [mo]) := by
  have l : Le H ι (upd H p o) (ι ++ [some p]) := Le.put hp
  refine ⟨by simp [r.len], fun k mo' e => ?_, fun j k a e1 e2 => ?_, fun q hq => (r.tab q hq).ext fun a u h => by rw [upd_ne (ne_of_none h hp)]; exact h⟩
  · by_cases hk : k < m.length
    · rw [List.getElem?_append_left hk] at e
      rcases r.at_ k mo' e with ⟨h1, h2⟩ | ⟨a, h1, h2⟩
      · exact .inl ⟨h1, by rw [List.getElem?_append_left (by rw [r.len]; exact hk)]; exact h2⟩
      · refine .inr ⟨a, by rw [List.getElem?_append_left (by rw [r.len]; exact hk)]; exact h1, h2.le l fun u hu => ?_⟩
        rw [upd_ne (ne_of_none hu hp)]; exact hu
    · have hk2 : k = m.length := by
        have := (List.getElem?_eq_some_iff.mp e).1
        simp at this
        omega
      subst hk2
      simp at e
      subst e
      exact .inr ⟨p, by rw [← r.len]; simp, hm _ _ l upd_same⟩
  · have key : ∀ j a, (ι ++ [some p])[j]? = some (some a) → (j < ι.length ∧ ι[j]? = some (some a) ∧ a ≠ p) ∨ (j = ι.length ∧ a = p) := by
      intro j a e
      by_cases hj : j < ι.length
      · rw [List.getElem?_append_left hj] at e
        exact .inl ⟨hj, e, fun z => by subst z; exact r.nin hp (List.mem_of_getElem? e)⟩
      · have hj2 : j = ι.length := by
          have := (List.getElem?_eq_some_iff.mp e).1
          simp at this
          omega
        subst hj2
        simp at e
        exact .inr ⟨rfl, e.symm⟩
    rcases key j a e1 with ⟨_, h1, n1⟩ | ⟨h1, n1⟩ <;> rcases key k a e2 with ⟨_, h2, n2⟩ | ⟨h2, n2⟩
    · exact r.inj j k a h1 h2
    · exact absurd n2 n1
    · exact absurd n1 n2
    · rw [h1, h2]
theorem DctAt.new {p : Addr} {es : List D} {kvs : List (Key × V)} (d : DenE g H ι es kvs) : ∀ H' ι', Le H ι H' ι' → H' p = some (.dK kvs) → MDen g H' ι' p (.dct es) := fun H' ι' l h => .inl ⟨kvs, h, d.le l⟩
theorem ev_new (ha : PE X a (tD g W true (evE w a'))) : PE X a (tD g W false (evE w (.new a'))) := PE.imp ha fun σ H Q q => by
  obtain ⟨ι, st, sr, o⟩ := q
  simp only [evE] at o
  refine ⟨ι, st, sr, (OutP.bnd o).mono (fun p hp v H' ι' l sr' dn n => ?_) fun _ _ _ z => z⟩
  obtain ⟨z, st'⟩ := p
  cases z with
  | lst xs =>
    obtain ⟨H1, p, vs, rfl, hp1, rfl, ⟨l1, sr1⟩, d1⟩ := (n rfl).1 xs rfl
    have r' := sr1.2.put hp1 (o := .lst vs) (mo := .lst xs) fun H' ι' l h => ⟨vs, h, d1.le l⟩
    refine hp (.ref p) _ (ι' ++ [some p]) (l1.trans (Le.put hp1)) ⟨sr1.1.le (Le.put hp1), r'⟩ ?_ Nw.no
    simp only [Den]
    rw [← sr1.2.len]
    exact ⟨by simp, fun a e => by simp at e; rw [e]⟩
  | dct es =>
    obtain ⟨H1, p, vs, rfl, hp1, rfl, ⟨l1, sr1⟩, d1⟩ := (n rfl).2 es rfl
    have r' := sr1.2.put hp1 (o := .dK vs) (mo := .dct es) (DctAt.new d1)
    refine hp (.ref p) _ (ι' ++ [some p]) (l1.trans (Le.put hp1)) ⟨sr1.1.le (Le.put hp1), r'⟩ ?_ Nw.no
    simp only [Den]
    rw [← sr1.2.len]
    exact ⟨by simp, fun a e => by simp at e; rw [e]⟩
  | non => exact hp v H' ι' l sr' dn Nw.no
  | bl _ => exact hp v H' ι' l sr' dn Nw.no
  | int _ => exact hp v H' ι' l sr' dn Nw.no
  | str _ => exact hp v H' ι' l sr' dn Nw.no
  | tup _ => exact hp v H' ι' l sr' dn Nw.no
  | ins _ _ => exact hp v H' ι' l sr' dn Nw.no
  | ref _ => exact hp v H' ι' l sr' dn Nw.no
  | clo _ => exact hp v H' ι' l sr' dn Nw.no
  | cls _ => exact hp v H' ι' l sr' dn Nw.no
  | scr _ => exact hp v H' ι' l sr' dn Nw.no
/-- a place is dead -/
theorem Le.die {k : Nat} : Le H ι H (ι.set k none) :=
  .full (fun a u h n => ⟨h, fun z => by
    rcases List.mem_or_eq_of_mem_set z with z | z
    · exact n z
    · cases z⟩) (fun _ o h t => ⟨o, h, t⟩) (by simp) (fun j hj => by
    by_cases e : k = j
    · subst e; right; simp [hj]
    · left; rw [List.getElem?_set_ne e]) (fun _ _ _ h => h) (fun j p hj e => by
    rw [List.getElem?_eq_none (by simpa using hj)] at e
    cases e)
theorem Rel.die {m : List MO} {k : Nat} (r : Rel g H ι m) : Rel g H (ι.set k none) (m.set k .dead) := by
  refine ⟨by simp [r.len], fun j mo e => ?_, fun i j a e1 e2 => ?_, r.tab⟩
  · by_cases ek : k = j
    · subst ek
      have hl : k < m.length := by
        have := (List.getElem?_eq_some_iff.mp e).1
        simpa using this
      rw [List.getElem?_set_self hl] at e
      cases e
      exact .inl ⟨rfl, by rw [List.getElem?_set_self (by rw [r.len]; exact hl)]⟩
    · rw [List.getElem?_set_ne ek] at e
      rcases r.at_ j mo e with ⟨h1, h2⟩ | ⟨a, h1, h2⟩
      · exact .inl ⟨h1, by rw [List.getElem?_set_ne ek]; exact h2⟩
      · exact .inr ⟨a, by rw [List.getElem?_set_ne ek]; exact h1, h2.le Le.die fun u hu => hu⟩
  · have key : ∀ j : Nat, (ι.set k none)[j]? = some (some a) → ι[j]? = some (some a) := by
      intro j e
      by_cases ek : k = j
      · subst ek
        by_cases hl : k < ι.length
        · rw [List.getElem?_set_self hl] at e; cases e
        · rw [List.getElem?_eq_none (by simp; omega)] at e; cases e
      · rw [List.getElem?_set_ne ek] at e; exact e
    exact r.inj i j a (key i e1) (key j e2)
theorem die_nin {m : List MO} {k : Nat} {a : Addr} (r : Rel g H ι m) (e : ι[k]? = some (some a)) : some a ∉ ι.set k none := by
  intro z
  obtain ⟨j, hj⟩ := List.getElem?_of_mem z
  by_cases ek : k = j
  · subst ek
    have hl : k < ι.length := (List.getElem?_eq_some_iff.mp e).1
    rw [List.getElem?_set_self hl] at hj
    cases hj
  · rw [List.getElem?_set_ne ek] at hj
    exact ek (r.inj k j a e hj)
theorem frz_ok {x : D} {v : V} (sr : SR g H ι σ st) (dn : Den g H ι x v) : ∃ ι', Le H ι H ι' ∧ SR g H ι' σ (fzS st x).2 ∧ Den g H ι' (fzS st x).1 v := by
  have same : fzS st x = (x, st) → ∃ ι', Le H ι H ι' ∧ SR g H ι' σ (fzS st x).2 ∧ Den g H ι' (fzS st x).1 v := fun e => by rw [e]; exact ⟨ι, Le.refl _ _, sr, dn⟩
  cases x with
  | ref k =>
    have go : ∀ (mo : MO) (x' : D), st.m[k]? = some mo → mo ≠ .dead → fzS st (.ref k) = (x', ⟨st.e.map fun o => if o = some (.ref k) then some x' else o, st.m.set k .dead⟩) →
        (∀ a, ι[k]? = some (some a) → MDen g H ι a mo → Den g H (ι.set k none) x' (.ref a)) → ∃ ι', Le H ι H ι' ∧ SR g H ι' σ (fzS st (.ref k)).2 ∧ Den g H ι' (fzS st (.ref k)).1 v := by
      intro mo x' hm hd e hx
      rw [e]
      rcases sr.2.at_ k mo hm with ⟨z, _⟩ | ⟨a, ha, md⟩
      · exact absurd z hd
      · have dx := hx a ha md
        have hv : ∀ u, Den g H ι (.ref k) u → u = .ref a := fun u h => by simp only [Den] at h; exact h.2 a ha
        refine ⟨ι.set k none, Le.die, ⟨⟨by simp [sr.1.1], fun i d e2 => ?_⟩, sr.2.die⟩, by rw [hv v dn]; exact dx⟩
        rw [List.getElem?_map] at e2
        cases ei : st.e[i]? with
        | none => rw [ei] at e2; cases e2
        | some o =>
          rw [ei] at e2
          simp only [Option.map_some, Option.some.injEq] at e2
          split at e2
          · rename_i eo
            subst eo
            cases e2
            obtain ⟨u, hu, du⟩ := sr.1.2 i _ ei
            rw [hv u du] at hu
            exact ⟨.ref a, hu, dx⟩
          · subst e2
            obtain ⟨u, hu, du⟩ := sr.1.2 i d ei
            exact ⟨u, hu, du.le Le.die⟩
    cases hm : st.m[k]? with
    | none => exact same (by simp [fzS, fzM, hm])
    | some mo =>
      cases mo with
      | lst xs =>
        refine go (.lst xs) (.lst xs) hm (by intro z; cases z) (by simp [fzS, fzM, hm]) fun a ha md => ?_
        obtain ⟨vs, h1, h2⟩ := md
        simp only [Den]
        exact ⟨a, vs, rfl, ⟨h1, die_nin sr.2 ha⟩, h2.le Le.die⟩
      | dct es =>
        refine go (.dct es) (.dct es) hm (by intro z; cases z) (by simp [fzS, fzM, hm]) fun a ha md => ?_
        simp only [Den]
        refine ⟨a, rfl, die_nin sr.2 ha, ?_⟩
        rcases md with ⟨kvs, h1, h2⟩ | ⟨xs, h1, ne, h2⟩
        · exact .inl ⟨kvs, h1, h2.le Le.die⟩
        · exact .inr ⟨xs, h1, ne, h2.le Le.die⟩
      | obj c fs => exact same (by simp [fzS, fzM, hm])
      | dead => exact same (by simp [fzS, fzM, hm])
      | lkl xs => exact same (by simp [fzS, fzM, hm])
      | lkd xs => exact same (by simp [fzS, fzM, hm])
  | _ => exact same (by simp [fzS, fzM])
theorem ev_frz (ha : PE X a (tD g W fra (evE w a'))) : PE X a (tD g W false (evE w (.frz a'))) := PE.imp (PE.fr (fr := false) (fun z => nomatch z) ha) fun σ H Q q => by
  obtain ⟨ι, st, sr, o⟩ := q
  simp only [evE] at o
  refine ⟨ι, st, sr, (OutP.bnd o).mono (fun p hp v H' ι' l sr' dn n => ?_) fun _ _ _ z => z⟩
  obtain ⟨ι2, l2, sr2, d2⟩ := frz_ok sr' dn
  exact hp v H' ι2 (l.trans l2) sr2 d2 Nw.no
end
end SV
set_option linter.all false
set_option Elab.async false
set_option maxRecDepth 100000
set_option maxHeartbeats 4000000
namespace SV
open PySem PySem.Spec PyProof.Rows L2
section
variable {g : Cfg} {H H' : Hp} {ι ι' : Io} {m m' : List MO}
mutual
theorem clo_of : ∀ (d : D) (v : V), Den g H ι d v → cloD ι.length d = true
  | .non, _, _ => rfl
  | .bl _, _, _ => rfl
  | .int _, _, _ => rfl
  | .str _, _, _ => rfl
  | .cls _, _, _ => rfl
  | .scr _, _, _ => rfl
  | .clo _, _, _ => rfl
  | .ref k, v, h => by simp only [Den] at h; simp only [cloD]; exact decide_eq_true h.1
  | .tup xs, v, h => by simp only [Den] at h; obtain ⟨_, vs, _, _, r⟩ := h; simp only [cloD]; exact clos_of xs vs r
  | .lst xs, v, h => by simp only [Den] at h; obtain ⟨_, vs, _, _, r⟩ := h; simp only [cloD]; exact clos_of xs vs r
  | .ins c xs, v, h => by simp only [Den] at h; obtain ⟨_, _, vs, _, _, _, _, _, r⟩ := h; simp only [cloD]; exact clos_of xs vs r
  | .dct es, v, h => by
    simp only [Den] at h
    obtain ⟨a, _, _, r⟩ := h
    simp only [cloD]
    rcases r with ⟨kvs, _, r⟩ | ⟨xs, _, _, r⟩
    · exact cloe_of es kvs r
    · exact clog_of es xs r
theorem clos_of : ∀ (d : List D) (v : List V), DenL g H ι d v → cloDs ι.length d = true
  | [], _, _ => rfl
  | x :: r, v, h => by
    simp only [DenL] at h
    obtain ⟨u, t, _, a, b⟩ := h
    simp only [cloDs, Bool.and_eq_true]
    exact ⟨clo_of x u a, clos_of r t b⟩
theorem cloe_of : ∀ (d : List D) (v : List (Key × V)), DenE g H ι d v → cloDs ι.length d = true
  | [], _, _ => rfl
  | .tup [k, x] :: r, v, h => by
    simp only [DenE] at h
    obtain ⟨key, u, t, _, e, a, b⟩ := h
    simp only [cloDs, cloD, Bool.and_eq_true]
    refine ⟨⟨?_, clo_of x u a, trivial⟩, cloe_of r t b⟩
    subst e
    cases key <;> rfl
  | .non :: r, v, h => by simp only [DenE] at h
  | .bl _ :: r, v, h => by simp only [DenE] at h
  | .int _ :: r, v, h => by simp only [DenE] at h
  | .str _ :: r, v, h => by simp only [DenE] at h
  | .lst _ :: r, v, h => by simp only [DenE] at h
  | .dct _ :: r, v, h => by simp only [DenE] at h
  | .ins _ _ :: r, v, h => by simp only [DenE] at h
  | .ref _ :: r, v, h => by simp only [DenE] at h
  | .clo _ :: r, v, h => by simp only [DenE] at h
  | .cls _ :: r, v, h => by simp only [DenE] at h
  | .scr _ :: r, v, h => by simp only [DenE] at h
  | .tup [] :: r, v, h => by simp only [DenE] at h
  | .tup [_] :: r, v, h => by simp only [DenE] at h
  | .tup (_ :: _ :: _ :: _) :: r, v, h => by simp only [DenE] at h
theorem clog_of : ∀ (d : List D) (v : List (NestedKey × Addr × V)), DenG g H ι d v → cloDs ι.length d = true
  | [], _, _ => rfl
  | .tup [k, x] :: r, v, h => by
    simp only [DenG] at h
    obtain ⟨nk, b, u, t, _, e, a, a2, b2⟩ := h
    simp only [cloDs, cloD, Bool.and_eq_true]
    exact ⟨⟨clo_of k _ a, clo_of x u a2, trivial⟩, clog_of r t b2⟩
  | .non :: r, v, h => by simp only [DenG] at h
  | .bl _ :: r, v, h => by simp only [DenG] at h
  | .int _ :: r, v, h => by simp only [DenG] at h
  | .str _ :: r, v, h => by simp only [DenG] at h
  | .lst _ :: r, v, h => by simp only [DenG] at h
  | .dct _ :: r, v, h => by simp only [DenG] at h
  | .ins _ _ :: r, v, h => by simp only [DenG] at h
  | .ref _ :: r, v, h => by simp only [DenG] at h
  | .clo _ :: r, v, h => by simp only [DenG] at h
  | .cls _ :: r, v, h => by simp only [DenG] at h
  | .scr _ :: r, v, h => by simp only [DenG] at h
  | .tup [] :: r, v, h => by simp only [DenG] at h
  | .tup [_] :: r, v, h => by simp only [DenG] at h
  | .tup (_ :: _ :: _ :: _) :: r, v, h => by simp only [DenG] at h
end
theorem nin_take {a : Option Addr} {k : Nat} (h : a ∉ ι) : a ∉ ι.take k := fun z => h (List.mem_of_mem_take z)
mutual
theorem Den.cut {k : Nat} : ∀ (d : D) (v : V), cloD k d = true → Den g H ι d v → Den g H (ι.take k) d v
  | .non, v, _, h => by simpa only [Den] using h
  | .bl b, v, _, h => by simpa only [Den] using h
  | .int i, v, _, h => by simpa only [Den] using h
  | .str s, v, _, h => by simpa only [Den] using h
  | .cls c, v, _, h => by simpa only [Den] using h
  | .clo c, v, _, h => by
    simp only [Den] at h ⊢
    exact g.extCut c _ _ _ v h
  | .scr xs, v, _, h => by
    simp only [Den] at h ⊢
    obtain ⟨a, rfl, h⟩ := h
    rcases h with ⟨ha, na⟩ | h
    · exact ⟨a, rfl, .inl ⟨ha, nin_take na⟩⟩
    · exact ⟨a, rfl, .inr h⟩
  | .tup xs, v, c, h => by
    simp only [Den] at h ⊢
    simp only [cloD] at c
    obtain ⟨a, vs, rfl, ⟨ha, na⟩, r⟩ := h
    exact ⟨a, vs, rfl, ⟨ha, nin_take na⟩, DenL.cut xs vs c r⟩
  | .lst xs, v, c, h => by
    simp only [Den] at h ⊢
    simp only [cloD] at c
    obtain ⟨a, vs, rfl, ⟨ha, na⟩, r⟩ := h
    exact ⟨a, vs, rfl, ⟨ha, nin_take na⟩, DenL.cut xs vs c r⟩
  | .dct es, v, c, h => by
    simp only [Den] at h ⊢
    simp only [cloD] at c
    obtain ⟨a, rfl, na, r⟩ := h
    rcases r with ⟨kvs, ha, r⟩ | ⟨xs, ha, ne, r⟩
    · exact ⟨a, rfl, nin_take na, .inl ⟨kvs, ha, DenE.cut es kvs c r⟩⟩
    · exact ⟨a, rfl, nin_take na, .inr ⟨xs, ha, ne, DenG.cut es xs c r⟩⟩
  | .ins c' xs, v, c, h => by
    simp only [Den] at h ⊢
    simp only [cloD] at c
    obtain ⟨a, dx, vs, ns, rfl, ⟨ha, na⟩, e, e2, r⟩ := h
    exact ⟨a, dx, vs, ns, rfl, ⟨ha, nin_take na⟩, e, e2, DenL.cut xs vs c r⟩
  | .ref j, v, c, h => by
    simp only [Den] at h ⊢
    simp only [cloD] at c
    have hj := of_decide_eq_true c
    refine ⟨by rw [List.length_take]; omega, fun a e => h.2 a ?_⟩
    rw [List.getElem?_take_of_lt hj] at e
    exact e
theorem DenL.cut {k : Nat} : ∀ (d : List D) (v : List V), cloDs k d = true → DenL g H ι d v → DenL g H (ι.take k) d v
  | [], v, _, h => by simpa only [DenL] using h
  | x :: r, v, c, h => by
    simp only [DenL] at h ⊢
    simp only [cloDs, Bool.and_eq_true] at c
    obtain ⟨u, t, rfl, a, b⟩ := h
    exact ⟨u, t, rfl, Den.cut x u c.1 a, DenL.cut r t c.2 b⟩
theorem DenE.cut {k : Nat} : ∀ (d : List D) (v : List (Key × V)), cloDs k d = true → DenE g H ι d v → DenE g H (ι.take k) d v
  | [], v, _, h => by simpa only [DenE] using h
  | .tup [k', x] :: r, v, c, h => by
    simp only [DenE] at h ⊢
    simp only [cloDs, cloD, Bool.and_eq_true] at c
    obtain ⟨key, u, t, rfl, e, a, b⟩ := h
    exact ⟨key, u, t, rfl, e, Den.cut x u c.1.2.1 a, DenE.cut r t c.2 b⟩
  | .non :: r, v, _, h => by simp only [DenE] at h
  | .bl _ :: r, v, _, h => by simp only [DenE] at h
  | .int _ :: r, v, _, h => by simp only [DenE] at h
  | .str _ :: r, v, _, h => by simp only [DenE] at h
  | .lst _ :: r, v, _, h => by simp only [DenE] at h
  | .dct _ :: r, v, _, h => by simp only [DenE] at h
  | .ins _ _ :: r, v, _, h => by simp only [DenE] at h
  | .ref _ :: r, v, _, h => by simp only [DenE] at h
  | .clo _ :: r, v, _, h => by simp only [DenE] at h
  | .cls _ :: r, v, _, h => by simp only [DenE] at h
  | .scr _ :: r, v, _, h => by simp only [DenE] at h
  | .tup [] :: r, v, _, h => by simp only [DenE] at h
  | .tup [_] :: r, v, _, h => by simp only [DenE] at h
  | .tup (_ :: _ :: _ :: _) :: r, v, _, h => by simp only [DenE] at h
theorem DenG.cut {k : Nat} : ∀ (d : List D) (v : List (NestedKey × Addr × V)), cloDs k d = true → DenG g H ι d v → DenG g H (ι.take k) d v
  | [], v, _, h => by simpa only [DenG] using h
  | .tup [k', x] :: r, v, c, h => by
    simp only [DenG] at h ⊢
    simp only [cloDs, cloD, Bool.and_eq_true] at c
    obtain ⟨nk, b, u, t, rfl, e, a, a2, b2⟩ := h
    exact ⟨nk, b, u, t, rfl, e, Den.cut k' _ c.1.1 a, Den.cut x u c.1.2.1 a2, DenG.cut r t c.2 b2⟩
  | .non :: r, v, _, h => by simp only [DenG] at h
  | .bl _ :: r, v, _, h => by simp only [DenG] at h
  | .int _ :: r, v, _, h => by simp only [DenG] at h
  | .str _ :: r, v, _, h => by simp only [DenG] at h
  | .lst _ :: r, v, _, h => by simp only [DenG] at h
  | .dct _ :: r, v, _, h => by simp only [DenG] at h
  | .ins _ _ :: r, v, _, h => by simp only [DenG] at h
  | .ref _ :: r, v, _, h => by simp only [DenG] at h
  | .clo _ :: r, v, _, h => by simp only [DenG] at h
  | .cls _ :: r, v, _, h => by simp only [DenG] at h
  | .scr _ :: r, v, _, h => by simp only [DenG] at h
  | .tup [] :: r, v, _, h => by simp only [DenG] at h
  | .tup [_] :: r, v, _, h => by simp only [DenG] at h
  | .tup (_ :: _ :: _ :: _) :: r, v, _, h => by simp only [DenG] at h
end
theorem clof_of : ∀ (fs : List (Nat × D)) (vs : List (Str × V)), DenF g H ι fs vs → (fs.all fun p => cloD ι.length p.2) = true
  | [], _, _ => rfl
  | (f, x) :: r, v, h => by
    simp only [DenF] at h
    obtain ⟨u, t, _, a, b⟩ := h
    simp only [List.all_cons, Bool.and_eq_true]
    exact ⟨clo_of x u a, clof_of r t b⟩
theorem DenF.cut {k : Nat} : ∀ (fs : List (Nat × D)) (vs : List (Str × V)), (fs.all fun p => cloD k p.2) = true → DenF g H ι fs vs → DenF g H (ι.take k) fs vs
  | [], v, _, h => by simpa only [DenF] using h
  | (f, x) :: r, v, c, h => by
    simp only [DenF] at h ⊢
    simp only [List.all_cons, Bool.and_eq_true] at c
    obtain ⟨u, t, rfl, a, b⟩ := h
    exact ⟨u, t, rfl, Den.cut x u c.1 a, DenF.cut r t c.2 b⟩
theorem cloM_of {a : Addr} {mo : MO} (h : MDen g H ι a mo) : cloM ι.length mo = true := by
  cases mo with
  | lst xs => obtain ⟨vs, _, r⟩ := h; exact clos_of xs vs r
  | dct es =>
    rcases h with ⟨kvs, _, r⟩ | ⟨xs, _, _, r⟩
    · exact cloe_of es kvs r
    · exact clog_of es xs r
  | obj c fs => obtain ⟨dx, fs', _, r, _⟩ := h; exact clof_of fs fs' r
  | dead => rfl
  | lkl xs => obtain ⟨_, vs, _, r⟩ := h; exact clos_of xs vs r
  | lkd es =>
    rcases h with ⟨_, kvs, _, r⟩ | ⟨_, xs, _, _, r⟩
    · exact cloe_of es kvs r
    · exact clog_of es xs r
theorem MDen.cut {a : Addr} {mo : MO} {k : Nat} (c : cloM k mo = true) (h : MDen g H ι a mo) : MDen g H (ι.take k) a mo := by
  cases mo with
  | lst xs => obtain ⟨vs, q, r⟩ := h; exact ⟨vs, q, r.cut xs vs c⟩
  | dct es =>
    rcases h with ⟨kvs, q, r⟩ | ⟨xs, q, ne, r⟩
    · exact .inl ⟨kvs, q, r.cut es kvs c⟩
    · exact .inr ⟨xs, q, ne, r.cut es xs c⟩
  | obj c' fs => obtain ⟨dx, fs', q, r, z⟩ := h; exact ⟨dx, fs', q, r.cut fs fs' c, z⟩
  | dead => exact h
  | lkl xs => obtain ⟨o, vs, q, r⟩ := h; exact ⟨o, vs, q, r.cut xs vs c⟩
  | lkd es =>
    rcases h with ⟨o, kvs, q, r⟩ | ⟨o, xs, q, ne, r⟩
    · exact .inl ⟨o, kvs, q, r.cut es kvs c⟩
    · exact .inr ⟨o, xs, q, ne, r.cut es xs c⟩
theorem exOk_get {n : Nat} : ∀ {m m' : List MO}, exOk n m m' = true → m.length ≤ m'.length ∧ ∀ (j : Nat) (b : MO), j < m.length → m'[j]? = some b → m[j]? = some b ∨ cloM n b = true
  | [], _, _ => ⟨Nat.zero_le _, fun j b h => by simp at h⟩
  | a :: r, [], h => by simp [exOk] at h
  | a :: r, b :: t, h => by
    simp only [exOk, Bool.and_eq_true, Bool.or_eq_true] at h
    obtain ⟨h1, h2⟩ := exOk_get h.2
    refine ⟨by simp; exact h1, fun j c hj e => ?_⟩
    cases j with
    | zero =>
      simp at e
      subst e
      rcases h.1 with q | q
      · left; simp [of_decide_eq_true q]
      · exact .inr q
    | succ j =>
      simp at hj e ⊢
      exact h2 j c hj e
theorem Le.cut (l : Le H ι H' ι') (hk : ι.length ≤ ι'.length) : Le H ι H' (ι'.take ι.length) :=
  ⟨fun a o h n t => ⟨(l.keep a o h n t).1, nin_take (l.keep a o h n t).2⟩, l.trk, by rw [List.length_take]; omega, fun k hk2 => by rw [List.getElem?_take_of_lt hk2]; exact l.same k hk2, l.frz, fun k p hk2 e => by
    rw [List.getElem?_eq_none (by rw [List.length_take]; omega)] at e
    cases e⟩
/-- behind a def: the store is cut to its entry's length -/
theorem Rel.cut (r : Rel g H ι m) (r' : Rel g H' ι' m') (l : Le H ι H' ι') (e : exOk m.length m m' = true) : Rel g H' (ι'.take m.length) (m'.take m.length) := by
  obtain ⟨e1, e2⟩ := exOk_get e
  refine ⟨by simp [r'.len], fun k mo h => ?_, fun j k a h1 h2 => ?_, fun p hp => ?_⟩
  · have hk : k < m.length := by
      have := (List.getElem?_eq_some_iff.mp h).1
      rw [List.length_take] at this
      omega
    rw [List.getElem?_take_of_lt hk] at h ⊢
    rcases r'.at_ k mo h with z | ⟨a, z, md⟩
    · exact .inl z
    · refine .inr ⟨a, z, md.cut ?_⟩
      rcases e2 k mo hk h with q | q
      · rcases r.at_ k mo q with ⟨y, _⟩ | ⟨b, _, y⟩
        · subst y; rfl
        · rw [← r.len]; exact cloM_of y
      · exact q
  · have hj : ∀ {j : Nat} {a : Addr}, (ι'.take m.length)[j]? = some (some a) → ι'[j]? = some (some a) := by
      intro j a h
      have hj : j < m.length := by
        have := (List.getElem?_eq_some_iff.mp h).1
        rw [List.length_take] at this
        omega
      rw [List.getElem?_take_of_lt hj] at h
      exact h
    exact r'.inj j k a (hj h1) (hj h2)
  · exact r'.tab p hp
theorem EDen.cut {c : Nat} {d : D} {cls : Value} {dd : Option Addr} {k : Nat} (h : cloD k d = true) (e : EDen g H ι c d cls dd) : EDen g H (ι.take k) c d cls dd := by
  obtain ⟨e1, e2⟩ := e
  refine ⟨e1, ?_⟩
  rcases e2 with z | ⟨a, f, v, z1, z2, z3, z4⟩
  · exact .inl z
  · exact .inr ⟨a, f, v, z1, ⟨z2.1, nin_take z2.2⟩, z3.cut d v h, z4⟩
end
end SV
set_option linter.all false
set_option Elab.async false
set_option maxRecDepth 100000
set_option maxHeartbeats 4000000
namespace SV
open PySem PySem.Spec PyProof.Rows L2
/-- a callee's exception reaches what is wanted of exceptions -/
def PassX (CX : CXT) (X : Cx) (W : WX) : Prop := ∀ (pins : List (Addr × Obj)) (σ : L2.St) (H : Hp) (s : Shared) (E : XK) (e : Value) (s' : Shared), Inv X pins σ H s → CX X.stack H s E e s' → (∀ cls d H', E cls d H' → W cls d σ H') → X.xe e s'
/-- defs whose list or dict is new -/
def freshB (i : Nat) : Bool := ([100, 42, 43, 45, 53, 54, 71, 36] : List Nat).contains i
/-- what a def promises: what SV makes of it -/
def spF (g : Cfg) (fr : Bool) (c : List D → List MO → Out (D × List MO)) : Sp := fun vs H Q E => ∃ ι ds M, Rel g H ι M ∧ DenL g H ι ds vs ∧
  OutP (c ds M) (fun p => ∀ v H' ι', Le H ι H' ι' → Rel g H' ι' p.2 → Den g H' ι' p.1 v → Nw fr g (fun H1 ι1 => Le H ι H1 ι1 ∧ Rel g H1 ι1 p.2) H' ι' p.1 v → Q v H') (fun c d s => g.xp = true ∧ ∀ cls dd H' ι', Le H ι H' ι' → Rel g H' ι' s.m → EDen g H' ι' c d cls dd → E cls dd H')
section
variable {X : Cx} {g : Cfg} {c : Tc} {W : WX} {w : SV.W} {x : Str} {i : Nat} {pins : List (Addr × Obj)} {s : Shared} {σ : L2.St} {H : Hp} {ι : Io} {st : S} {CX : CXT} {k : Nat} {f : Addr}
variable {a b d : Expr} {a' b' d' : Ex} {es : List Expr} {es' : Exs} {pos : Pos} {fra frb frd fr : Bool} {fa fb fd : S → Out (D × S)} {cal : List D → List MO → Out (D × List MO)}
theorem OutP.inS {α : Type} {o : Out (α × List MO)} {P : α × S → Prop} {E : Nat → D → S → Prop} : OutP (SV.inS st o) P E ↔ OutP o (fun p => P (p.1, ⟨st.e, p.2⟩)) (fun c d s => E c d ⟨st.e, s.m⟩) := by
  cases o with
  | ok p => exact Iff.rfl
  | exc c d s => exact Iff.rfl
  | bad => exact Iff.rfl
theorem run_sp (F : FnR X.prog X.w X.K X.mg X.base CX k f (spF g fr cal)) (hr : Room k X.A) (px : PassX CX X W) (I : Inv X pins σ H s) (sr : SR g H ι σ st) {us : List Value} {vs : List V} {ds : List D} {Q : VK} (r : Vals vs us) (dn : DenL g H ι ds vs)
    (q : OutP (SV.inS st (cal ds st.m)) (fun p => ∀ v H' ι', Le H ι H' ι' → SR g H' ι' σ p.2 → Den g H' ι' p.1 v → Nw fr g (fun H1 ι1 => Le H ι H1 ι1 ∧ SR g H1 ι1 σ p.2) H' ι' p.1 v → Q v H') (XC g W H ι σ)) :
    codeAny (model X.prog X.w) X.A (.call (.ref f) ⟨us, []⟩) (fun r s' => match r with | .ok (.ret v) => EP X pins σ Q v s' | .ok _ => False | .error e => X.xe e s') s := by
  rw [OutP.inS] at q
  have h : spF g fr cal vs H Q (fun cls d H' => W cls d σ H') := ⟨ι, ds, st.m, sr.2, dn, q.mono (fun p hp v H' ι' l r dn nw => hp v H' ι' l ⟨sr.1.le l, r⟩ dn (nw.imp fun H1 ι1 z => ⟨z.1, sr.1.le z.1, z.2⟩)) fun c d s z => ⟨z.1, fun cls dd H' ι' l r e => z.2 cls dd σ H' ι' l ⟨sr.1.le l, r⟩ e⟩⟩
  refine codeAny_mono (F X.A X.stack s H us vs Q _ hr I.env0 r h) fun r s' hq => ?_
  cases r with
  | error e => exact px pins σ H s _ e s' I hq fun _ _ _ z => z
  | ok fl =>
    cases fl with
    | ret u => exact I.after hq
    | next => exact False.elim hq
    | brk => exact False.elim hq
    | cont => exact False.elim hq
theorem ca_fn (F : FnR X.prog X.w X.K X.mg X.base CX k f (spF g fr cal)) (hr : Room k X.A) (px : PassX CX X W) : CaX X g W fr (fun us => call (.ref f) us) (fun xs s => SV.inS s (cal xs s.m)) := by
  intro pins s σ H ι xs vs us st Q I sr dn r q
  exact wpAny_call (run_sp F hr px I sr r dn q)
theorem denL_rsK {fs : List (Nat × D)} {vs : List (Str × V)} {m : List MO} {ns : List Nat} {k : Nat} (r : Rel g H ι m) (dn : DenF g H ι fs vs) (hn : fs.map (·.1) = ns) (hc : cloDs k (fs.map fun p => rsK k m p.2) = true) :
    ∃ ws, vs = (ns.map fname).zip ws ∧ ns.length = ws.length ∧ DenL g H (ι.take k) (fs.map fun p => rsK k m p.2) ws := by
  induction fs generalizing vs ns with
  | nil => simp only [DenF] at dn; subst dn hn; exact ⟨[], rfl, rfl, by simp [DenL]⟩
  | cons p t ih =>
    obtain ⟨f, x⟩ := p
    simp only [DenF] at dn
    obtain ⟨v, u, rfl, a, b⟩ := dn
    subst hn
    simp only [List.map_cons, cloDs, Bool.and_eq_true] at hc
    obtain ⟨ws, e1, e2, e3⟩ := ih b rfl hc.2
    refine ⟨v :: ws, ?_, by simp [e2], ?_⟩
    · simp only [List.map_cons, List.zip_cons_cons, e1]
    · refine DenL.cons (show Den g H (ι.take k) (rsK k m x) v from ?_) e3
      have plain : rsK k m x = x → Den g H (ι.take k) (rsK k m x) v := fun e => by
        have h1 := hc.1
        rw [e] at h1 ⊢
        exact a.cut x v h1
      cases x with
      | ref j =>
        by_cases hj : j < k
        · exact plain (by simp [rsK, hj])
        have hrs : rsK k m (.ref j) = rslv m (.ref j) := by simp [rsK, hj]
        cases hm : m[j]? with
        | none => exact plain (by rw [hrs]; simp [rslv, hm])
        | some mo =>
          rcases r.at_ j mo hm with ⟨z, _⟩ | ⟨q, hq, md⟩
          · subst z; exact plain (by rw [hrs]; simp [rslv, hm])
          · have ev : v = .ref q := by simp only [Den] at a; exact a.2 q hq
            subst ev
            have h1 := hc.1
            have hjk : some q ∉ ι.take k := by
              intro z
              obtain ⟨i, hi⟩ := List.getElem?_of_mem z
              have hik : i < k := by
                have := (List.getElem?_eq_some_iff.mp hi).1
                rw [List.length_take] at this
                omega
              rw [List.getElem?_take_of_lt hik] at hi
              have := r.inj i j q hi hq
              omega
            cases mo with
            | lst xs =>
              have e : rsK k m (.ref j) = .lst xs := by rw [hrs]; simp [rslv, hm]
              rw [e] at h1 ⊢
              obtain ⟨vs, h2, h3⟩ := md
              simp only [Den]
              exact ⟨q, vs, rfl, ⟨h2, hjk⟩, h3.cut xs vs h1⟩
            | dct es =>
              have e : rsK k m (.ref j) = .dct es := by rw [hrs]; simp [rslv, hm]
              rw [e] at h1 ⊢
              simp only [Den]
              refine ⟨q, rfl, hjk, ?_⟩
              rcases md with ⟨kvs, h2, h3⟩ | ⟨xs, h2, ne, h3⟩
              · exact .inl ⟨kvs, h2, h3.cut es kvs h1⟩
              · exact .inr ⟨xs, h2, ne, h3.cut es xs h1⟩
            | obj c fs => exact plain (by rw [hrs]; simp [rslv, hm])
            | dead => exact md.elim
            | lkl xs => exact plain (by rw [hrs]; simp [rslv, hm])
            | lkd xs => exact plain (by rw [hrs]; simp [rslv, hm])
      | _ => exact plain rfl
theorem run_mk {C : Addr} {sp : Sp} {us : List Value} {vs : List V} {Q : VK} (M : Mk X.K C f) (F : FnR X.prog X.w X.K X.mg X.base CX k f sp) (hr : Room (k + 1) X.A) (px : PassX CX X W) (I : Inv X pins σ H s) (r : Vals vs us)
    (h : ∀ x dx, H x = Option.none → H dx = Option.none → dx ≠ x → sp (V.ref x :: vs) (upd (upd H dx (.own x)) x (.ins C dx [])) (fun v H2 => v = .non ∧ Q (.ref x) H2) (fun cls d H' => W cls d σ H')) :
    wpAny (model X.prog X.w) X.A (call (.ref C) us) (EP X pins σ Q) X.xe s := by
  have hq := h (s.heap.objs.size + 1) s.heap.objs.size (I.hok.fresh (Nat.le_succ _)) (I.hok.fresh (Nat.le_refl _)) (Nat.ne_of_lt (Nat.lt_succ_self _))
  have I2 := Inv.made (C := C) I
  have r2 : Vals (V.ref (s.heap.objs.size + 1) :: vs) (Value.ref (s.heap.objs.size + 1) :: us) := .cons rfl r
  refine wpAny_call (make_map (f := f) I.kIn M.makes M.init (beq_iff_eq.mp M.fn) (codeAny_mono (F _ X.stack _ _ (Value.ref (s.heap.objs.size + 1) :: us) _ _ _ (hr.make C us []) (I2.env0.make C us []) r2 hq) fun r s' hq' => ?_))
  cases r with
  | error e => exact px pins σ _ _ _ e s' I2 hq' fun _ _ _ z => z
  | ok fl =>
    cases fl with
    | ret u =>
      obtain ⟨v, H', I3, rv, ev, q3⟩ := I2.after hq'
      subst ev
      exact ⟨rv, ⟨V.ref (s.heap.objs.size + 1), H', I3, rfl, q3⟩⟩
    | next => exact False.elim hq'
    | brk => exact False.elim hq'
    | cont => exact False.elim hq'
/-- C(..) -/
theorem ca_cls {cl : Nat} (hC : w.init cl = some i) (M : Mk X.K (g.aC cl) f) (F : FnR X.prog X.w X.K X.mg X.base CX k f (spF g fr (w.call i))) (hr : Room (k + 1) X.A) (px : PassX CX X W) :
    CaX X g W false (fun us => call (.ref (g.aC cl)) us) (fun xs s => makeD w cl xs s) := by
  intro pins s σ H ι xs vs us st Q I sr dn r q
  refine run_mk M F hr px I r ?_
  · intro x dx hx hdx hne
    have hx' : upd H dx (.own x) x = none := by rw [upd_ne (Ne.symm hne)]; exact hx
    have l0 : Le H ι (upd H dx (.own x)) ι := Le.new hdx
    have r0 := sr.2.new (o := .own x) hdx
    have l1 : Le H ι (upd (upd H dx (.own x)) x (.ins (g.aC cl) dx [])) (ι ++ [some x]) := l0.trans (Le.put hx')
    have r1 := r0.put hx' (o := .ins (g.aC cl) dx []) (mo := .obj cl []) fun H' ι' l h => ⟨dx, [], h, by simp [DenF], by simp⟩
    have hk : ι.length = st.m.length := sr.2.len
    unfold makeD at q
    rw [hC] at q
    simp only at q
    refine ⟨_, .ref st.m.length :: xs, _, r1, DenL.cons ?_ (dn.le l1), ?_⟩
    · simp only [Den]
      rw [← hk]
      exact ⟨by simp, fun a e => by simp at e; rw [e]⟩
    · cases eo : w.call i (.ref st.m.length :: xs) (st.m ++ [.obj cl []]) with
      | bad => rw [eo] at q; exact q.elim
      | exc c d s' =>
        rw [eo] at q
        simp only [SV.inS] at q
        split at q
        · rename_i hc
          simp only [Bool.and_eq_true] at hc
          refine ⟨q.1, fun cls dd H' ι' l r e => ?_⟩
          have l2 := l1.trans l
          have lc := l2.cut l2.len
          rw [hk] at lc
          exact q.2 cls dd σ H' _ lc ⟨sr.1.le lc, sr.2.cut r l2 hc.1⟩ (e.cut hc.2)
        · exact q.elim
      | ok p =>
        obtain ⟨d, m'⟩ := p
        rw [eo] at q
        simp only [SV.inS] at q
        cases d with
        | non =>
          simp only at q
          intro v H' ι' l r dv _
          simp only [Den] at dv
          refine ⟨dv, ?_⟩
          have l2 := l1.trans l
          have hxk : ι'[st.m.length]? = some (some x) ∨ ι'[st.m.length]? = some none := by
            have := l.same st.m.length (by rw [← hk]; simp)
            rw [← hk] at this ⊢
            simpa using this
          split at q
          · refine q (.ref x) H' ι' l2 ⟨sr.1.le l2, r⟩ ?_ Nw.no
            simp only [Den]
            refine ⟨by have := l.len; simp at this; omega, fun a e => ?_⟩
            rcases hxk with z | z <;> rw [z] at e <;> cases e
            rfl
          · rename_i gs hgs
            split at q
            · rename_i c' fs hm
              split at q
              · rename_i hc
                obtain ⟨rfl, h2, h3, h4⟩ := hc
                rcases r.at_ _ _ hm with ⟨z, _⟩ | ⟨a, ha, dx', fs', h5, h6, h7⟩
                · cases z
                · have ea : a = x := by
                    rcases hxk with z | z <;> rw [z] at ha <;> cases ha
                    rfl
                  subst ea
                  obtain ⟨ws, e1, e2, e3⟩ := denL_rsK r h6 h2 h4
                  have lc := l2.cut l2.len
                  rw [hk] at lc
                  refine q (.ref a) H' _ lc ⟨sr.1.le lc, sr.2.cut r l2 h3⟩ ?_ Nw.no
                  simp only [Den]
                  subst e1
                  refine ⟨a, dx', ws, gs, rfl, ⟨h5, ?_⟩, hgs, e2, e3⟩
                  intro z
                  obtain ⟨j, hj⟩ := List.getElem?_of_mem z
                  have hjk : j < st.m.length := by
                    have := (List.getElem?_eq_some_iff.mp hj).1
                    rw [List.length_take] at this
                    omega
                  rw [List.getElem?_take_of_lt hjk] at hj
                  have := r.inj j _ a hj ha
                  omega
              · exact q.elim
            · exact q.elim
        | _ => exact q.elim
end
end SV
set_option linter.all false
set_option Elab.async false
set_option maxRecDepth 100000
set_option maxHeartbeats 4000000
namespace SV
open PySem PySem.Spec PyProof.Rows L2
section
variable {X : Cx} {g : Cfg} {c : Tc} {W : WX} {w : SV.W} {x : Str} {i : Nat} {pins : List (Addr × Obj)} {s : Shared} {σ : L2.St} {H : Hp} {ι : Io} {st : S} {CX : CXT} {k : Nat} {f : Addr}
variable {a b d : Expr} {a' b' d' : Ex} {es : List Expr} {es' : Exs} {p pos : Pos} {fra frb frd fr : Bool} {fa fb fd : S → Out (D × S)} {fs : S → Out (List D × S)} {F : List D → S → Out (D × S)}
/-- the arguments, then the callee -/
def appF (fs : S → Out (List D × S)) (F : List D → S → Out (D × S)) : S → Out (D × S) := fun s => do
  let (xs, s) ← fs s
  F xs s
/-- the arguments are read, then the callee runs -/
theorem runCa {cv : Value} {Q : VK} {us0 : List Value} (ha : PA X es (tDs g W fs)) (hC : CaX X g W fr (fun us => call cv us) F) (I : Inv X pins σ H s) (q : tD g W fr (appF fs F) σ H Q) :
    wpAny (model X.prog X.w) X.A (spliced (backTo pos (starEach es X.env))) (fun us s₁ => X.K.In s₁.heap ∧ wpAny (model X.prog X.w) X.A (call cv ([] ++ us)) (EP X pins σ Q) X.xe s₁) X.xe s := by
  obtain ⟨ι, st, sr, o⟩ := q
  refine runDs ha I sr (OutP.bnd o) (fun _ _ _ z => z) fun vs us s1 H1 ι1 xs st1 I1 r1 l1 sr1 d1 o1 => ⟨I1.kIn, ?_⟩
  exact hC pins s1 σ H1 ι1 xs vs us st1 Q I1 sr1 d1 r1 (OutP.on l1 o1)
theorem ev_call1 {cv : Value} (G : Gd X g c) (hx : isGlob c x = true) (hm : X.mg x = some cv) (hk : PySem.W.keepIn X.K cv = true) (hC : CaX X g W fr (fun us => call cv us) F) (ha : PA X (a :: es) (tDs g W fs)) (h1 : (a :: es).all noStar = true) :
    PE X (.Call (.Name x p) (a :: es) [] pos) (tD g W fr (appF fs F)) := by
  obtain ⟨hg, ho⟩ := glob_ok G hx
  obtain ⟨h4, _, _⟩ := okN_d ho
  simp only [List.all_cons, Bool.and_eq_true] at h1
  refine ⟨fun pins s σ H Q I q => ?_⟩
  refine wpAny_Call_Name_kw (ld_glob I hg hm ?_ h4)
  exact PySem.W.callWith_K (h₀ := X.base) I.ok.mod.kin hk (runCa (us0 := []) ha hC I q) (starEach_one h1.1) (any_plain es h1.2)
theorem ev_call0 {cv : Value} (G : Gd X g c) (hx : isGlob c x = true) (hm : X.mg x = some cv) (hk : PySem.W.keepIn X.K cv = true) (hC : CaX X g W fr (fun us => call cv us) F) :
    PE X (.Call (.Name x p) [] [] pos) (tD g W fr (appF (evEs w .nil) F)) := by
  obtain ⟨hg, ho⟩ := glob_ok G hx
  obtain ⟨h4, _, _⟩ := okN_d ho
  refine ⟨fun pins s σ H Q I q => ?_⟩
  refine wpAny_Call_Name_kw (ld_glob I hg hm ?_ h4)
  obtain ⟨ι, st, sr, o⟩ := q
  exact PySem.W.callWith_K0 I.kIn hk (hC pins s σ H ι [] [] [] st Q I sr (by simp only [DenL]) .nil o)
/-- a built-in function by its name -/
theorem ev_callB {id : String} (G : Gd X g c) (hx : isGlob c x = true) (hm : X.mg x = none) (hv : bootBuiltins x = some (.builtin id)) (hC : CaX X g W fr (fun us => call (.builtin id) us) F) (ha : PA X (a :: es) (tDs g W fs)) (h1 : (a :: es).all noStar = true) :
    PE X (.Call (.Name x p) (a :: es) [] pos) (tD g W fr (appF fs F)) := by
  obtain ⟨hg, ho⟩ := glob_ok G hx
  obtain ⟨h4, _, h5⟩ := okN_d ho
  simp only [List.all_cons, Bool.and_eq_true] at h1
  refine ⟨fun pins s σ H Q I q => ?_⟩
  refine wpAny_Call_Name_kw (ld_blt I hg hm hv ?_ h5 h4)
  exact PyProof.Rows.callWith_builtin1 (thn (runCa (us0 := []) ha hC I q) fun us s1 z => z.2) (starEach_one h1.1) (any_plain es h1.2)
theorem ev_callTy {T : String} (G : Gd X g c) (hx : isGlob c x = true) (hm : X.mg x = none) (hv : bootBuiltins x = some (.type T)) (hC : CaX X g W fr (fun us => call (.type T) us) F) (ha : PA X (a :: es) (tDs g W fs)) (h1 : (a :: es).all noStar = true) :
    PE X (.Call (.Name x p) (a :: es) [] pos) (tD g W fr (appF fs F)) := by
  obtain ⟨hg, ho⟩ := glob_ok G hx
  obtain ⟨h4, _, h5⟩ := okN_d ho
  simp only [List.all_cons, Bool.and_eq_true] at h1
  refine ⟨fun pins s σ H Q I q => ?_⟩
  refine wpAny_Call_Name_kw (ld_blt I hg hm hv ?_ h5 h4)
  exact PyProof.Rows.callWith_type1 (thn (runCa (us0 := []) ha hC I q) fun us s1 z => z.2) (starEach_one h1.1) (any_plain es h1.2)
def ab0 : Expr → Bool
  | .Call (.Name _ _) [] [] _ => false
  | _ => true
theorem ab_ok {attr : Str} {env : Env} {wh : Sem Value} (h : ab0 a = true) : attributeBase a attr env wh = wh := by
  unfold attributeBase
  split
  · simp [ab0] at h
  · rfl
theorem Den.insAt {x : D} {v : V} {cl : Nat} {m : List MO} (r : Rel g H ι m) (dn : Den g H ι x v) (e : clsOf m x = some cl) : ∃ a, v = .ref a ∧ ∃ dx fs, H a = some (.ins (g.aC cl) dx fs) := by
  cases x with
  | ins c xs =>
    simp only [Den] at dn
    obtain ⟨a, dx, vs, ns, rfl, ⟨ha, _⟩, _⟩ := dn
    simp only [clsOf, Option.some.injEq] at e
    subst e
    exact ⟨a, rfl, dx, _, ha⟩
  | ref k =>
    simp only [clsOf] at e
    split at e
    · rename_i c fs hm
      simp only [Option.some.injEq] at e
      subst e
      rcases r.at_ k _ hm with ⟨z, _⟩ | ⟨a, ha, dx, fs', h1, _, _⟩
      · cases z
      · simp only [Den] at dn
        exact ⟨a, dn.2 a ha, dx, fs', h1⟩
    · cases e
  | _ => cases e
/-- a field's value -/
theorem zip_lookup {H : Hp} {ι : Io} : ∀ {ns : List Nat} {xs : List D} {vs : List V} {f : Nat} {z : D}, DenL g H ι xs vs → getAt ns xs f = some z → (∀ j, fname j = fname f → j ∈ ns → j = f) → ∃ v, ((ns.map fname).zip vs).lookup (fname f) = some v ∧ Den g H ι z v
  | [], xs, vs, f, z, _, e, _ => by simp [getAt] at e
  | n :: ns, [], vs, f, z, _, e, _ => by simp [getAt] at e
  | n :: ns, x :: xs, vs, f, z, dn, e, hi => by
    simp only [DenL] at dn
    obtain ⟨v, t, rfl, a, b⟩ := dn
    simp only [getAt] at e
    by_cases hn : n = f
    · subst hn
      simp only [if_true, Option.some.injEq] at e
      subst e
      refine ⟨v, ?_, a⟩
      simp [List.lookup]
    · simp only [if_neg hn] at e
      obtain ⟨u, e1, e2⟩ := zip_lookup b e fun j h1 h2 => hi j h1 (List.mem_cons_of_mem _ h2)
      refine ⟨u, ?_, e2⟩
      have hne : (fname f == fname n) = false := by
        rw [beq_eq_false_iff_ne]
        intro z
        exact hn (hi n z.symm (List.mem_cons_self ..))
      simp only [List.map_cons, List.zip_cons_cons, List.lookup, hne]
      exact e1
theorem denF_lookup {H : Hp} {ι : Io} : ∀ {fs : List (Nat × D)} {vs : List (Str × V)} {f : Nat} {z : D}, DenF g H ι fs vs → fget fs f = some z → (∀ j, fname j = fname f → j ∈ fs.map (·.1) → j = f) → ∃ v, vs.lookup (fname f) = some v ∧ Den g H ι z v
  | [], vs, f, z, _, e, _ => by simp [fget] at e
  | (n, x) :: ns, vs, f, z, dn, e, hi => by
    simp only [DenF] at dn
    obtain ⟨v, t, rfl, a, b⟩ := dn
    simp only [fget] at e
    by_cases hn : n = f
    · subst hn
      simp only [if_true, Option.some.injEq] at e
      subst e
      exact ⟨v, by simp [List.lookup], a⟩
    · simp only [if_neg hn] at e
      obtain ⟨u, e1, e2⟩ := denF_lookup b e fun j h1 h2 => hi j h1 (List.mem_cons_of_mem _ h2)
      refine ⟨u, ?_, e2⟩
      have hne : (fname f == fname n) = false := by
        rw [beq_eq_false_iff_ne]
        intro z
        exact hn (hi n z.symm (List.mem_cons_self ..))
      simp only [List.lookup, hne]
      exact e1
theorem fname_inj {j f : Nat} (hf : f < 15) (h : fname j = fname f) : j = f := by
  by_cases hj : j < 15
  · have : ∀ f : Fin 15, ∀ j : Fin 15, fname j.val = fname f.val → j = f := by decide
    exact congrArg Fin.val (this ⟨f, hf⟩ ⟨j, hj⟩ h)
  · have e : fname j = "" := by
      unfold fname
      split <;> first | rfl | omega
    have : ∀ f : Fin 15, fname f.val ≠ "" := by decide
    rw [e] at h
    exact absurd h.symm (this ⟨f, hf⟩)
theorem hasF_lt {cl f : Nat} (h : hasF cl f = true) : f < 15 ∧ cl < 9 := by
  unfold hasF at h
  split at h <;> simp at h <;> omega
/-- the names of the methods -/
def mname : Nat → Str
  | 10 => "label" | 11 => "text" | 12 => "empty" | 13 => "size" | 14 => "possible" | 15 => "history" | 16 => "chain_now" | 17 => "held" | 18 => "let_out" | 19 => "operations"
  | 30 => "index_of" | 31 => "see" | 32 => "see_all" | 33 => "best_number" | 34 => "record" | 35 => "put" | 36 => "take" | 37 => "swap" | 38 => "undo" | 39 => "redo" | 40 => "save" | 41 => "restore" | 42 => "execute" | 43 => "batch"
  | _ => "?"
theorem mname_no (k j : Nat) : mname k ≠ fname j := by
  by_cases hk : k < 44
  · by_cases hj : j < 15
    · have : ∀ k : Fin 44, ∀ j : Fin 15, mname k.val ≠ fname j.val := by decide
      exact this ⟨k, hk⟩ ⟨j, hj⟩
    · have e : fname j = "" := by
        unfold fname
        split <;> first | rfl | omega
      rw [e]
      have : ∀ k : Fin 44, mname k.val ≠ "" := by decide
      exact this ⟨k, hk⟩
  · have e : mname k = "?" := by
      unfold mname
      split <;> first | rfl | omega
    rw [e]
    by_cases hj : j < 15
    · have : ∀ j : Fin 15, ("?" : Str) ≠ fname j.val := by decide
      exact this ⟨j, hj⟩
    · have e : fname j = "" := by
        unfold fname
        split <;> first | rfl | omega
      rw [e]
      decide
theorem kind_no (j : Nat) : ("KIND" : Str) ≠ fname j := by
  by_cases hj : j < 15
  · have : ∀ j : Fin 15, ("KIND" : Str) ≠ fname j.val := by decide
    exact this ⟨j, hj⟩
  · have e : fname j = "" := by
      unfold fname
      split <;> first | rfl | omega
    rw [e]
    decide
theorem zip_none {x : Str} (h : ∀ j, x ≠ fname j) : ∀ (ns : List Nat) (vs : List V), ((ns.map fname).zip vs).lookup x = none
  | [], _ => by simp
  | _ :: _, [] => by simp
  | n :: ns, v :: vs => by
    have : (x == fname n) = false := by rw [beq_eq_false_iff_ne]; exact h n
    simp only [List.map_cons, List.zip_cons_cons, List.lookup, this]
    exact zip_none h ns vs
theorem denF_none {x : Str} (h : ∀ j, x ≠ fname j) {H : Hp} {ι : Io} : ∀ {fs : List (Nat × D)} {vs : List (Str × V)}, DenF g H ι fs vs → vs.lookup x = none
  | [], vs, dn => by simp only [DenF] at dn; subst dn; rfl
  | (n, _) :: ns, vs, dn => by
    simp only [DenF] at dn
    obtain ⟨v, t, rfl, a, b⟩ := dn
    have : (x == fname n) = false := by rw [beq_eq_false_iff_ne]; exact h n
    simp only [List.lookup, this]
    exact denF_none h b
/-- .. an instance, a name that is no field's -/
theorem Den.insN {x : D} {v : V} {cl : Nat} {m : List MO} {nm : Str} (r : Rel g H ι m) (dn : Den g H ι x v) (e : clsOf m x = some cl) (hn : ∀ j, nm ≠ fname j) : ∃ a, v = .ref a ∧ ∃ dx fs, H a = some (.ins (g.aC cl) dx fs) ∧ fs.lookup nm = none := by
  cases x with
  | ins c xs =>
    simp only [Den] at dn
    obtain ⟨a, dx, vs, ns, rfl, ⟨ha, _⟩, _⟩ := dn
    simp only [clsOf, Option.some.injEq] at e
    subst e
    exact ⟨a, rfl, dx, _, ha, zip_none hn ns vs⟩
  | ref k =>
    simp only [clsOf] at e
    split at e
    · rename_i c fs hm
      simp only [Option.some.injEq] at e
      subst e
      rcases r.at_ k _ hm with ⟨z, _⟩ | ⟨a, ha, dx, fs', h1, h2, _⟩
      · cases z
      · simp only [Den] at dn
        exact ⟨a, dn.2 a ha, dx, fs', h1, denF_none hn h2⟩
    · cases e
  | _ => cases e
/-- .. a field -/
theorem Den.fldAt {x z : D} {v : V} {m : List MO} {f : Nat} (r : Rel g H ι m) (dn : Den g H ι x v) (e : fldD m x f = .ok z) : ∃ a cl dx fs u, v = .ref a ∧ H a = some (.ins (g.aC cl) dx fs) ∧ hasF cl f = true ∧ fs.lookup (fname f) = some u ∧ Den g H ι z u := by
  cases x with
  | ins c xs =>
    simp only [Den] at dn
    obtain ⟨a, dx, vs, ns, rfl, ⟨ha, _⟩, h1, h2, h3⟩ := dn
    simp only [fldD, h1] at e
    obtain ⟨hf, e⟩ := gd_ok e
    obtain ⟨u, e1, e2⟩ := zip_lookup h3 (by cases q : getAt ns xs f <;> rw [q] at e <;> cases e; rfl) fun j h _ => fname_inj (hasF_lt hf).1 h
    exact ⟨a, c, dx, _, u, rfl, ha, hf, e1, e2⟩
  | ref k =>
    simp only [fldD] at e
    split at e
    · rename_i c fs hm
      obtain ⟨hf, e⟩ := gd_ok e
      rcases r.at_ k _ hm with ⟨z, _⟩ | ⟨a, ha, dx, fs', h1, h2, _⟩
      · cases z
      · simp only [Den] at dn
        obtain ⟨u, e1, e2⟩ := denF_lookup h2 (by cases q : fget fs f <;> rw [q] at e <;> cases e; rfl) fun j h _ => fname_inj (hasF_lt hf).1 h
        exact ⟨a, c, dx, fs', u, dn.2 a ha, h1, hf, e1, e2⟩
    · cases e
  | _ => cases e
end
end SV
set_option linter.all false
set_option Elab.async false
set_option maxRecDepth 100000
set_option maxHeartbeats 4000000
namespace SV
open PySem PySem.Spec PyProof.Rows L2
theorem calm_opt {α : Type} {o : Option α} : ∀ c d s, opt o ≠ .exc c d s := by intro c d s; cases o <;> (intro z; cases z)
def noCall (c : List D → List MO → Out (D × List MO)) : Prop := c = fun _ _ => .bad
/-- built-in names that the text leaves as they are -/
def bltNames : List Str := ["len", "abs", "min", "max", "sorted", "int", "str", "list", "tuple", "dict", "sum", "all", "isinstance", "enumerate", "range", "zip", "set", "bool", "super"]
/-- the maker of a class -/
def initN : Nat → Nat
  | 4 => 14 | 5 => 20 | 6 => 30 | 7 => 50 | 8 => 61 | _ => 3
/-- the names of the special methods -/
def sname : Nat → Str
  | 1 => "__eq__" | 2 => "__neg__" | 3 => "__len__" | 4 => "__getitem__" | _ => "__rshift__"
structure SpcIn (K : PySem.W.Frag) (C : Addr) (m : Nat) (f : Addr) : Prop where
  at_ : PySem.W.findIn K (.ref C) (sname m) = some (some (.ref f))
  fi : PySem.W.isFn K (.ref f) = true
  fn : PySem.W.fnIn K f = true
  sf : PySem.W.selfFirst K C = true
/-- the built-in types that isinstance is asked for -/
def tyN : Option Ty → String
  | none => "NoneType" | some .int => "int" | some .bool => "bool" | some .str => "str" | some .tuple => "tuple" | some .list => "list" | some .dict => "dict" | some (.own _) => "object"
/-- an instance's class, for isinstance -/
structure InsT (K : PySem.W.Frag) (C : Addr) : Prop where
  ha : PySem.W.findIn K (.ref C) "__class__" = some (some (.builtin "object.__class__"))
  hn : PySem.W.specialIn K (.builtin "object.__class__") "__get__" = some (some (.builtin "getset_descriptor.__get__"))
  htk : PySem.W.takesIn K (.builtin "object.__class__") = some true
  hm : PySem.W.mroIn K C (.type "object") = some true
  kb : ∀ t : Ty, (∀ c, t ≠ .own c) → PySem.W.kitOne K (.ref C) (.type (tyN (some t))) = some false
/-- a class that isinstance is asked for -/
structure IsiT (X : Cx) (g : Cfg) (t : Nat) : Prop where
  mg : ∀ x, tGet tCls x = some t → X.mg x = some (.ref (g.aC t))
  kb : ∀ a : Option Ty, (∀ c, a ≠ some (.own c)) → PySem.W.kitOne X.K (.type (tyN a)) (.ref (g.aC t)) = some false
  ko : ∀ c, c < 9 → ((t = 0 ∧ c ≤ 4) ∨ (t = 5 ∧ c ≤ 5)) → PySem.W.kitOne X.K (.ref (g.aC c)) (.ref (g.aC t)) = some (isSub c t)
/-- the names of the classmethods -/
def cmN : Nat → Str
  | 21 => "parse" | _ => "replay"
/-- ValueError's own mro -/
abbrev veMro : List Value := [.type "ValueError", .type "Exception", .type "BaseException", .type "object"]
/-- the field that an exception's own __init__ sets -/
def exFld : Nat → Nat
  | 25 => 13 | 30 => 14 | _ => 12
/-- what that __init__ does -/
def spX (K : PySem.W.Frag) (f : Str) : Sp := fun vs H Q _ => ∃ (a C : Addr) (y : V), vs = [.ref a, y] ∧ OexC K C ∧ PySem.W.findIn K (.ref C) f = some none ∧ H a = some (exo a C none) ∧
  ∀ dx, H dx = none → dx ≠ a → Q .non (upd (upd H dx (exd dx [(f, y)])) a (exo a C (some dx)))
/-- an exception class with an own __init__ -/
structure ExI (P : Program) (w : World) (K : PySem.W.Frag) (mg : Str → Option Value) (base : Heap) (CX : CXT) (x : Str) (C : Addr) (f : Str) : Prop where
  T : OexC K C
  nf : PySem.W.findIn K (.ref C) f = some none
  at_ : mg x = some (.ref C)
  ini : ∃ (fI : Addr) (fd : FuncData) (ps : List Str), PySem.W.findIn K (.ref C) "__init__" = some (some (.ref fI)) ∧ PySem.W.typeIn K (.ref fI) = some (.type "function") ∧ FnOk P w K mg base CX 1 fI fd ps (spX K f) ∧ Binds K fd ps []
/-- an exception class without own __init__ -/
structure ExK (K : PySem.W.Frag) (mg : Str → Option Value) (x : Str) (C : Addr) : Prop where
  q : PySem.W.excIn K C veMro "ValueError.__new__" = true
  mg : mg x = some (.ref C)
  kC : PySem.W.keepIn K (.ref C) = true
  r1 : PySem.W.subIn K (.ref C) (.type "BaseException") = some true
  r2 : PySem.W.typeIn K (.ref C) = some (.type "type")
/-- what is known of the text where SV's world is w: k, how deep -/
structure Fx (X : Cx) (g : Cfg) (W : WX) (w : SV.W) (CX : CXT) (k : Nat) : Prop where
  room : Room (k + 2) X.A
  px : PassX CX X W
  calm : X.calm = true
  tk : Takes X W
  sbT : ∀ c i, w.meth c 1 = some i → PySem.W.subIn X.K (.type "str") (.ref (g.aC c)) = some false
  exn : ∀ x cl, (x, cl) ∈ g.exs → ExK X.K X.mg x (g.aC cl)
  exi : ∀ x cl, (x, cl) ∈ g.exi → ([22, 24, 25, 30] : List Nat).contains cl = true ∧ ExI X.prog X.w X.K X.mg X.base CX x (g.aC cl) (fname (exFld cl))
  pxF : ∀ H s e s', ¬ CX X.stack H s (fun _ _ _ => False) e s'
  cls : ∀ cl, cl < 9 → Cls X.K (g.aC cl)
  fld : ∀ cl f, hasF cl f = true → NoAttr X.K (g.aC cl) (fname f)
  kcon : ∀ cl j d, w.kcon cl j = some d → cl < 9 ∧ j = 0 ∧ ∃ z u, d = .str z ∧ Con X.K (g.aC cl) "KIND" (.str z) u
  fn : ∀ i, noCall (w.call i) ∨ FnR X.prog X.w X.K X.mg X.base CX k (g.aF i) (spF g (freshB i) (w.call i))
  gfn : ∀ x i, (x, i) ∈ g.fns → X.mg x = some (.ref (g.aF i)) ∧ PySem.W.keepIn X.K (.ref (g.aF i)) = true
  gcl : ∀ x cl, (x, cl) ∈ g.clss → w.init cl = some (initN cl) ∧ X.mg x = some (.ref (g.aC cl)) ∧ PySem.W.keepIn X.K (.ref (g.aC cl)) = true ∧ Mk X.K (g.aC cl) (g.aF (initN cl))
  mono : ∀ H s E E' e s', CX X.stack H s E e s' → (∀ c d H, E c d H → E' c d H) → CX X.stack H s E' e s'
  own : PassesOwn (model X.prog X.w) X.A X.env X.xe
  mth : ∀ cl m i, w.meth cl m = some i → cl < 9 ∧ (30 ≤ m → Meth X.K (g.aC cl) (mname m) (g.aF i)) ∧ (10 ≤ m → m < 30 → ∃ p, PropOf X.K (g.aC cl) (mname m) p (g.aF i)) ∧ (m = 0 → StX.CallO X.K (g.aC cl) (g.aF i)) ∧ (1 ≤ m → m ≤ 5 → SpcIn X.K (g.aC cl) m (g.aF i))
  ins : ∀ cl, cl < 9 → InsT X.K (g.aC cl)
  isi : ∀ t, t ∈ g.asks → IsiT X g t
  cI : ∀ x n, (x, n) ∈ g.cnI → ∃ t, X.mg x = some (.int n t)
  cS : ∀ x z, (x, z) ∈ g.cnS → ∃ t, X.mg x = some (.str z t)
  cv : (("Chain" : Str), 5) ∈ g.clss → ∃ mc u, ClX.CRead X.K (g.aC 5) mc ∧ ClX.CVal X.K (g.aC 5) mc "MAX_CELLS" (.int 8) u
  blt : ∀ x, bltNames.contains x = true → X.mg x = none
  cm : ∀ cl i, (cl, i) ∈ g.cms → ∃ mc p, ClX.CRead X.K (g.aC cl) mc ∧ ClX.CMet X.K (g.aC cl) mc (cmN i) p (g.aF i)
  sb : (∃ c i, c < 5 ∧ w.meth c 1 = some i) → ∀ c e, c < 5 → e < 5 → c ≠ e → PySem.W.subIn X.K (.ref (g.aC e)) (.ref (g.aC c)) = some (decide (c = 0))
  nq : ∀ c i, w.meth c 1 = some i → PySem.W.findIn X.K (.ref (g.aC c)) "__ne__" = some (some (.builtin "object.__ne__"))
section
variable {X : Cx} {g : Cfg} {c : Tc} {W : WX} {w : SV.W} {x : Str} {i : Nat} {pins : List (Addr × Obj)} {s : Shared} {σ : L2.St} {H : Hp} {ι : Io} {st : S} {CX : CXT} {k : Nat} {f : Addr}
variable {a b d : Expr} {a' b' d' : Ex} {es : List Expr} {es' : Exs} {p pos : Pos} {fra frb frd fr : Bool} {fa fb fd : S → Out (D × S)} {fs : S → Out (List D × S)} {F : List D → S → Out (D × S)}
theorem fn_or (T : Fx X g W w CX k) {xs : List D} {P : D × S → Prop} {E : Nat → D → S → Prop} (q : OutP (SV.inS st (w.call i xs st.m)) P E) : FnR X.prog X.w X.K X.mg X.base CX k (g.aF i) (spF g (freshB i) (w.call i)) := by
  rcases T.fn i with h | h
  · rw [h] at q; exact q.elim
  · exact h
/-- e.f -/
theorem ev_fld {f : Nat} {m : Str} (G : Gd X g c) (T : Fx X g W w CX k) (hm : fname f = m) (hab : ab0 a = true) (ha : PE X a (tD g W fra fa)) : PE X (.Attribute a m pos) (tD g W false (fun s => do
    let (x, s) ← fa s
    let r ← fldD s.m x f
    .ok (r, s))) := by
  refine ⟨fun pins s σ H Q I q => ?_⟩
  obtain ⟨ι, st, sr, o⟩ := q
  refine attr_of (ab_ok hab) (runD ha I sr (OutP.bnd o) (fun _ _ _ z => z) fun v vv s1 H1 ι1 x st1 I1 r1 l1 sr1 d1 o1 => ?_)
  have o1 := OutP.bnd o1
  cases e : fldD st1.m x f with
  | bad => rw [e] at o1; exact o1.elim
  | exc cc dd tt =>
    exfalso
    cases x <;> simp only [fldD] at e <;> (try (exact absurd e (by intro z; cases z)))
    · split at e
      · exact calm_gd (fun c d s => calm_opt c d s) _ _ _ e
      · cases e
    · split at e
      · exact calm_gd (fun c d s => calm_opt c d s) _ _ _ e
      · cases e
  | ok z =>
    rw [e] at o1
    obtain ⟨p, cl, dx, fs, u, rfl, h1, h2, h3, h4⟩ := d1.fldAt sr1.2 e
    cases r1
    subst hm
    refine getattr_ok I1 h1 (T.cls cl (hasF_lt h2).2) (T.fld cl f h2) h3 fun uu s2 I2 r2 => ⟨u, H1, I2, r2, ?_⟩
    exact o1 u H1 ι1 l1 sr1 h4 Nw.no
/-- e.KIND -/
theorem ev_kcn (G : Gd X g c) (T : Fx X g W w CX k) (hab : ab0 a = true) (ha : PE X a (tD g W fra (evE w a'))) : PE X (.Attribute a "KIND" pos) (tD g W false (evE w (.kcn a' 0))) := by
  refine ⟨fun pins s σ H Q I q => ?_⟩
  obtain ⟨ι, st, sr, o⟩ := q
  simp only [evE] at o
  refine attr_of (ab_ok hab) (runD ha I sr (OutP.bnd o) (fun _ _ _ z => z) fun v vv s1 H1 ι1 x st1 I1 r1 l1 sr1 d1 o1 => ?_)
  dsimp only at o1
  split at o1
  · rename_i cl hcl
    obtain ⟨d, e, o1⟩ := OutP.opt.mp (OutP.bnd o1)
    obtain ⟨h1, _, z, u, rfl, hC⟩ := T.kcon cl 0 d e
    obtain ⟨p, rfl, dx, fs, h3, h4⟩ := d1.insN sr1.2 hcl kind_no
    cases r1
    exact getcon_ok I1 h3 (T.cls cl h1) hC h4 fun s2 I2 => ⟨.str z, H1, I2, hC.rel, o1 (.str z) H1 ι1 l1 sr1 (by simp only [Den]) Nw.no⟩
  · exact o1.elim
theorem all_plain {env : Env} : ∀ es : List Expr, es.all noStar = true → (backTo pos (starEach es env)).all (fun x => !x.1) = true
  | [], _ => rfl
  | e :: r, h => by
    simp only [List.all_cons, Bool.and_eq_true] at h
    rw [starEach_one h.1]
    show (true && (backTo pos (starEach r env)).all (fun x => !x.1)) = true
    rw [all_plain r h.2]
    rfl
theorem few_ok {env : Env} (h : es.all noStar = true) (hl : es.length < 29) : methodCallForm (es.length + ([] : List Keyword).length) (backTo pos (starEach es env)) (backToKw pos (keywordEach [] env)) = true := by
  unfold methodCallForm
  rw [all_plain es h]
  show (true && true && decide (es.length + 0 + 0 < 30)) = true
  simp; omega
/-- e.f, a property -/
theorem OutP.noX {α : Type} {o : Out α} {P : α → Prop} {E : Nat → D → S → Prop} (h : OutP (SV.noX o) P E) : OutP o P (fun _ _ _ => False) := by
  cases o with
  | ok a => exact h
  | exc c d s => exact h.elim
  | bad => exact h
theorem ev_prp {m : Nat} {nm : Str} (T : Fx X g W w CX k) (hm : mname m = nm) (h10 : 10 ≤ m) (h30 : m < 30) (hab : ab0 a = true) (hfr : fr = true → ∀ cl i, w.meth cl m = some i → freshB i = true) (ha : PE X a (tD g W fra (evE w a'))) : PE X (.Attribute a nm pos) (tD g W fr (evE w (.prp a' m))) := by
  refine ⟨fun pins s σ H Q I q => ?_⟩
  obtain ⟨ι, st, sr, o⟩ := q
  simp only [evE] at o
  refine attr_of (ab_ok hab) (runD ha I sr (OutP.bnd o) (fun _ _ _ z => z) fun v vv s1 H1 ι1 x st1 I1 r1 l1 sr1 d1 o1 => ?_)
  have o1 := OutP.noX o1
  unfold callM at o1
  split at o1
  · rename_i cl hcl
    split at o1
    · rename_i f hf
      obtain ⟨hc9, _, hP, _⟩ := T.mth cl m f hf
      obtain ⟨pp, hp⟩ := hP h10 h30
      subst hm
      obtain ⟨p, rfl, dx, fs, ea, h4⟩ := d1.insN sr1.2 hcl (nm := mname m) (mname_no m)
      cases r1
      have hF := fn_or T o1
      rw [OutP.inS] at o1
      obtain ⟨mA, O, _, _, _, _⟩ := ins_get I1.hok ea
      obtain ⟨od, J, _⟩ := O.look
      obtain ⟨rest, hrec⟩ := hp.rec_
      have I2 := I1.tok (s1.toks + 1)
      have hc : (PySem.W.clsIn X.K (g.aC cl)).isSome = true := by
        obtain ⟨cd, hc, _⟩ := PySem.W.any_some (T.cls cl hc9).hd
        rw [hc]
        rfl
      refine PySem.W.get_bind I1.kIn J (PySem.W.plainGet_of ((T.cls cl hc9).get (mname m))).1 (PySem.W.findObj_data hc hp.at_ hp.get hp.tak) (PySem.W.plainGet_of ((T.cls cl hc9).get (mname m))).2 (wpAny_call (PySem.W.prop_get (s := { s1 with toks := s1.toks + 1 }) I1.kIn hrec ?_))
      have h : spF g (freshB f) (w.call f) [.ref p] H1 Q (fun _ _ _ => False) := ⟨ι1, [x], st1.m, sr1.2, DenL.cons d1 (by simp only [DenL]), o1.mono (fun z hz v H' ι' l r dn nw => hz v H' ι' (l1.trans l) ⟨sr1.1.le l, r⟩ dn ((nw.wk fun e => hfr e cl f hf).imp fun H2 ι2 z => ⟨l1.trans z.1, sr1.1.le z.1, z.2⟩)) fun _ _ _ z => z.elim⟩
      refine codeAny_mono (hF X.A.in1 X.stack { s1 with toks := s1.toks + 1 } H1 [.ref p] [.ref p] Q _ ((T.room.mono (by omega : k + 1 ≤ k + 2)).in1) I2.env0.in1 (.cons rfl .nil) h) fun r s' hq => ?_
      cases r with
      | error er => exact (T.pxF _ _ _ _ hq).elim
      | ok fl =>
        cases fl with
        | ret u =>
          obtain ⟨v, H', I3, rv, q3⟩ := I2.after hq
          show wpAny _ _ (handedOut u) _ _ _
          rw [PySem.W.handedOut_of (handed_of rv)]
          exact wpAny_pure ⟨v, H', I3, rv, q3⟩
        | next => exact False.elim hq
        | brk => exact False.elim hq
        | cont => exact False.elim hq
    · exact o1.elim
  · exact o1.elim
/-- an instance is called -/
theorem ev_app (T : Fx X g W w CX k) (ha : PE X a (tD g W fra (evE w a'))) (hes : PA X (b :: es) (tDs g W (evEs w es'))) (h1 : (b :: es).all noStar = true)
    (ht : eval (.Call a (b :: es) [] pos) X.env = (do callWith pos (← eval a X.env) [] (backTo pos (starEach (b :: es) X.env)) (backToKw pos (keywordEach [] X.env)))) :
    PE X (.Call a (b :: es) [] pos) (tD g W false (evE w (.app a' es'))) := by
  refine ⟨fun pins s σ H Q I q => ?_⟩
  obtain ⟨ι, st, sr, o⟩ := q
  simp only [evE] at o
  simp only [List.all_cons, Bool.and_eq_true] at h1
  refine Call_ (runD ha I sr (OutP.bnd o) (fun _ _ _ z => z) fun v vv s1 H1 ι1 x st1 I1 r1 l1 sr1 d1 o1 => ?_) ht
  obtain ⟨ho, o1⟩ := OutP.gd.mp (OutP.bnd o1)
  have hv : ∃ p, v = .ref p := by
    unfold isOwn at ho
    obtain ⟨cl, hcl⟩ := Option.isSome_iff_exists.mp ho
    obtain ⟨p, e, _⟩ := d1.insAt sr1.2 hcl
    exact ⟨p, e⟩
  obtain ⟨p, rfl⟩ := hv
  cases r1
  refine StX.callO_with (runDs hes I1 sr1 (OutP.bnd o1) (fun _ _ _ z => z.mono l1) fun vs us s2 H2 ι2 xs st2 I2 r2 l2 sr2 d2 o2 => ?_) (starEach_one h1.1) (any_plain es h1.2)
  unfold callM at o2
  have l12 := l1.trans l2
  dsimp only at o2
  split at o2
  · rename_i cl hcl
    split at o2
    · rename_i f hf
      obtain ⟨hc9, _, _, hC, _⟩ := T.mth cl 0 f hf
      have hC := hC rfl
      have d12 := d1.le l2
      obtain ⟨p', e, dx, fs, ea⟩ := d12.insAt sr2.2 hcl
      cases e
      obtain ⟨mA, O, _⟩ := ins_get I2.hok ea
      obtain ⟨od, J, _⟩ := O.look
      exact ⟨⟨_, _, _, J, rfl⟩, wpAny_call (PySem.W.kco_code I2.kIn J rfl hC.at_ hC.fn hC.fi (run_sp (us := .ref p :: us) (vs := .ref p :: vs) (fn_or T o2) (T.room.mono (by omega)) T.px I2 sr2 (.cons rfl r2) (DenL.cons d12 d2) (OutP.carry l12 o2 fun z hz v H' ι' l r dn _ => hz v H' ι' (l12.trans l) r dn Nw.no)))⟩
    · exact o2.elim
  · exact o2.elim
end
end SV
set_option linter.all false
set_option Elab.async false
set_option maxRecDepth 100000
set_option maxHeartbeats 4000000
namespace SV
open PySem PySem.Spec PyProof.Rows L2
theorem getItem_tuple_whole {prog : Program} {w : World} {A : Around} {E : Value → Shared → Prop} {s : Shared} {t sl : Addr} {items : Array Value} {vl vu : Value} {lo hi : Option Int} {Q : Value → Shared → Prop} (ht : IsTup s.heap t items) (hs : s.heap.IsSliceOf sl vl vu .none) (pl : IsPart vl lo) (pu : IsPart vu hi)
    (hw : HT.sIx items.size 0 lo = 0 ∧ HT.sIx items.size items.size hi = items.size) (h : Q (.ref t) s) : wpAny (model prog w) A (getItem (.ref t) (.ref sl)) Q E s := by
  obtain ⟨os, hos, hcs, hds⟩ := id hs
  have hTs : s.TypeIs (.ref sl) "slice" := ⟨os, hos, hcs⟩
  unfold getItem
  try with_reducible refine wpAny_holding ?_
  first | refine wpAny_bind (wpAny_pure ?_) | skip
  refine wpAny_bind (wpAny_sequenceKey ht.typeIs (by decide) ?_)
  refine wpAny_bind (wpAny_callSpecial?_slot (name := Str.ofString "__getitem__") ht.typeIs PyProof.Rows.slot_tuple_getitem
    (wpAny_call_entry PyProof.Rows.slot_tuple_getitem ht.typeIs PyProof.Rows.entry_tuple_getitem ?_ (PyProof.Rows.args_tuple_getitem _ _)))
  show wpAny _ _ (Builtin.Tuple.tupleItemsOf (.ref t) >>= _) _ _ s
  refine wpAny_bind (PyProof.Rows.tupleItemsOf_ ht ?_)
  refine wpAny_bind (wpAny_typeOf hTs ?_)
  rw [if_pos (by decide)]
  refine wpAny_bind (HT.sliceApplied_gen hs pl pu ?_)
  have hyes : ((((HT.sIx items.size 0 lo : Nat) : Int) == 0 && (1 : Int) == 1 && (HT.sIx items.size items.size hi - HT.sIx items.size 0 lo) == items.size) = true) := by
    rw [hw.1, hw.2]
    simp
  show wpAny _ _ (if (((HT.sIx items.size 0 lo : Nat) : Int) == 0 && (1 : Int) == 1 && (HT.sIx items.size items.size hi - HT.sIx items.size 0 lo) == items.size) = true then _ else _) _ _ s
  rw [if_pos hyes]
  have hex : wpAny (model prog w) A.in1 (Builtin.Tuple.tupleIsExact (.ref t)) (fun b s' => b = true ∧ s' = s) E s := by
    unfold Builtin.Tuple.tupleIsExact
    refine wpAny_bind (wpAny_typeOf ht.typeIs ?_)
    exact wpAny_pure ⟨rfl, rfl⟩
  refine wpAny_bind (wpAny_mono hex (fun b s' q => ?_) fun _ _ e => e)
  obtain ⟨rfl, rfl⟩ := q
  rw [if_pos rfl]
  first
    | exact wpAny_bind (wpAny_rule (wpAny_pure ⟨_, rfl, wpAny_pure h⟩))
    | (refine wpAny_bind ?_; unfold rule; first | exact wpAny_pure (wpAny_pure ⟨_, rfl, wpAny_pure h⟩) | skip)
def rSlTW (K : PySem.W.Frag) : V → Option Int → Option Int → Hp → VK → Prop := fun x lo hi H Q => ∃ a xs, x = .ref a ∧ SqT K H a xs ∧ (HT.sIx xs.length 0 lo = 0 ∧ HT.sIx xs.length xs.length hi = xs.length) ∧ Q (.ref a) H
theorem sl_tupW {X : Cx} : SlR X (rSlTW X.K) := by
  intro pins s σ H x v vl vu lo hi sl Q I rx hs pl pu h
  obtain ⟨a, xs, rfl, hx, hw, q⟩ := h
  cases rx
  obtain ⟨its, r, ht, hz⟩ := I.tuple hx
  have hlen : its.toArray.size = xs.length := by rw [List.size_toArray]; exact r.length.symm
  exact ⟨"tuple", _, PyProof.Rows.slot_tuple_getitem.lookup, ht.typeIs, getItem_tuple_whole ht hs pl pu (by rw [hlen]; exact hw) ⟨.ref a, H, I, rfl, q⟩⟩
theorem slice_sIx {α : Type} (xs : List α) (lo hi : Option Int) : sliceL xs lo hi = (xs.take (HT.sIx xs.length xs.length hi)).drop (HT.sIx xs.length 0 lo) := by cases lo <;> cases hi <;> rfl
theorem cutV_slice (xs : List V) (lo hi : Option Int) : cutV xs lo hi = sliceL xs lo hi := by
  unfold cutV sliceL
  have h1 : HT.sIx xs.length 0 lo = (match lo with | none => 0 | some i => clampI i xs.length) := by cases lo <;> rfl
  have h2 : HT.sIx xs.length xs.length hi = (match hi with | none => xs.length | some i => clampI i xs.length) := by cases hi <;> rfl
  rw [h1, h2]
  simp only []
  rw [List.drop_take]
  all_goals (cases lo <;> cases hi <;> rfl)
section
variable {X : Cx} {g : Cfg} {c : Tc} {W : WX} {w : SV.W} {x : Str} {i : Nat} {pins : List (Addr × Obj)} {s : Shared} {σ : L2.St} {H : Hp} {ι : Io} {st : S} {CX : CXT} {k : Nat} {f : Addr}
variable {a b d : Expr} {a' b' d' : Ex} {es : List Expr} {es' : Exs} {p p2 pos : Pos} {fra frb frd fr : Bool} {fa fb fd : S → Out (D × S)}
theorem DenL.slice {xs : List D} {vs : List V} (h : DenL g H ι xs vs) (lo hi : Option Int) : DenL g H ι (sliceL xs lo hi) (sliceL vs lo hi) := by
  unfold sliceL
  rw [h.length]
  exact DenL.drop _ (DenL.take _ h)
/-- a slice's part -/
def tO (g : Cfg) (W : WX) (f : S → Out (Option Int × S)) : TO := fun σ H Q => ∃ ι s, SR g H ι σ s ∧ OutP (f s) (fun p => ∀ H' ι', Le H ι H' ι' → SR g H' ι' σ p.2 → Q p.1 H') (XC g W H ι σ)
theorem po_noneD : PO X none (tO g W (evO w .none)) := ⟨fun pins s σ H Q I q => po_none.run pins s σ H Q I (by
  obtain ⟨ι, st, sr, o⟩ := q
  simp only [evO] at o
  exact o H ι (Le.refl _ _) sr)⟩
theorem po_someD (ha : PE X a (tD g W fra (evE w a'))) : PO X (some a) (tO g W (evO w (.some a'))) := ⟨fun pins s σ H Q I q => (po_some ha).run pins s σ H Q I (by
  obtain ⟨ι, st, sr, o⟩ := q
  simp only [evO] at o
  refine tD.then sr (OutP.bnd o) (fun _ _ _ z => z) fun x s1 v H1 ι1 o1 l1 sr1 d1 _ => ?_
  have o1 := OutP.bnd o1
  cases x with
  | int i => simp only [Den] at d1; exact ⟨_, d1, o1 H1 ι1 l1 sr1⟩
  | _ => exact o1.elim)⟩
theorem cutS_sub (z : Str) (lo hi : Option Int) : cutS z lo hi = Str.sub z lo hi := by
  unfold cutS Str.sub strOf sliceL
  have hn : z.cps.toList.length = z.length := by simp [Str.length]
  have h1 : HT.sIx z.length 0 lo = (match lo with | none => 0 | some i => clampI i z.cps.toList.length) := by rw [hn]; cases lo <;> rfl
  have h2 : HT.sIx z.length z.length hi = (match hi with | none => z.cps.toList.length | some i => clampI i z.cps.toList.length) := by rw [hn]; cases hi <;> rfl
  rw [h1, h2]
  simp only []
  rw [List.drop_take]
  all_goals (cases lo <;> cases hi <;> rfl)
theorem ev_slc {lo hi : Option Expr} {fl fh : Exo} (ha : PE X a (tD g W fra (evE w a'))) (hl : PO X lo (tO g W (evO w fl))) (hh : PO X hi (tO g W (evO w fh))) : PE X (.Subscript a (.Slice lo hi none p2) pos) (tD g W true (evE w (.slc a' fl fh))) := by
  refine PE.imp (pe_slice (SlR.or sl_str (SlR.or sl_list (SlR.or sl_tup sl_tupW))) ha hl hh) fun σ H Q q => ?_
  obtain ⟨ι, st, sr, o⟩ := q
  simp only [evE] at o
  refine tD.then sr (OutP.bnd o) (fun _ _ _ z => z) fun x s1 v H1 ι1 o1 l1 sr1 d1 nw1 => ?_
  clear nw1
  refine ⟨ι1, s1, sr1, (OutP.bnd o1).mono (fun q hq H2 ι2 l2 sr2 => ?_) fun _ _ _ z => z.mono l1⟩
  have l12 := l1.trans l2
  refine ⟨ι2, q.2, sr2, (OutP.bnd hq).mono (fun q2 hq2 H3 ι3 l3 sr3 => ?_) fun _ _ _ z => z.mono l12⟩
  have l13 := l12.trans l3
  have d3 := d1.le (l2.trans l3)
  have hq2 := OutP.bnd hq2
  have hx : (∃ z, x = .str z) ∨ (∃ xs, x = .tup xs) ∨ slcD q2.2.m x q.1 q2.1 = (match rslv q2.2.m x with | .lst xs => .ok (.lst (sliceL xs q.1 q2.1)) | _ => .bad) := by
    cases x <;> first | exact .inl ⟨_, rfl⟩ | exact .inr (.inl ⟨_, rfl⟩) | exact .inr (.inr rfl)
  rcases hx with ⟨z, rfl⟩ | ⟨xs, rfl⟩ | hx
  · unfold slcD at hq2
    obtain ⟨hz, hq2⟩ := OutP.gd.mp (OutP.bnd hq2)
    simp only [Den] at d3
    refine .inl ⟨z, d3, by rw [← sizeL_eq]; exact of_decide_eq_true hz, ?_⟩
    rw [cutS_sub]
    exact hq2 _ H3 ι3 l13 sr3 (by simp only [Den]) (Nw.flat (by intro a; constructor <;> (intro z; cases z)))
  · unfold slcD at hq2
    have dt := d3
    obtain ⟨p, vs, rfl, hp, dn⟩ := d3.tuple
    by_cases hw : (HT.sIx vs.length 0 q.1 = 0 ∧ HT.sIx vs.length vs.length q2.1 = vs.length)
    · refine .inr (.inr (.inr ⟨p, vs, rfl, SqT.of hp, hw, ?_⟩))
      refine hq2 _ H3 ι3 l13 sr3 ?_ nolT
      have e : sliceL xs q.1 q2.1 = xs := by
        rw [slice_sIx, dn.length, hw.1, hw.2, ← dn.length]
        simp
      rw [e]
      exact dt
    · refine .inr (.inr (.inl ⟨p, vs, rfl, SqT.of hp, hw, fun r hr => ?_⟩))
      rw [cutV_slice]
      exact hq2 _ _ ι3 (l13.trans (Le.new hr)) (sr3.new hr) (Den.newT sr3.2 hr (dn.slice _ _)) nolT
  · rw [hx] at hq2
    split at hq2
    · rename_i xs e
      obtain ⟨p, vs, rfl, hp, dn⟩ := d3.list sr3.2 e
      refine .inr (.inl ⟨p, vs, rfl, SqL.of hp, fun r hr => ?_⟩)
      rw [cutV_slice]
      exact hq2 _ _ ι3 (l13.trans (Le.new hr)) (sr3.new hr) (Den.newL sr3.2 hr (dn.slice _ _)) (Nw.newS hr l13 sr3 (dn.slice _ _))
    · exact hq2.elim
end
end SV
set_option linter.all false
set_option Elab.async false
set_option maxRecDepth 100000
set_option maxHeartbeats 4000000
namespace SV
open PySem PySem.Spec PyProof.Rows L2
section
variable {prog : Program} {w : World} {A : Around} {E : Value → Shared → Prop} {s : Shared}
end
section
variable {X : Cx}
end
end SV
set_option linter.all false
set_option Elab.async false
set_option maxRecDepth 100000
set_option maxHeartbeats 4000000
namespace SV
open PySem PySem.Spec PyProof.Rows L2
section
variable {P : Program} {wd : World} {g : Cfg} {H H' : Hp} {ι ι' : Io} {h : Heap} {m : List MO}
mutual
theorem nk_is (ok : HOk P wd H h) : ∀ (d : D) (nk : NestedKey) (v : V) (vv : Value), nkOf d = some nk → Den g H ι d v → RelV v vv → NestedIs h nk vv
  | .non, nk, v, vv, e, dn, r => by
    simp only [nkOf, Option.some.injEq] at e
    simp only [Den] at dn
    subst e dn
    cases r
    exact .none
  | .int i, nk, v, vv, e, dn, r => by
    simp only [nkOf, Option.some.injEq] at e
    simp only [Den] at dn
    subst e dn
    obtain ⟨t, rfl⟩ := r
    exact .int i t
  | .str i, nk, v, vv, e, dn, r => by
    simp only [nkOf, Option.some.injEq] at e
    simp only [Den] at dn
    subst e dn
    obtain ⟨t, rfl⟩ := r
    exact .text i t
  | .tup xs, nk, v, vv, e, dn, r => by
    simp only [nkOf, Option.map_eq_some_iff] at e
    obtain ⟨ks, e, rfl⟩ := e
    simp only [Den] at dn
    obtain ⟨a, vs, rfl, ⟨ha, _⟩, dn⟩ := dn
    cases r
    obtain ⟨_, its, rv, o, h1, h2, n, h3⟩ := (show ObjOk P wd H h a (.tup vs) from ok a _ ha)
    exact .tup h1 h2 h3 (by simpa using nks_is ok xs ks vs its e dn rv)
  | .bl _, _, _, _, e, _, _ => by simp [nkOf] at e
  | .lst _, _, _, _, e, _, _ => by simp [nkOf] at e
  | .dct _, _, _, _, e, _, _ => by simp [nkOf] at e
  | .ins _ _, _, _, _, e, _, _ => by simp [nkOf] at e
  | .ref _, _, _, _, e, _, _ => by simp [nkOf] at e
  | .clo _, _, _, _, e, _, _ => by simp [nkOf] at e
  | .cls _, _, _, _, e, _, _ => by simp [nkOf] at e
  | .scr _, _, _, _, e, _, _ => by simp [nkOf] at e
theorem nks_is (ok : HOk P wd H h) : ∀ (ds : List D) (ks : List NestedKey) (vs : List V) (us : List Value), nksOf ds = some ks → DenL g H ι ds vs → Vals vs us → NestedAll h ks us
  | [], ks, vs, us, e, dn, r => by
    simp only [nksOf, Option.some.injEq] at e
    simp only [DenL] at dn
    subst e dn
    cases r
    exact .nil
  | x :: xs, ks, vs, us, e, dn, r => by
    simp only [nksOf] at e
    simp only [DenL] at dn
    obtain ⟨v, t, rfl, d1, d2⟩ := dn
    cases h1 : nkOf x with
    | none => rw [h1] at e; cases e
    | some a =>
      cases h2 : nksOf xs with
      | none => rw [h1, h2] at e; cases e
      | some b =>
        rw [h1, h2] at e
        cases e
        cases r with
        | cons r1 r2 => exact .cons (nk_is ok x a v _ h1 d1 r1) (nks_is ok xs b t _ h2 d2 r2)
end
mutual
theorem nk_inj : ∀ (a b : D) (k : NestedKey), nkOf a = some k → nkOf b = some k → a = b
  | .non, b, k, h1, h2 => by cases b <;> simp_all [nkOf] <;> (try (first | (rw [← h1] at h2; simp at h2) | (rw [h2] at h1; simp at h1)))
  | .int i, b, k, h1, h2 => by
    simp only [nkOf, Option.some.injEq] at h1
    subst h1
    cases b <;> simp [nkOf] at h2
    rw [h2]
  | .str i, b, k, h1, h2 => by
    simp only [nkOf, Option.some.injEq] at h1
    subst h1
    cases b <;> simp [nkOf] at h2
    rw [h2]
  | .tup xs, b, k, h1, h2 => by
    simp only [nkOf, Option.map_eq_some_iff] at h1
    obtain ⟨ks, h1, rfl⟩ := h1
    cases b <;> simp [nkOf] at h2
    rw [nks_inj xs _ ks h1 h2]
  | .bl _, _, _, e, _ => by simp [nkOf] at e
  | .lst _, _, _, e, _ => by simp [nkOf] at e
  | .dct _, _, _, e, _ => by simp [nkOf] at e
  | .ins _ _, _, _, e, _ => by simp [nkOf] at e
  | .ref _, _, _, e, _ => by simp [nkOf] at e
  | .clo _, _, _, e, _ => by simp [nkOf] at e
  | .cls _, _, _, e, _ => by simp [nkOf] at e
  | .scr _, _, _, e, _ => by simp [nkOf] at e
theorem nks_inj : ∀ (a b : List D) (k : List NestedKey), nksOf a = some k → nksOf b = some k → a = b
  | [], b, k, h1, h2 => by
    simp only [nksOf, Option.some.injEq] at h1
    subst h1
    cases b with
    | nil => rfl
    | cons y t =>
      simp only [nksOf] at h2
      cases hy : nkOf y <;> cases ht : nksOf t <;> rw [hy, ht] at h2 <;> simp at h2
  | x :: xs, b, k, h1, h2 => by
    simp only [nksOf] at h1
    cases hx : nkOf x with
    | none => rw [hx] at h1; cases h1
    | some a =>
      cases hxs : nksOf xs with
      | none => rw [hx, hxs] at h1; cases h1
      | some c =>
        rw [hx, hxs] at h1
        cases h1
        cases b with
        | nil => simp [nksOf] at h2
        | cons y t =>
          simp only [nksOf] at h2
          cases hy : nkOf y with
          | none => rw [hy] at h2; cases h2
          | some a' =>
            cases ht : nksOf t with
            | none => rw [hy, ht] at h2; cases h2
            | some c' =>
              rw [hy, ht] at h2
              simp only [Option.some.injEq, List.cons.injEq] at h2
              obtain ⟨rfl, rfl⟩ := h2
              rw [nk_inj x y _ hx hy, nks_inj xs t _ hxs ht]
end
theorem nkT_inj {a b : D} {k : NestedKey} (h1 : nkT a = some k) (h2 : nkT b = some k) : a = b := by
  have e : ∀ {d : D} {k : NestedKey}, nkT d = some k → nkOf d = some k := by
    intro d k h
    cases d <;> simp only [nkT] at h <;> first | exact h | cases h
  exact nk_inj a b k (e h1) (e h2)
theorem nkT_is (ok : HOk P wd H h) {d : D} {nk : NestedKey} {a : Addr} (e : nkT d = some nk) (dn : Den g H ι d (.ref a)) : NestedIs h nk (.ref a) := by
  have e2 : nkOf d = some nk := by cases d <;> simp only [nkT] at e <;> first | exact e | cases e
  exact nk_is ok d nk (.ref a) (.ref a) e2 dn rfl
mutual
theorem keyN_nk : ∀ (n : Nat) (d : D), keyN n d = true → ∃ k, nkOf d = some k ∧ k.depth ≤ n
  | n, .non, h => ⟨.none, by simp [nkOf], by simp [NestedKey.depth]⟩
  | n, .int i, h => ⟨.num i, by simp [nkOf], by simp [NestedKey.depth]⟩
  | n, .str i, h => ⟨.text i, by simp [nkOf], by simp [NestedKey.depth]⟩
  | 0, .tup xs, h => by simp [keyN] at h
  | n + 1, .tup xs, h => by
    simp only [keyN] at h
    obtain ⟨ks, h1, h2⟩ := keyNs_nk n xs h
    exact ⟨.tup ks, by simp [nkOf, h1], by simp only [NestedKey.depth]; omega⟩
  | n, .bl _, h => by simp [keyN] at h
  | n, .lst _, h => by simp [keyN] at h
  | n, .dct _, h => by simp [keyN] at h
  | n, .ins _ _, h => by simp [keyN] at h
  | n, .ref _, h => by simp [keyN] at h
  | n, .clo _, h => by simp [keyN] at h
  | n, .cls _, h => by simp [keyN] at h
  | n, .scr _, h => by simp [keyN] at h
theorem keyNs_nk : ∀ (n : Nat) (ds : List D), ds.all (keyN n) = true → ∃ ks, nksOf ds = some ks ∧ NestedKey.depthAll ks ≤ n
  | n, [], h => ⟨[], by simp [nksOf], by simp [NestedKey.depthAll]⟩
  | n, x :: r, h => by
    simp only [List.all_cons, Bool.and_eq_true] at h
    obtain ⟨k, h1, h2⟩ := keyN_nk n x h.1
    obtain ⟨ks, h3, h4⟩ := keyNs_nk n r h.2
    exact ⟨k :: ks, by simp [nksOf, h1, h3], by simp only [NestedKey.depthAll]; omega⟩
end
theorem keyT_nk {d : D} (h : keyT d = true) : ∃ k, nkT d = some k ∧ k.depth ≤ 8 := by
  cases d with
  | tup xs =>
    simp only [keyT] at h
    obtain ⟨ks, h1, h2⟩ := keyNs_nk 3 xs h
    exact ⟨.tup ks, by simp [nkT, nkOf, h1], by simp only [NestedKey.depth]; omega⟩
  | _ => simp [keyT] at h
/-- keys known as SV's are those of the object -/
def PG3 (p : NestedKey × Addr × V) (q : NestedKey × Addr × Value) : Prop := p.1 = q.1 ∧ p.2.1 = q.2.1 ∧ RelV p.2.2 q.2.2
theorem denG_cons {e : D} {r : List D} {xs : List (NestedKey × Addr × V)} (h : DenG g H ι (e :: r) xs) : ∃ k x nk b v t, e = .tup [k, x] ∧ xs = (nk, b, v) :: t ∧ nkT k = some nk ∧ Den g H ι k (.ref b) ∧ Den g H ι x v ∧ DenG g H ι r t := by
  cases e with
  | tup ys =>
    match ys with
    | [k', x] =>
      simp only [DenG] at h
      obtain ⟨nk, b, v, t, rfl, h1, h2, h3, h4⟩ := h
      exact ⟨k', x, nk, b, v, t, rfl, rfl, h1, h2, h3, h4⟩
    | [] => simp only [DenG] at h
    | [_] => simp only [DenG] at h
    | _ :: _ :: _ :: _ => simp only [DenG] at h
  | _ => simp only [DenG] at h
theorem denG_mk {k x : D} {nk : NestedKey} {b : Addr} {v : V} {r : List D} {t : List (NestedKey × Addr × V)} (h1 : nkT k = some nk) (h2 : Den g H ι k (.ref b)) (h3 : Den g H ι x v) (h4 : DenG g H ι r t) : DenG g H ι (.tup [k, x] :: r) ((nk, b, v) :: t) := by
  simp only [DenG]
  exact ⟨nk, b, v, t, rfl, h1, h2, h3, h4⟩
theorem atKey_cons {us : List (NestedKey × Addr × Value)} {q : NestedKey × Addr × Value} {k : NestedKey} : atKey (q :: us) k = if q.1 = k then some q.2 else atKey us k := by
  unfold atKey
  by_cases h : q.1 = k <;> simp [h]
theorem denG_get : ∀ {es : List D} {xs : List (NestedKey × Addr × V)} {us : List (NestedKey × Addr × Value)} {k : D} {nk : NestedKey}, DenG g H ι es xs → Paired PG3 xs us → nkT k = some nk →
    (dget es k = none ∧ atKey us nk = none) ∨ ∃ z v p, dget es k = some z ∧ atKey us nk = some p ∧ RelV v p.2 ∧ Den g H ι z v
  | [], xs, us, k, nk, h, hp, hk => by
    simp only [DenG] at h
    subst h
    cases hp
    exact .inl ⟨rfl, rfl⟩
  | e :: r, xs, us, k, nk, h, hp, hk => by
    obtain ⟨k', x, nk', b, v, t, rfl, rfl, h1, h2, h3, h4⟩ := denG_cons h
    cases hp with
    | @cons _ q _ us' hq hp =>
      rw [atKey_cons]
      obtain ⟨q1, q2, q3⟩ := hq
      simp only at q1 q2 q3
      by_cases hkk : k' = k
      · subst hkk
        have : nk' = nk := by rw [h1] at hk; exact Option.some.inj hk
        subst this
        refine .inr ⟨x, v, q.2, by simp [dget], by rw [if_pos q1.symm], q3, h3⟩
      · have hn : ¬ q.1 = nk := fun z => hkk (nkT_inj (by rw [h1, q1, z]) hk)
        rw [if_neg hn]
        simp only [dget, if_neg hkk]
        exact denG_get h4 hp hk
theorem denG_length : ∀ {es : List D} {xs : List (NestedKey × Addr × V)}, DenG g H ι es xs → es.length = xs.length
  | [], xs, h => by simp only [DenG] at h; subst h; rfl
  | e :: r, xs, h => by
    obtain ⟨k', x, nk', b, v, t, rfl, rfl, h1, h2, h3, h4⟩ := denG_cons h
    simp [denG_length h4]
/-- as storedH, by V -/
def putGx (xs : List (NestedKey × Addr × V)) (k : NestedKey) (a : Addr) (v : V) : List (NestedKey × Addr × V) :=
  if (xs.any fun x => decide (x.1 = k)) = true then xs.map (fun x => if x.1 = k then (x.1, x.2.1, v) else x) else xs ++ [(k, a, v)]
theorem any_pair : ∀ {xs : List (NestedKey × Addr × V)} {us : List (NestedKey × Addr × Value)} {k : NestedKey}, Paired PG3 xs us → (xs.any fun x => decide (x.1 = k)) = (atKey us k).isSome
  | _, _, k, .nil => rfl
  | _, _, k, .cons (a := p) (b := q) hq hp => by
    rw [atKey_cons, List.any_cons, any_pair hp]
    by_cases h : q.1 = k
    · have : p.1 = k := hq.1.trans h
      simp [this, h]
    · have : ¬ p.1 = k := fun z => h (hq.1.symm.trans z)
      simp [this, h]
theorem map_pair {k : NestedKey} {v : V} {r : Value} (rv : RelV v r) : ∀ {xs : List (NestedKey × Addr × V)} {us : List (NestedKey × Addr × Value)}, Paired PG3 xs us → Paired PG3 (xs.map fun x => if x.1 = k then (x.1, x.2.1, v) else x) (us.map (putAt k r))
  | _, _, .nil => .nil
  | _, _, .cons (a := p) (b := q) hq hp => by
    refine .cons ?_ (map_pair rv hp)
    unfold putAt
    by_cases h : q.1 = k
    · have h2 : p.1 = k := hq.1.trans h
      simp only [if_pos h, if_pos h2]
      exact ⟨hq.1, hq.2.1, rv⟩
    · have h2 : ¬ p.1 = k := fun z => h (hq.1.symm.trans z)
      simp only [if_neg h, if_neg h2]
      exact hq
theorem app_pair : ∀ {xs ys : List (NestedKey × Addr × V)} {us vs : List (NestedKey × Addr × Value)}, Paired PG3 xs us → Paired PG3 ys vs → Paired PG3 (xs ++ ys) (us ++ vs)
  | _, _, _, _, .nil, h => h
  | _, _, _, _, .cons hq hp, h => .cons hq (app_pair hp h)
theorem put_pair {xs : List (NestedKey × Addr × V)} {us : List (NestedKey × Addr × Value)} {k : NestedKey} {a : Addr} {v : V} {r : Value} (h : Paired PG3 xs us) (rv : RelV v r) : Paired PG3 (putGx xs k a v) (storedH us k a r) := by
  unfold putGx storedH
  rw [any_pair h]
  split
  · exact map_pair rv h
  · exact app_pair h (.cons ⟨rfl, rfl, rv⟩ .nil)
theorem paired_fst : ∀ {xs : List (NestedKey × Addr × V)} {us : List (NestedKey × Addr × Value)}, Paired PG3 xs us → xs.map (·.1) = us.map (·.1)
  | _, _, .nil => rfl
  | _, _, .cons hq hp => by rw [List.map_cons, List.map_cons, paired_fst hp, hq.1]
theorem denG_any : ∀ {es : List D} {xs : List (NestedKey × Addr × V)} {k : D} {nk : NestedKey}, DenG g H ι es xs → nkT k = some nk → (es.any fun e => decide (keyOf e = k)) = xs.any fun x => decide (x.1 = nk)
  | [], xs, k, nk, h, hk => by simp only [DenG] at h; subst h; rfl
  | e :: r, xs, k, nk, h, hk => by
    obtain ⟨k', x, nk', b, v, t, rfl, rfl, h1, h2, h3, h4⟩ := denG_cons h
    rw [List.any_cons, List.any_cons, denG_any h4 hk]
    congr 1
    refine decide_eq_decide.mpr ⟨fun z => ?_, fun z => ?_⟩
    · have z : k' = k := z
      subst z
      rw [h1] at hk
      exact Option.some.inj hk
    · have z : nk' = nk := z
      subst z
      exact nkT_inj h1 hk
theorem denG_app : ∀ {es fs : List D} {xs ys : List (NestedKey × Addr × V)}, DenG g H ι es xs → DenG g H ι fs ys → DenG g H ι (es ++ fs) (xs ++ ys)
  | [], fs, xs, ys, h, h2 => by simp only [DenG] at h; subst h; exact h2
  | e :: r, fs, xs, ys, h, h2 => by
    obtain ⟨k', x, nk', b, v, t, rfl, rfl, h1, h2', h3, h4⟩ := denG_cons h
    exact denG_mk h1 h2' h3 (denG_app h4 h2)
theorem denG_map {k y : D} {nk : NestedKey} {u : V} (hk : nkT k = some nk) (d : Den g H ι y u) : ∀ {es : List D} {xs : List (NestedKey × Addr × V)}, DenG g H ι es xs → DenG g H ι (es.map fun e => if keyOf e = k then .tup [keyOf e, y] else e) (xs.map fun x => if x.1 = nk then (x.1, x.2.1, u) else x)
  | [], xs, h => by simp only [DenG] at h; subst h; simp [DenG]
  | e :: r, xs, h => by
    obtain ⟨k', x, nk', b, v, t, rfl, rfl, h1, h2, h3, h4⟩ := denG_cons h
    rw [List.map_cons, List.map_cons]
    by_cases hkk : k' = k
    · subst hkk
      have : nk' = nk := by rw [h1] at hk; exact Option.some.inj hk
      subst this
      rw [if_pos (show keyOf (.tup [k', x]) = k' from rfl), if_pos (show (nk', b, v).1 = nk' from rfl)]
      exact denG_mk h1 h2 d (denG_map hk d h4)
    · have hk2 : keyOf (.tup [k', x]) ≠ k := hkk
      have hn : ¬ nk' = nk := fun z => hkk (nkT_inj h1 (by rw [hk, z]))
      rw [if_neg hk2, if_neg hn]
      exact denG_mk h1 h2 h3 (denG_map hk d h4)
theorem denG_put {es : List D} {xs : List (NestedKey × Addr × V)} {k y : D} {nk : NestedKey} {b : Addr} {u : V} (h : DenG g H ι es xs) (hk : nkT k = some nk) (hb : Den g H ι k (.ref b)) (d : Den g H ι y u) : DenG g H ι (dput es k y) (putGx xs nk b u) := by
  unfold dput putGx
  rw [denG_any h hk]
  split
  · exact denG_map hk d h
  · exact denG_app h (denG_mk hk hb d (by simp [DenG]))
theorem gd_dictH (ok : HOk P wd H h) {a : Addr} {es : List D} {xs : List (NestedKey × Addr × V)} (r : Rd H a (GDo P wd a xs)) (dn : DenG g H ι es xs) (hkd : es.all (fun e => keyT (keyOf e)) = true) :
    (a == sysModules) = false ∧ xs.length ≤ sizeLine ∧ ∃ us, Paired PG3 xs us ∧ h.DictOfH (nestedKind P wd) a us := by
  obtain ⟨⟨hd, hl, hn, o, es', ep, us, h1, h2, h3, h4, h5⟩, _⟩ := (show ObjOk P wd H h a (GDo P wd a xs) from r.ok ok)
  refine ⟨hd, hl, us, h5, o, es', ep, h1, h2, h3, h4, ?_, by rw [← paired_fst h5]; exact hn⟩
  have all : ∀ {es : List D} {l : List (NestedKey × Addr × V)} {m : List (NestedKey × Addr × Value)}, DenG g H ι es l → es.all (fun e => keyT (keyOf e)) = true → Paired PG3 l m → ∀ x ∈ m, (nestedKind P wd).is h x.1 x.2.1 := by
    intro es
    induction es with
    | nil => intro l m hd _ hp x hx; simp only [DenG] at hd; subst hd; cases hp; cases hx
    | cons e r ih =>
      intro l m hd ha hp x hx
      obtain ⟨k', y, nk', b, v, t, rfl, rfl, e1, e2, e3, e4⟩ := denG_cons hd
      cases hp with
      | @cons _ q _ m' hq hp =>
        simp only [List.all_cons, Bool.and_eq_true] at ha
        rcases List.mem_cons.mp hx with z | z
        · subst z
          obtain ⟨nk2, f1, f2⟩ := keyT_nk ha.1
          have : nk2 = nk' := by rw [show keyOf (.tup [k', y]) = k' from rfl, e1] at f1; exact (Option.some.inj f1).symm
          subst this
          obtain ⟨q1, q2, _⟩ := hq
          simp only at q1 q2
          refine ⟨?_, by rw [← q1]; exact f2⟩
          rw [← q1, ← q2]
          exact nkT_is ok e1 e2
        · exact ih e4 ha.2 hp x z
  exact all dn hkd h5
/-- an empty dict is one of these, too -/
theorem gd_empty (ok : HOk P wd H h) {a : Addr} (r : Rd H a (.dK [])) : (a == sysModules) = false ∧ h.DictOfH (nestedKind P wd) a [] := by
  obtain ⟨_, hd, vs, rel, dd⟩ := (show ObjOk P wd H h a (.dK []) from r.ok ok)
  cases rel
  obtain ⟨o, es, ep, h1, h2, h3, _, h4, _⟩ := dd
  refine ⟨hd, o, es, ep, h1, h2, h3, ?_, (fun x hx => nomatch hx), List.nodup_nil⟩
  generalize es.toList = l at h4
  cases h4
  rfl
/-- the object behind a store -/
theorem gd_new {a : Addr} {xs : List (NestedKey × Addr × V)} {us : List (NestedKey × Addr × Value)} (hd : (a == sysModules) = false) (hl : xs.length ≤ sizeLine) (hp : Paired PG3 xs us) (hm : h.DictOfH (nestedKind P wd) a us) : ObjOk P wd H h a (GDo P wd a xs) := by
  obtain ⟨o, es, ep, h1, h2, h3, h4, _, h5⟩ := hm
  refine ⟨⟨hd, hl, by rw [paired_fst hp]; exact h5, o, es, ep, us, h1, h2, h3, h4, hp⟩, ⟨o, h1⟩, fun g1 g2 hq hk => ?_⟩
  obtain ⟨a1, a2, a3, o', es', ep', us', b1, b2⟩ := hq
  exact ⟨a1, a2, a3, o', es', ep', us', hk _ b1, b2⟩
end
end SV
set_option linter.all false
set_option Elab.async false
set_option maxRecDepth 100000
set_option maxHeartbeats 4000000
namespace SV
open PySem PySem.Spec PyProof.Rows L2
section
variable {X : Cx} {g : Cfg} {c : Tc} {W : WX} {w : SV.W} {x : Str} {i : Nat} {pins : List (Addr × Obj)} {s : Shared} {σ : L2.St} {H : Hp} {ι : Io} {st : S} {CX : CXT} {k : Nat} {f : Addr} {m : List MO}
theorem Den.dctAt {d : D} {v : V} {es : List D} (r : Rel g H ι m) (h : Den g H ι d v) (e : dctOf m d = some es) : ∃ a, v = .ref a ∧ DctAt g H ι a es := by
  cases d with
  | dct es' =>
    simp only [dctOf, Option.some.injEq] at e
    subst e
    simp only [Den] at h
    obtain ⟨a, rfl, _, h⟩ := h
    exact ⟨a, rfl, h⟩
  | ref k =>
    simp only [dctOf] at e
    split at e
    · rename_i es' hm
      simp only [Option.some.injEq] at e
      subst e
      rcases r.at_ k _ hm with ⟨z, _⟩ | ⟨a, ha, md⟩
      · cases z
      · simp only [Den] at h
        exact ⟨a, h.2 a ha, md⟩
    · cases e
  | _ => cases e
theorem keyK_key {k : D} (h : keyK k = true) : ∃ key, kD key = k := by
  cases k <;> simp [keyK] at h
  · exact ⟨.inl _, rfl⟩
  · exact ⟨.inr _, rfl⟩
theorem kD_inj {a b : Key} (h : kD a = kD b) : a = b := by
  cases a <;> cases b <;> simp [kD] at h <;> subst h <;> rfl
theorem den_kV {key : Key} {v : V} (h : Den g H ι (kD key) v) : v = kV key := by
  cases key <;> simp only [kD, Den] at h <;> subst h <;> rfl
theorem DctAt.dK {a : Addr} {es : List D} {k : D} (h : DctAt g H ι a es) (hk : kindOk es k = true) : ∃ kvs, H a = some (.dK kvs) ∧ DenE g H ι es kvs := by
  rcases h with h | ⟨xs, _, ne, h⟩
  · exact h
  · exfalso
    cases es with
    | nil => exact ne rfl
    | cons e r =>
      simp only [kindOk, List.all_cons, Bool.and_eq_true] at hk
      have h2 := hk.2.1
      cases e with
      | tup ys =>
        match ys with
        | [k', x] =>
          simp only [DenG] at h
          obtain ⟨nk, b, v, t, _, hn, _⟩ := h
          simp only [keyOf] at h2
          cases k' <;> simp [keyK] at h2 <;> simp [nkT] at hn
        | [] => simp only [DenG] at h
        | [_] => simp only [DenG] at h
        | _ :: _ :: _ :: _ => simp only [DenG] at h
      | _ => simp only [DenG] at h
theorem denE_cons {e : D} {r : List D} {kvs : List (Key × V)} (h : DenE g H ι (e :: r) kvs) : ∃ key x v t, e = .tup [kD key, x] ∧ kvs = (key, v) :: t ∧ Den g H ι x v ∧ DenE g H ι r t := by
  cases e with
  | tup ys =>
    match ys with
    | [k', x] =>
      simp only [DenE] at h
      obtain ⟨key, v, t, rfl, rfl, a, b⟩ := h
      exact ⟨key, x, v, t, rfl, rfl, a, b⟩
    | [] => simp only [DenE] at h
    | [_] => simp only [DenE] at h
    | _ :: _ :: _ :: _ => simp only [DenE] at h
  | _ => simp only [DenE] at h
theorem denE_mk {key : Key} {x : D} {v : V} {r : List D} {t : List (Key × V)} (a : Den g H ι x v) (b : DenE g H ι r t) : DenE g H ι (.tup [kD key, x] :: r) ((key, v) :: t) := by
  simp only [DenE]
  exact ⟨key, v, t, rfl, rfl, a, b⟩
theorem denE_get : ∀ {es : List D} {kvs : List (Key × V)} {key : Key}, DenE g H ι es kvs → (dget es (kD key) = none ∧ valV kvs key = none) ∨ ∃ z v, dget es (kD key) = some z ∧ valV kvs key = some v ∧ Den g H ι z v
  | [], kvs, key, h => by simp only [DenE] at h; subst h; exact .inl ⟨rfl, rfl⟩
  | e :: r, kvs, key, h => by
    obtain ⟨key', x, v, t, rfl, rfl, a, b⟩ := denE_cons h
    by_cases hk : key' = key
    · subst hk
      exact .inr ⟨x, v, by simp [dget], by rw [valV_pos rfl], a⟩
    · have hk2 : kD key' ≠ kD key := fun z => hk (kD_inj z)
      simp only [dget, if_neg hk2]
      rw [valV_neg (p := (key', v)) (r := t) hk]
      exact denE_get b
theorem denE_length : ∀ {es : List D} {kvs : List (Key × V)}, DenE g H ι es kvs → es.length = kvs.length
  | [], kvs, h => by simp only [DenE] at h; subst h; rfl
  | e :: r, kvs, h => by
    obtain ⟨key', x, v, t, rfl, rfl, a, b⟩ := denE_cons h
    simp [denE_length b]
theorem denE_any {key : Key} : ∀ {es : List D} {kvs : List (Key × V)}, DenE g H ι es kvs → (es.any fun e => decide (keyOf e = kD key)) = kvs.any fun kv => decide (kv.1 = key)
  | [], kvs, h => by simp only [DenE] at h; subst h; rfl
  | e :: r, kvs, h => by
    obtain ⟨key', x, v, t, rfl, rfl, a, b⟩ := denE_cons h
    rw [List.any_cons, List.any_cons, denE_any b]
    congr 1
    exact decide_eq_decide.mpr ⟨fun z => kD_inj z, fun z => by show kD key' = kD key; rw [show key' = key from z]⟩
theorem denE_app : ∀ {es fs : List D} {kvs jvs : List (Key × V)}, DenE g H ι es kvs → DenE g H ι fs jvs → DenE g H ι (es ++ fs) (kvs ++ jvs)
  | [], fs, kvs, jvs, h, h2 => by simp only [DenE] at h; subst h; exact h2
  | e :: r, fs, kvs, jvs, h, h2 => by
    obtain ⟨key', x, v, t, rfl, rfl, a, b⟩ := denE_cons h
    exact denE_mk a (denE_app b h2)
theorem denE_map {key : Key} {y : D} {u : V} (d : Den g H ι y u) : ∀ {es : List D} {kvs : List (Key × V)}, DenE g H ι es kvs → DenE g H ι (es.map fun e => if keyOf e = kD key then .tup [keyOf e, y] else e) (kvs.map fun kv => if kv.1 = key then (kv.1, u) else kv)
  | [], kvs, h => by simp only [DenE] at h; subst h; simp [DenE]
  | e :: r, kvs, h => by
    obtain ⟨key', x, v, t, rfl, rfl, a, b⟩ := denE_cons h
    rw [List.map_cons, List.map_cons]
    by_cases hk : key' = key
    · subst hk
      rw [if_pos (show keyOf (.tup [kD key', x]) = kD key' from rfl), if_pos (show (key', v).1 = key' from rfl)]
      exact denE_mk d (denE_map d b)
    · have hk2 : keyOf (.tup [kD key', x]) ≠ kD key := fun z => hk (kD_inj z)
      rw [if_neg hk2, if_neg hk]
      exact denE_mk a (denE_map d b)
theorem denE_put {es : List D} {kvs : List (Key × V)} {key : Key} {y : D} {u : V} (h : DenE g H ι es kvs) (d : Den g H ι y u) : DenE g H ι (dput es (kD key) y) (putK kvs key u) := by
  unfold dput putK
  rw [denE_any h]
  split
  · exact denE_map d h
  · exact denE_app h (denE_mk d (by simp [DenE]))
def DctRd (g : Cfg) (H : Hp) (ι : Io) (a : Addr) (es : List D) : Prop :=
  (∃ kvs, Rd H a (.dK kvs) ∧ DenE g H ι es kvs) ∨ ∃ xs, Rd H a (GDo g.P g.w a xs) ∧ es ≠ [] ∧ DenG g H ι es xs
theorem DctAt.rd {a : Addr} {es : List D} (h : DctAt g H ι a es) : DctRd g H ι a es := by
  rcases h with ⟨kvs, h1, h2⟩ | ⟨xs, h1, h2, h3⟩
  · exact .inl ⟨kvs, .inl h1, h2⟩
  · exact .inr ⟨xs, .inl h1, h2, h3⟩
theorem Den.dctR {d : D} {v : V} {es : List D} (r : Rel g H ι m) (h : Den g H ι d v) (e : SV.dctR m d = some es) : ∃ a, v = .ref a ∧ DctRd g H ι a es := by
  cases d with
  | dct es' =>
    simp only [SV.dctR, Option.some.injEq] at e
    subst e
    simp only [Den] at h
    obtain ⟨a, rfl, _, h⟩ := h
    exact ⟨a, rfl, DctAt.rd h⟩
  | ref k =>
    simp only [SV.dctR] at e
    split at e
    · rename_i es' hm
      simp only [Option.some.injEq] at e
      subst e
      rcases r.at_ k _ hm with ⟨z, _⟩ | ⟨a, ha, md⟩
      · cases z
      · simp only [Den] at h
        exact ⟨a, h.2 a ha, DctAt.rd md⟩
    · rename_i es' hm
      simp only [Option.some.injEq] at e
      subst e
      rcases r.at_ k _ hm with ⟨z, _⟩ | ⟨a, ha, md⟩
      · cases z
      · simp only [Den] at h
        refine ⟨a, h.2 a ha, ?_⟩
        rcases md with ⟨o, kvs, h1, h2⟩ | ⟨o, xs, h1, h2, h3⟩
        · exact .inl ⟨kvs, .inr ⟨o, h1⟩, h2⟩
        · exact .inr ⟨xs, .inr ⟨o, h1⟩, h2, h3⟩
    · cases e
  | _ => cases e
theorem DctRd.dK {a : Addr} {es : List D} {k : D} (h : DctRd g H ι a es) (hk : kindOk es k = true) : ∃ kvs, Rd H a (.dK kvs) ∧ DenE g H ι es kvs := by
  rcases h with h | ⟨xs, _, ne, h⟩
  · exact h
  · exfalso
    cases es with
    | nil => exact ne rfl
    | cons e r =>
      simp only [kindOk, List.all_cons, Bool.and_eq_true] at hk
      obtain ⟨k', x, nk, b, v, t, rfl, _, hn, _⟩ := denG_cons h
      have h2 := hk.2.1
      simp only [keyOf] at h2
      cases k' <;> simp [keyK] at h2 <;> simp [nkT] at hn
/-- keys that are tuples -/
theorem DctRd.dG {a : Addr} {es : List D} (h : DctRd g H ι a es) (hk : es.all (fun e => keyT (keyOf e)) = true) : (es = [] ∧ Rd H a (.dK [])) ∨ ∃ xs, Rd H a (GDo g.P g.w a xs) ∧ DenG g H ι es xs := by
  rcases h with ⟨kvs, h1, h2⟩ | ⟨xs, h1, _, h2⟩
  · left
    cases es with
    | nil => simp only [DenE] at h2; subst h2; exact ⟨rfl, h1⟩
    | cons e r =>
      exfalso
      obtain ⟨key, x, v, t, rfl, _, _, _⟩ := denE_cons h2
      simp only [List.all_cons, Bool.and_eq_true] at hk
      have h3 := hk.1
      cases key <;> simp [keyOf, kD, keyT] at h3
  · exact .inr ⟨xs, h1, h2⟩
/-- .. the object and its entries -/
theorem DctRd.obj {P : Program} {wd : World} {h : Heap} {a : Addr} {es : List D} (hP : g.P = P) (hw : g.w = wd) (ok : HOk P wd H h) (hd : DctRd g H ι a es) (hk : es.all (fun e => keyT (keyOf e)) = true) :
    (a == sysModules) = false ∧ ∃ xs us, xs.length ≤ sizeLine ∧ DenG g H ι es xs ∧ Paired PG3 xs us ∧ h.DictOfH (nestedKind P wd) a us := by
  rcases hd.dG hk with ⟨rfl, h1⟩ | ⟨xs, h1, h2⟩
  · obtain ⟨h3, h4⟩ := gd_empty ok h1
    exact ⟨h3, [], [], Nat.zero_le _, by simp [DenG], .nil, h4⟩
  · subst hP hw
    obtain ⟨h3, h4, us, h5, h6⟩ := gd_dictH ok h1 h2 hk
    exact ⟨h3, xs, us, h4, h2, h5, h6⟩
/-- the key -/
theorem keyT_at {P : Program} {wd : World} {h : Heap} {k : D} {v : V} {vv : Value} (hk : keyT k = true) (ok : HOk P wd H h) (dn : Den g H ι k v) (rv : RelV v vv) : ∃ nk b, nkT k = some nk ∧ v = .ref b ∧ vv = .ref b ∧ (nestedKind P wd).is h nk b := by
  obtain ⟨nk, h1, h2⟩ := keyT_nk hk
  cases k with
  | tup xs =>
    obtain ⟨b, vs, rfl, _⟩ := dn.tuple
    cases rv
    exact ⟨nk, b, h1, rfl, rfl, nkT_is ok h1 dn, h2⟩
  | _ => simp [keyT] at hk
/-- what a dict with keys of the one or the other kind holds, for an operation -/
theorem DctRd.look {X : Cx} {pins : List (Addr × Obj)} {s : Shared} {σ : L2.St} {a : Addr} {es : List D} {k : D} {v : V} {vv : Value} (hP : g.P = X.prog) (hw : g.w = X.w) (I : Inv X pins σ H s) (hd : DctRd g H ι a es) (hk : kindT es k = true) (dn : Den g H ι k v) (rv : RelV v vv) :
    (a == sysModules) = false ∧ ∃ nk b us, vv = .ref b ∧ (nestedKind X.prog X.w).is s.heap nk b ∧ s.heap.DictOfH (nestedKind X.prog X.w) a us ∧
      ((dget es k = none ∧ atKey us nk = none) ∨ ∃ z v p, dget es k = some z ∧ atKey us nk = some p ∧ RelV v p.2 ∧ Den g H ι z v) := by
  simp only [kindT, Bool.and_eq_true] at hk
  obtain ⟨h1, xs, us, _, h3, h4, h5⟩ := hd.obj hP hw I.hok hk.2
  obtain ⟨nk, b, k1, rfl, rfl, k2⟩ := keyT_at hk.1 I.hok dn rv
  exact ⟨h1, nk, b, us, rfl, k2, h5, denG_get h3 h4 k1⟩
theorem IxR.imp {r r' : R2} (h : IxR X r) (k : ∀ x y H Q, r' x y H Q → r x y H Q) : IxR X r' := fun value slice pins s σ H x y v u Q I rx ry q hs => h value slice pins s σ H x y v u Q I rx ry (k x y H Q q) hs
theorem ixOf_N (j : Int) (n : Nat) : ixOf j n = ixN n j := by
  unfold ixOf ixN
  by_cases h : 0 ≤ j
  · simp [h]
  · simp only [if_neg h]
    by_cases h2 : 0 ≤ j + n
    · rw [if_pos h2, if_pos (by omega)]
    · rw [if_neg h2, if_neg (by omega)]
theorem ix_dict (hu : X.A.units + 1 < cLine) : IxR X (fun x y H Q => ∃ a v, x = .ref a ∧ DGet H a y (some v) ∧ Q v H) := by
  intro value slice pins s σ H x y v u Q I rx ry h hs
  obtain ⟨a, z, rfl, hg, q⟩ := h
  cases rx
  exact tail_any (dict_typeIs I hg) PySem.F.slot_dict_getitem.lookup (d_getItem hu I hg ry fun w' s3 I3 rw' => ⟨z, H, I3, rw', q⟩) hs
theorem IxR.or' {r r' r'' : R2} (h : IxR X r) (h' : IxR X r') (k : ∀ x y H Q, r'' x y H Q → r x y H Q ∨ r' x y H Q) : IxR X r'' := IxR.imp (IxR.or h h') k
/-- d[k], k a tuple -/
theorem ix_gd (hP : g.P = X.prog) (hw : g.w = X.w) (hu : X.A.units + 9 < cLine) : IxR X (fun x y H Q => ∃ ι a es k z, x = .ref a ∧ DctRd g H ι a es ∧ kindT es k = true ∧ Den g H ι k y ∧ dget es k = some z ∧ ∀ w, Den g H ι z w → Q w H) := by
  intro value slice pins s σ H x y v u Q I rx ry h hs
  obtain ⟨ι, a, es, k, z, rfl, hd, hk, dk, hz, q⟩ := h
  cases rx
  obtain ⟨h1, nk, b, us, rfl, k2, h5, h6⟩ := hd.look hP hw I hk dk ry
  rcases h6 with ⟨h7, _⟩ | ⟨z', w, p, h7, h8, h9, h10⟩
  · rw [h7] at hz; cases hz
  · rw [h7] at hz
    cases hz
    exact tail_any h5.typeIs PySem.F.slot_dict_getitem.lookup (wpAny_getItem_heap (show X.A.in1.units + 8 < cLine by rw [Around.in1_units]; omega) k2 h5 h8 ⟨w, H, I.tok _, h9, q w h10⟩) hs
theorem sub_S (hP : g.P = X.prog) (hw : g.w = X.w) (hK : g.K = X.K) (hu : X.A.units + 9 < cLine) : IxR X (rS g false subD) := by
  refine IxR.or' (IxR.or (ix_dict (by omega)) (ix_gd (g := g) hP hw hu)) ix_seq fun v u H Q q => ?_
  obtain ⟨ι, m, x, y, z, r, dx, dy, e, k⟩ := q
  unfold subD at e
  split at e
  · rename_i es he
    left
    obtain ⟨hk, e⟩ := gd_ok e
    obtain ⟨a, rfl, hd⟩ := dx.dctR r he
    cases hk1 : kindOk es y with
    | false =>
      right
      rw [hk1, Bool.false_or] at hk
      have h1 : dget es y = some z := by
        cases h : dget es y with
        | none => rw [h] at e; cases e
        | some zz => rw [h] at e; cases e; rfl
      exact ⟨ι, a, es, y, z, rfl, hd, hk, dy, h1, fun w dw => k w H ι (Le.refl _ _) r dw Nw.no⟩
    | true =>
    left
    obtain ⟨kvs, ha, hE⟩ := hd.dK hk1
    simp only [kindOk, Bool.and_eq_true] at hk1
    obtain ⟨key, rfl⟩ := keyK_key hk1.1
    rw [den_kV dy]
    rcases denE_get (key := key) hE with ⟨h1, _⟩ | ⟨z', v', h1, h2, h3⟩
    · rw [h1] at e; cases e
    · rw [h1] at e
      cases e
      exact ⟨a, v', rfl, by rw [← h2]; exact .inl ⟨kvs, key, ha, rfl, rfl⟩, k v' H ι (Le.refl _ _) r h3 Nw.no⟩
  · right
    unfold subSq at e
    split at e
    · rename_i sa j
      obtain ⟨hl, e⟩ := gd_ok e
      obtain ⟨n, h1, e⟩ := opt_ok e
      obtain ⟨cc, h2, e⟩ := opt_ok e
      cases e
      simp only [Den] at dx dy
      subst dx dy
      refine .inr (.inr ⟨_, _, cc, rfl, rfl, by rw [← sizeL_eq]; exact of_decide_eq_true hl, ?_, qs r k rfl⟩)
      unfold atI
      rw [← ixOf_N, h1]
      exact h2
    · rename_i x' j hne
      obtain ⟨xs, h1, e⟩ := opt_ok e
      obtain ⟨n, h2, e⟩ := opt_ok e
      cases h3 : xs[n]? with
      | none => rw [h3] at e; cases e
      | some zz =>
        rw [h3] at e
        cases e
        obtain ⟨a, vs, rfl, ha, dn⟩ := dx.seq r h1
        obtain ⟨v', hv, dv⟩ := dn.get h3
        simp only [Den] at dy
        subst dy
        have hat : atI vs j = some v' := by
          unfold atI
          rw [← ixOf_N, ← dn.length, h2]
          exact hv
        have q := k v' H ι (Le.refl _ _) r dv Nw.no
        rcases ha with ha | ha
        · exact .inl ⟨a, vs, j, v', rfl, rfl, SqL.of ha, hat, q⟩
        · exact .inr (.inl ⟨a, vs, j, v', rfl, rfl, SqT.of ha, hat, q⟩)
    · cases e
theorem in_Dc (hP : g.P = X.prog) (hw : g.w = X.w) (hK : g.K = X.K) (hu : X.A.units + 9 < cLine) : OpR X (compareOp .In) (rS g false fun m x y => match dctR m y with | some es => do gd (kindOk es x || kindT es x); .ok (.bl (dget es x).isSome) | none => .bad) := by
  intro pins s σ H v u vv uu Q I rx ry q
  obtain ⟨ι, m, x, y, z, r, dx, dy, e, k⟩ := q
  dsimp only at e
  split at e
  · rename_i es he
    obtain ⟨hk, e⟩ := gd_ok e
    cases e
    obtain ⟨a, rfl, hd⟩ := dy.dctR r he
    cases hk1 : kindOk es x with
    | false =>
      rw [hk1, Bool.false_or] at hk
      cases ry
      obtain ⟨h1, nk, b, us, rfl, k2, h5, h6⟩ := hd.look hP hw I hk dx rx
      refine wpAny_in_heap (show X.A.in1.units + 8 < cLine by rw [Around.in1_units]; omega) k2 h1 h5 ⟨.bl _, H, I.tok _, rfl, ?_⟩
      rcases h6 with ⟨h7, h8⟩ | ⟨z', w, p, h7, h8, _⟩
      · rw [h8]; exact qb r k (by rw [h7]; rfl)
      · rw [h8]; exact qb r k (by rw [h7]; rfl)
    | true =>
    obtain ⟨kvs, ha, hE⟩ := hd.dK hk1
    simp only [kindOk, Bool.and_eq_true] at hk1
    obtain ⟨key, rfl⟩ := keyK_key hk1.1
    rw [den_kV dx] at rx
    cases ry
    refine d_in (by omega) I (.inl ⟨kvs, key, ha, rfl, rfl⟩) rx fun s' I' => ⟨.bl _, H, I', rfl, ?_⟩
    rcases denE_get (key := key) hE with ⟨h1, h2⟩ | ⟨z', v', h1, h2, h3⟩
    · rw [h2]; exact qb r k (by rw [h1]; rfl)
    · rw [h2]; exact qb r k (by rw [h1]; rfl)
  · cases e
theorem notIn_Dc (hP : g.P = X.prog) (hw : g.w = X.w) (hK : g.K = X.K) (hu : X.A.units + 9 < cLine) : OpR X (compareOp .NotIn) (rS g false fun m x y => match dctR m y with | some es => do gd (kindOk es x || kindT es x); .ok (.bl (!(dget es x).isSome)) | none => .bad) := by
  intro pins s σ H v u vv uu Q I rx ry q
  obtain ⟨ι, m, x, y, z, r, dx, dy, e, k⟩ := q
  dsimp only at e
  split at e
  · rename_i es he
    obtain ⟨hk, e⟩ := gd_ok e
    cases e
    obtain ⟨a, rfl, hd⟩ := dy.dctR r he
    cases hk1 : kindOk es x with
    | false =>
      rw [hk1, Bool.false_or] at hk
      cases ry
      obtain ⟨h1, nk, b, us, rfl, k2, h5, h6⟩ := hd.look hP hw I hk dx rx
      refine wpAny_notIn_heap (show X.A.in1.units + 8 < cLine by rw [Around.in1_units]; omega) k2 h1 h5 ⟨.bl _, H, I.tok _, rfl, ?_⟩
      rcases h6 with ⟨h7, h8⟩ | ⟨z', w, p, h7, h8, _⟩
      · rw [h8]; exact qb r k (by rw [h7]; rfl)
      · rw [h8]; exact qb r k (by rw [h7]; rfl)
    | true =>
    obtain ⟨kvs, ha, hE⟩ := hd.dK hk1
    simp only [kindOk, Bool.and_eq_true] at hk1
    obtain ⟨key, rfl⟩ := keyK_key hk1.1
    rw [den_kV dx] at rx
    cases ry
    refine d_notIn (by omega) I (.inl ⟨kvs, key, ha, rfl, rfl⟩) rx fun s' I' => ⟨.bl _, H, I', rfl, ?_⟩
    rcases denE_get (key := key) hE with ⟨h1, h2⟩ | ⟨z', v', h1, h2, h3⟩
    · rw [h2]; exact qb r k (by rw [h1]; rfl)
    · rw [h2]; exact qb r k (by rw [h1]; rfl)
  · cases e
theorem in_S (hP : g.P = X.prog) (hw : g.w = X.w) (hK : g.K = X.K) (hu : X.A.units + 65 < cLine) : OpR X (compareOp .In) (rS g false fun m x y => cmpD m .In x y) :=
  rS_or in_Sg (rS_or (in_Dc hP hw hK (by omega)) (in_Sq hK hu) (f := fun m x y => match dctR m y with | some es => do gd (kindOk es x || kindT es x); .ok (.bl (dget es x).isSome) | none => inSq m x y) fun m x y z e => by
    split at e
    · rename_i es he; left; first | exact e | (simp only [he]; exact e)
    · exact .inr e) fun m x y z e => by
    simp only [cmpD] at e
    split at e
    · exact .inl e
    · exact .inr e
theorem notIn_S (hP : g.P = X.prog) (hw : g.w = X.w) (hK : g.K = X.K) (hu : X.A.units + 65 < cLine) : OpR X (compareOp .NotIn) (rS g false fun m x y => cmpD m .NotIn x y) :=
  rS_or (notIn_Dc hP hw hK (by omega)) (notIn_Sq hK hu) fun m x y z e => by
    simp only [cmpD] at e
    split at e
    · rename_i es he; left; first | exact e | (simp only [he]; exact e)
    · exact .inr e
end
end SV
set_option linter.all false
set_option Elab.async false
set_option maxRecDepth 100000
set_option maxHeartbeats 4000000
namespace SV
open PySem PySem.Spec PyProof.Rows L2
section
variable {X : Cx} {g : Cfg} {H : Hp} {ι : Io} {m : List MO}
theorem KV.valO {κ : Type} [DecidableEq κ] {kvs : List (κ × V)} {vs : List (κ × Value)} (r : KV kvs vs) (k : κ) : RelO (valV kvs k) (valueAt vs k) := r.val k
/-- the machine's answer, entry by entry -/
theorem hits_ints {A : Around} {s : Shared} {kvs : List (Key × V)} {vb : List (Key × Value)} (rb : KV kvs vb) {ks : List (Key × V)} {va : List (Key × Value)} (ra : KV ks va) :
    (∀ p ∈ kvs, ∃ i, p.2 = V.int i) → (∀ p ∈ ks, ∃ i, p.2 = V.int i) → PySem.W.KeqHits A s vb va (ks.all fun p => decide (valV kvs p.1 = some p.2)) := by
  intro hb
  have vb_int : ∀ k v, valV kvs k = some v → ∃ i, v = V.int i := by
    intro k v h
    clear rb
    induction kvs with
    | nil => cases h
    | cons p r ih =>
      by_cases e : p.1 = k
      · rw [valV_pos e] at h
        cases h
        exact hb p (by simp)
      · rw [valV_neg e] at h
        exact ih (fun q hq => hb q (List.mem_cons_of_mem _ hq)) h
  unfold KV at ra
  induction ra with
  | nil => intro _; exact .nil
  | @cons p q ps qs h t ih =>
    intro hp
    obtain ⟨h1, h2⟩ := h
    obtain ⟨i, hi⟩ := hp p List.mem_cons_self
    obtain ⟨k, v⟩ := q
    have h1' : p.1 = k := h1
    have ih := ih fun p' hm => hp p' (List.mem_cons_of_mem _ hm)
    have rr : RelO (valV kvs p.1) (valueAt vb p.1) := rb.val p.1
    rw [List.all_cons]
    have h2 : RelV p.2 v := h2
    rw [hi] at h2 ⊢
    obtain ⟨t1, rfl⟩ := h2
    cases e : valV kvs p.1 with
    | none =>
      rw [e] at rr
      have : valueAt vb k = none := by
        rw [← h1']
        cases e2 : valueAt vb p.1 with
        | none => rfl
        | some y => rw [e2] at rr; cases rr
      have z : decide ((none : Option V) = some (V.int i)) = false := by simp
      rw [z, Bool.false_and]
      exact .miss this
    | some y =>
      rw [e] at rr
      obtain ⟨u, hu, ru⟩ := rr.some_of
      obtain ⟨j, rfl⟩ := vb_int _ _ e
      obtain ⟨t2, rfl⟩ := ru
      rw [h1'] at hu
      have z : decide ((some (V.int j) : Option V) = some (V.int i)) = (i == j) := by
        rw [Bool.beq_eq_decide_eq, decide_eq_decide]
        simp only [Option.some.injEq, V.int.injEq]
        exact eq_comm
      rw [z]
      exact .hit hu (SeqAt.EqAt.int_int i t1 j t2) ih
def rDc : R2 := fun x y H Q => ∃ a b ks ls, x = .ref a ∧ y = .ref b ∧ H a = some (.dK ks) ∧ H b = some (.dK ls) ∧ ((ks = [] ∨ ls = []) ∧ Q (.bl (decide (ks = [] ∧ ls = []))) H ∨ (∀ p ∈ ks, ∃ i, p.2 = V.int i) ∧ (∀ p ∈ ls, ∃ i, p.2 = V.int i) ∧ Q (.bl (decide (ks.length = ls.length) && ks.all fun p => decide (valV ls p.1 = some p.2))) H)
def rDn : R2 := fun x y H Q => ∃ a b ks ls, x = .ref a ∧ y = .ref b ∧ H a = some (.dK ks) ∧ H b = some (.dK ls) ∧ ((ks = [] ∨ ls = []) ∧ Q (.bl (!(decide (ks = [] ∧ ls = [])))) H ∨ (∀ p ∈ ks, ∃ i, p.2 = V.int i) ∧ (∀ p ∈ ls, ∃ i, p.2 = V.int i) ∧ Q (.bl (!(decide (ks.length = ls.length) && ks.all fun p => decide (valV ls p.1 = some p.2)))) H)
theorem hits_nil {A : Around} {s : Shared} {va vb : List (Key × Value)} (h : va = [] ∨ vb = []) (hl : va.length = vb.length) : PySem.W.KeqHits A s vb va true := by
  have : va = [] := by
    rcases h with h | h
    · exact h
    · subst h; exact List.length_eq_zero_iff.mp hl
  subst this
  exact .nil
theorem op_eqDc (hu : X.A.units < cLine) : OpR X (compareOp .Eq) rDc := by
  intro pins s σ H x y v u Q I rx ry h
  obtain ⟨a, b, ks, ls, rfl, rfl, ea, eb, h⟩ := h
  obtain rfl : v = Value.ref a := rx
  obtain rfl : u = Value.ref b := ry
  obtain ⟨_, ya, va, ra, da⟩ := (show ObjOk X.prog X.w H s.heap a (.dK ks) from I.hok a _ ea)
  obtain ⟨_, yb, vb, rb, db⟩ := (show ObjOk X.prog X.w H s.heap b (.dK ls) from I.hok b _ eb)
  have la := ra.length
  have lb := rb.length
  rcases h with ⟨hn, q⟩ | ⟨h1, h2, q⟩
  · have hn2 : va = [] ∨ vb = [] := hn.imp (fun z => by subst z; exact List.length_eq_zero_iff.mp la.symm) fun z => by subst z; exact List.length_eq_zero_iff.mp lb.symm
    refine PySem.W.keq_eq (knd := mixKind X.prog X.w) (r := true) ya yb da db hu (fun hl => hits_nil hn2 hl) (fin_bl I q ?_)
    rw [← la, ← lb, Bool.and_true]
    rcases hn with rfl | rfl
    · cases ls <;> simp
    · cases ks <;> simp
  · refine PySem.W.keq_eq (knd := mixKind X.prog X.w) ya yb da db hu (fun _ => hits_ints rb ra h2 h1) (fin_bl I q ?_)
    rw [← la, ← lb]
    rfl
theorem op_neDc (hu : X.A.units < cLine) : OpR X (compareOp .NotEq) rDn := by
  intro pins s σ H x y v u Q I rx ry h
  obtain ⟨a, b, ks, ls, rfl, rfl, ea, eb, h⟩ := h
  obtain rfl : v = Value.ref a := rx
  obtain rfl : u = Value.ref b := ry
  obtain ⟨_, ya, va, ra, da⟩ := (show ObjOk X.prog X.w H s.heap a (.dK ks) from I.hok a _ ea)
  obtain ⟨_, yb, vb, rb, db⟩ := (show ObjOk X.prog X.w H s.heap b (.dK ls) from I.hok b _ eb)
  have la := ra.length
  have lb := rb.length
  rcases h with ⟨hn, q⟩ | ⟨h1, h2, q⟩
  · have hn2 : va = [] ∨ vb = [] := hn.imp (fun z => by subst z; exact List.length_eq_zero_iff.mp la.symm) fun z => by subst z; exact List.length_eq_zero_iff.mp lb.symm
    refine PySem.W.keq_ne (knd := mixKind X.prog X.w) (r := true) ya yb da db hu (fun hl => hits_nil hn2 hl) (fin_bl I q ?_)
    rw [← la, ← lb, Bool.and_true]
    rcases hn with rfl | rfl
    · cases ls <;> simp
    · cases ks <;> simp
  · refine PySem.W.keq_ne (knd := mixKind X.prog X.w) ya yb da db hu (fun _ => hits_ints rb ra h2 h1) (fin_bl I q ?_)
    rw [← la, ← lb]
    rfl
theorem denE_ints : ∀ {es : List D} {kvs : List (Key × V)}, DenE g H ι es kvs → es.all valI = true → ∀ p ∈ kvs, ∃ i, p.2 = V.int i
  | [], kvs, h, _, p, hp => by simp only [DenE] at h; subst h; cases hp
  | e :: r, kvs, h, ha, p, hp => by
    obtain ⟨key, x, v, t, rfl, rfl, d, h⟩ := denE_cons h
    simp only [List.all_cons, Bool.and_eq_true] at ha
    rcases List.mem_cons.mp hp with z | z
    · subst z
      cases x <;> try (cases ha.1; done)
      simp only [Den] at d
      exact ⟨_, d⟩
    · exact denE_ints h ha.2 p z
theorem dget_int : ∀ {b : List D} {k z : D}, b.all valI = true → dget b k = some z → ∃ i, z = .int i
  | [], k, z, _, h => by cases h
  | e :: r, k, z, ha, h => by
    simp only [List.all_cons, Bool.and_eq_true] at ha
    unfold dget at h
    split at h
    · rename_i h'; cases h'
    · rename_i a v r' h'
      cases h'
      split at h
      · cases h
        have h1 := ha.1
        cases z <;> try (cases h1; done)
        exact ⟨_, rfl⟩
      · exact dget_int ha.2 h
    · rename_i h'
      cases h'
      exact dget_int ha.2 h
theorem denE_same {b : List D} {ls : List (Key × V)} (hb : DenE g H ι b ls) (ib : b.all valI = true) : ∀ {a : List D} {ks : List (Key × V)}, DenE g H ι a ks → a.all valI = true →
    (a.all fun p => decide (dget b (keyOf p) = some (valO p))) = ks.all fun p => decide (valV ls p.1 = some p.2)
  | [], ks, h, _ => by simp only [DenE] at h; subst h; rfl
  | e :: r, ks, h, ha => by
    obtain ⟨key, x, v, t, rfl, rfl, d, h⟩ := denE_cons h
    simp only [List.all_cons, Bool.and_eq_true] at ha
    rw [List.all_cons, List.all_cons, denE_same hb ib h ha.2]
    congr 1
    cases x <;> try (cases ha.1; done)
    rename_i i
    simp only [Den] at d
    subst d
    show decide (dget b (kD key) = some (.int i)) = decide (valV ls key = some (.int i))
    rcases denE_get (key := key) hb with ⟨g1, g2⟩ | ⟨z, v, g1, g2, g3⟩
    · rw [g1, g2]; simp
    · rw [g1, g2, decide_eq_decide]
      have : ∃ j, v = V.int j := by
        refine denE_ints hb ib (key, v) ?_
        clear ib hb g1 g3
        induction ls with
        | nil => cases g2
        | cons p r ih =>
          by_cases e : p.1 = key
          · rw [valV_pos e] at g2
            cases g2
            rw [← e]
            simp
          · rw [valV_neg e] at g2
            exact List.mem_cons_of_mem _ (ih g2)
      obtain ⟨j, rfl⟩ := this
      obtain ⟨j', rfl⟩ := dget_int ib g1
      simp only [Den] at g3
      cases g3
      simp
def eqSc (m : List MO) (x y : D) : Out D := do .ok (.bl (← opt (eqDct m x y)))
def neSc (m : List MO) (x y : D) : Out D := do .ok (.bl (!(← opt (eqDct m x y))))
theorem eqDct_den {x y : D} {v u : V} {b : Bool} (r : Rel g H ι m) (dx : Den g H ι x v) (dy : Den g H ι y u) (h : eqDct m x y = some b) :
    ∃ a b' ks ls, v = .ref a ∧ u = .ref b' ∧ H a = some (.dK ks) ∧ H b' = some (.dK ls) ∧ ((ks = [] ∨ ls = []) ∧ decide (ks = [] ∧ ls = []) = b ∨ (∀ p ∈ ks, ∃ i, p.2 = V.int i) ∧ (∀ p ∈ ls, ∃ i, p.2 = V.int i) ∧ (decide (ks.length = ls.length) && ks.all fun p => decide (valV ls p.1 = some p.2)) = b) := by
  unfold eqDct at h
  split at h
  · rename_i a b' h1 h2
    split at h
    · rename_i hk
      simp only [Bool.and_eq_true] at hk
      obtain ⟨p, rfl, hp⟩ := dx.dctAt r h1
      obtain ⟨q, rfl, hq⟩ := dy.dctAt r h2
      obtain ⟨ks, k1, k2⟩ := hp.dK hk.1
      obtain ⟨ls, l1, l2⟩ := hq.dK hk.2
      have e1 := denE_length k2
      have e2 := denE_length l2
      have n1 : ks = [] ↔ a = [] := by rw [← List.length_eq_zero_iff, ← e1, List.length_eq_zero_iff]
      have n2 : ls = [] ↔ b' = [] := by rw [← List.length_eq_zero_iff, ← e2, List.length_eq_zero_iff]
      refine ⟨p, q, ks, ls, rfl, rfl, k1, l1, ?_⟩
      split at h
      · rename_i hn
        left
        cases h
        refine ⟨by rw [n1, n2]; exact hn, ?_⟩
        rw [decide_eq_decide, n1, n2]
      · split at h
        · rename_i hi
          right
          simp only [Bool.and_eq_true] at hi
          cases h
          refine ⟨denE_ints k2 hi.1, denE_ints l2 hi.2, ?_⟩
          rw [denE_same l2 hi.2 k2 hi.1, e1, e2]
        · cases h
    · cases h
  · cases h
theorem eq_Sc (hu : X.A.units < cLine) : OpR X (compareOp .Eq) (rS g false eqSc) :=
  rS_of (op_eqDc hu) fun H ι m x y v u z Q r dx dy e k => by
    obtain ⟨b, e, ez⟩ := opt_bl (f := fun b => b) e
    obtain ⟨a, b', ks, ls, h1, h2, h3, h4, h5⟩ := eqDct_den r dx dy e
    refine ⟨a, b', ks, ls, h1, h2, h3, h4, h5.imp (fun z => ⟨z.1, ?_⟩) fun z => ⟨z.1, z.2.1, ?_⟩⟩
    · rw [z.2]; exact qb r k ez
    · rw [z.2.2]; exact qb r k ez
theorem ne_Sc (hu : X.A.units < cLine) : OpR X (compareOp .NotEq) (rS g false neSc) :=
  rS_of (op_neDc hu) fun H ι m x y v u z Q r dx dy e k => by
    obtain ⟨b, e, ez⟩ := opt_bl (f := fun b => !b) e
    obtain ⟨a, b', ks, ls, h1, h2, h3, h4, h5⟩ := eqDct_den r dx dy e
    refine ⟨a, b', ks, ls, h1, h2, h3, h4, h5.imp (fun z => ⟨z.1, ?_⟩) fun z => ⟨z.1, z.2.1, ?_⟩⟩
    · rw [z.2]; exact qb r k ez
    · rw [z.2.2]; exact qb r k ez
end
end SV
set_option linter.all false
set_option Elab.async false
set_option maxRecDepth 100000
set_option maxHeartbeats 4000000
namespace SV
open PySem PySem.Spec PyProof.Rows L2
/-- the iterator J yields the items xs, whatever happens to the store -/
def ItOk (g : Cfg) (H : Hp) (ι : Io) (J : L2.It) (xs : List D) : Prop := ∀ H' ι', Le H ι H' ι' →
  J.stop xs.length H' ∧ ∀ (i : Nat) d, xs[i]? = some d → J.go i H' ∧ ∀ v H2, J.yld i H' v H2 → Le H' ι' H2 ι' ∧ (∀ m, Rel g H' ι' m → Rel g H2 ι' m ∧ Den g H2 ι' d v)
def iD (g : Cfg) (W : WX) (f : S → Out (List D × S)) : TI := fun σ H R => ∃ ι s, SR g H ι σ s ∧ OutP (f s) (fun p => ∀ J H' ι', Le H ι H' ι' → SR g H' ι' σ p.2 → ItOk g H' ι' J p.1 → R J H') (XC g W H ι σ)
theorem ItOk.le {g : Cfg} {H H' : Hp} {ι ι' : Io} {J : L2.It} {xs : List D} (h : ItOk g H ι J xs) (l : Le H ι H' ι') : ItOk g H' ι' J xs := fun H2 ι2 l2 => h H2 ι2 (l.trans l2)
section
variable {X : Cx} {g : Cfg} {c : Tc} {W : WX} {w : SV.W} {x : Str} {i : Nat} {pins : List (Addr × Obj)} {s : Shared} {σ : L2.St} {H : Hp} {ι : Io} {st : S} {CX : CXT} {k : Nat} {f : Addr} {m : List MO}
variable {a b d : Expr} {a' b' d' : Ex} {es : List Expr} {es' : Exs} {p p2 pos : Pos} {fra frb frd fr : Bool} {fa fb fd : S → Out (D × S)} {tg : Expr}
theorem itOk_seq {K : PySem.W.Frag} {J : L2.It} {p : Addr} {vs : List V} {xs : List D} (dn : DenL g H ι xs vs)
    (h1 : ∀ H' ι', Le H ι H' ι' → J.stop vs.length H' ∧ ∀ (i : Nat) v, vs[i]? = some v → J.go i H' ∧ ∀ v' H2, J.yld i H' v' H2 → H2 = H' ∧ v' = v) : ItOk g H ι J xs := fun H' ι' l => by
  obtain ⟨h2, h3⟩ := h1 H' ι' l
  refine ⟨by rw [dn.length]; exact h2, fun i d e => ?_⟩
  obtain ⟨v, hv, dv⟩ := dn.get e
  obtain ⟨h4, h5⟩ := h3 i v hv
  refine ⟨h4, fun v' H2 y => ?_⟩
  obtain ⟨rfl, rfl⟩ := h5 v' H2 y
  exact ⟨Le.refl _ _, fun m r => ⟨r, dv.le l⟩⟩
theorem it_tup {a : Addr} {K : PySem.W.Frag} {vs : List V} {xs : List D} (ha : ∀ H' ι', Le H ι H' ι' → SqT K H' a vs) (dn : DenL g H ι xs vs) : ItOk g H ι (Itt K a) xs :=
  itOk_seq (K := K) (p := a) dn fun H' ι' l => by
    have h1 := ha H' ι' l
    exact ⟨⟨vs, h1, Nat.le_refl _⟩, fun i v hv => ⟨⟨vs, v, h1, hv⟩, fun v' H2 y => ⟨y.1, by have := y.2 vs h1; rw [hv] at this; exact (Option.some.inj this).symm⟩⟩⟩
theorem it_list' {a : Addr} {K : PySem.W.Frag} {vs : List V} {xs : List D} (ha : ∀ H' ι', Le H ι H' ι' → SqL K H' a vs) (dn : DenL g H ι xs vs) : ItOk g H ι (Itl K a) xs :=
  itOk_seq (K := K) (p := a) dn fun H' ι' l => by
    have h1 := ha H' ι' l
    exact ⟨⟨vs, h1, Nat.le_refl _⟩, fun i v hv => ⟨⟨vs, v, h1, hv⟩, fun v' H2 y => ⟨y.1, by have := y.2 vs h1; rw [hv] at this; exact (Option.some.inj this).symm⟩⟩⟩
theorem denL_ints : ∀ xs : List Int, DenL g H ι (xs.map D.int) (xs.map V.int)
  | [] => by simp [DenL]
  | x :: r => DenL.cons (by simp only [Den]) (denL_ints r)
theorem signs_get {z : Str} {i : Nat} {d : D} (h : (signs z)[i]? = some d) : ∃ c, z.cps.toList[i]? = some c ∧ d = .str (strOf [c]) := by
  unfold signs at h
  rw [List.getElem?_map] at h
  cases e : z.cps.toList[i]? with
  | none => rw [e] at h; cases h
  | some c => rw [e] at h; cases h; exact ⟨c, rfl, rfl⟩
/-- a list, a tuple, a text, the law's script -/
theorem pi_valD (hgK : g.K = X.K) (ha : PE X a (tD g W fra (evE w a'))) : PI X tg a (iD g W (evI w (.val a'))) := by
  refine ⟨fun pins s σ H R I q => ?_⟩
  obtain ⟨ι, st, sr, o⟩ := q
  simp only [evI] at o
  have o := OutP.bnd o
  cases e : evE w a' st with
  | bad => rw [e] at o; exact o.elim
  | exc c d s' =>
    rw [e] at o
    refine (pi_list ha).run pins s σ H R I ⟨ι, st, sr, ?_⟩
    rw [e]
    exact o
  | ok pr =>
    obtain ⟨d, st'⟩ := pr
    rw [e] at o
    obtain ⟨xs, hx, o⟩ := OutP.opt.mp (OutP.bnd o)
    have o : ∀ J H' ι', Le H ι H' ι' → SR g H' ι' σ st' → ItOk g H' ι' J xs → R J H' := o
    cases d with
    | lst ys =>
      simp only [walkD, Option.some.injEq] at hx
      subst hx
      refine (pi_list ha).run pins s σ H R I ⟨ι, st, sr, ?_⟩
      rw [e]
      intro v H' ι' l sr' dn _
      simp only [Den] at dn
      obtain ⟨p, vs, rfl, ⟨hp, np⟩, dn⟩ := dn
      exact ⟨p, rfl, ⟨vs, SqL.of hp⟩, o _ H' ι' l sr' (it_list' (fun H2 ι2 l2 => SqL.of (l2.keep _ _ hp np rfl).1) dn)⟩
    | tup ys =>
      simp only [walkD, Option.some.injEq] at hx
      subst hx
      refine (pi_tup ha).run pins s σ H R I ⟨ι, st, sr, ?_⟩
      rw [e]
      intro v H' ι' l sr' dn _
      simp only [Den] at dn
      obtain ⟨p, vs, rfl, ⟨hp, np⟩, dn⟩ := dn
      exact ⟨p, rfl, ⟨vs, SqT.of hp⟩, o _ H' ι' l sr' (it_tup (fun H2 ι2 l2 => SqT.of (l2.keep _ _ hp np rfl).1) dn)⟩
    | scr ys =>
      simp only [walkD, Option.some.injEq] at hx
      subst hx
      refine (pi_list ha).run pins s σ H R I ⟨ι, st, sr, ?_⟩
      rw [e]
      intro v H' ι' l sr' dn _
      simp only [Den] at dn
      obtain ⟨p, rfl, dn⟩ := dn
      rcases dn with ⟨hp, np⟩ | dn
      · exact ⟨p, rfl, ⟨_, .inl hp⟩, o _ H' ι' l sr' (it_list' (fun H2 ι2 l2 => .inl (Rd.lx l2.lx hp np rfl).1) (denL_ints ys))⟩
      · exact ⟨p, rfl, ⟨_, .inr (hgK ▸ dn)⟩, o _ H' ι' l sr' (it_list' (fun H2 ι2 l2 => .inr (hgK ▸ dn)) (denL_ints ys))⟩
    | str z =>
      simp only [walkD, Option.some.injEq] at hx
      subst hx
      refine (pi_str ha).run pins s σ H R I ⟨ι, st, sr, ?_⟩
      rw [e]
      intro v H' ι' l sr' dn _
      simp only [Den] at dn
      refine ⟨z, dn, o _ H' ι' l sr' fun H2 ι2 l2 => ⟨?_, fun i d e => ?_⟩⟩
      · show z.cps.size ≤ (signs z).length
        simp [signs]
      · obtain ⟨c, h1, rfl⟩ := signs_get e
        have h2 : z.cps[i]? = some c := by simpa using h1
        refine ⟨(Array.getElem?_eq_some_iff.mp h2).1, fun v' H3 y => ?_⟩
        obtain ⟨rfl, c', h3, rfl⟩ := y
        rw [h2] at h3
        cases h3
        exact ⟨Le.refl _ _, fun m r => ⟨r, by simp only [Den]; rfl⟩⟩
    | _ => cases hx
theorem rangeL_get : ∀ (n : Nat) (a : Int) (st : Int) (i : Nat), (rangeL a n st)[i]? = if i < n then some (.int (a + i * st)) else none
  | 0, a, st, i => by simp [rangeL]
  | n + 1, a, st, 0 => by simp [rangeL]
  | n + 1, a, st, i + 1 => by
    simp only [rangeL, List.getElem?_cons_succ]
    rw [rangeL_get n (a + st) st i]
    by_cases h : i < n
    · rw [if_pos h, if_pos (by omega)]
      congr 2
      have : ((i + 1 : Nat) : Int) = (i : Int) + 1 := by omega
      rw [this, Int.add_mul, Int.one_mul]
      omega
    · rw [if_neg h, if_neg (by omega)]
theorem rangeL_length : ∀ (n : Nat) (a : Int) (st : Int), (rangeL a n st).length = n
  | 0, _, _ => rfl
  | n + 1, a, st => by simp [rangeL, rangeL_length n]
theorem it_rng {lo : Int} {n : Nat} : ItOk g H ι (Itr lo n) (rangeL lo n 1) := fun H' ι' l => by
  refine ⟨by rw [rangeL_length]; exact Nat.le_refl _, fun i d e => ?_⟩
  rw [rangeL_get] at e
  split at e
  · rename_i h
    cases e
    refine ⟨h, fun v H2 y => ?_⟩
    obtain ⟨rfl, rfl⟩ := y
    refine ⟨Le.refl _ _, fun m r => ⟨r, ?_⟩⟩
    simp only [Den]
    rw [Int.mul_one]
  · cases e
theorem pi_rng1 (hg : isGlob c "range" = true) (G : Gd X g c) (hm : X.mg "range" = none) (ha : PE X a (tD g W fra (evE w a'))) (h1 : noStar a = true) : PI X tg (.Call (.Name "range" p) [a] [] pos) (iD g W (evI w (.rng (.cons a' .nil)))) := by
  refine ⟨fun pins s σ H R I q => (pi_range1 (glob_ok G hg).1 hm (pa_cons ha pa_nil (starEach_one h1)) (starEach_one h1)).run pins s σ H R I ?_⟩
  obtain ⟨ι, st, sr, o⟩ := q
  simp only [evI, evEs] at o
  refine tD.then sr (OutP.bnd (OutP.bnd o)) (fun _ _ _ z => z) fun x s1 v H1 ι1 o1 l1 sr1 d1 nw1 => ?_
  clear nw1
  have o1 : OutP (rngD [x] >>= fun r => Out.ok (r, s1)) _ _ := o1
  have o1 := OutP.bnd o1
  cases x with
  | int n =>
    obtain ⟨hb, o1⟩ := OutP.gd.mp (OutP.bnd o1)
    have hb := of_decide_eq_true hb
    simp only [Den] at d1
    subst d1
    exact ⟨n, rfl, by omega, by omega, o1 _ H1 ι1 l1 sr1 it_rng⟩
  | _ => exact o1.elim
end
end SV
set_option linter.all false
set_option Elab.async false
set_option maxRecDepth 100000
set_option maxHeartbeats 4000000
namespace SV
open PySem PySem.Spec PyProof.Rows L2
open AutoSeq1 (wpAny_loadPart')
section
variable {X : Cx} {g : Cfg} {c : Tc} {W : WX} {w : SV.W} {x : Str} {i : Nat} {pins : List (Addr × Obj)} {s : Shared} {σ : L2.St} {H : Hp} {ι : Io} {st : S}
variable {a b d : Expr} {a' b' d' : Ex} {p pos tpos : Pos} {fra frb frd fr : Bool} {elts : List Expr} {kk : Nat}
end
end SV
namespace SV
open PySem PySem.Spec PyProof.Rows L2
section
variable {X : Cx} {g : Cfg} {c : Tc} {W : WX} {w : SV.W} {x : Str} {i : Nat} {pins : List (Addr × Obj)} {s : Shared} {σ : L2.St} {H : Hp} {ι : Io} {st : S}
variable {a b d : Expr} {a' b' d' : Ex} {p pos tpos : Pos} {fra frb frd fr : Bool} {elts : List Expr} {kk : Nat}
end
end SV
set_option linter.all false
set_option Elab.async false
set_option maxRecDepth 100000
set_option maxHeartbeats 4000000
namespace SV
open PySem PySem.Spec PyProof.Rows L2
/-- what is wanted behind a statement -/
def EndP (g : Cfg) (frr : Bool) (D : Ends) (H : Hp) (ι : Io) (p : Ctl × S) : Prop := match p.1 with
  | .nx => ∀ σ' H' ι', Le H ι H' ι' → SR g H' ι' σ' p.2 → D.nx σ' H'
  | .brk => ∀ σ' H' ι', Le H ι H' ι' → SR g H' ι' σ' p.2 → D.bk σ' H'
  | .cnt => ∀ σ' H' ι', Le H ι H' ι' → SR g H' ι' σ' p.2 → D.ct σ' H'
  | .ret d => ∀ v σ' H' ι', Le H ι H' ι' → SR g H' ι' σ' p.2 → Den g H' ι' d v → Nw frr g (fun H1 ι1 => Le H ι H1 ι1 ∧ SR g H1 ι1 σ' p.2) H' ι' d v → D.rt v H'
def tS (g : Cfg) (W : WX) (frr : Bool) (f : S → Out (Ctl × S)) : TS := fun D σ H => ∃ ι s, SR g H ι σ s ∧ OutP (f s) (EndP g frr D H ι) (XC g W H ι σ)
/-- a store into a target -/
def gD (g : Cfg) (W : WX) (f : D → S → Out S) : TG := fun v σ H Q => ∃ ι s d, SR g H ι σ s ∧ Den g H ι d v ∧ OutP (f d s) (fun s' => ∀ σ' H' ι', Le H ι H' ι' → SR g H' ι' σ' s' → Q σ' H') (XC g W H ι σ)
def gsD (g : Cfg) (W : WX) (f : List D → S → Out S) : TGs := fun vs σ H Q => ∃ ι s ds, SR g H ι σ s ∧ DenL g H ι ds vs ∧ OutP (f ds s) (fun s' => ∀ σ' H' ι', Le H ι H' ι' → SR g H' ι' σ' s' → Q σ' H') (XC g W H ι σ)
theorem PG.imp {X : Cx} {e : Expr} {t u : TG} (h : PG X e t) (k : ∀ v σ H Q, u v σ H Q → t v σ H Q) : PG X e u := ⟨fun pins s σ H v uu Q I r q => h.run pins s σ H v uu Q I r (k v σ H Q q)⟩
theorem PGs.imp {X : Cx} {e : List Expr} {t u : TGs} (h : PGs X e t) (k : ∀ v σ H Q, u v σ H Q → t v σ H Q) : PGs X e u := ⟨fun pins s σ H v uu Q I r q => h.run pins s σ H v uu Q I r (k v σ H Q q)⟩
section
variable {X : Cx} {g : Cfg} {c : Tc} {W : WX} {w : SV.W} {x : Str} {i : Nat} {pins : List (Addr × Obj)} {s : Shared} {σ σ' : L2.St} {H H' : Hp} {ι ι' : Io} {st st' : S} {D : Ends}
variable {a b d : Expr} {a' b' d' : Ex} {p pos tpos : Pos} {fra frb frd fr frr : Bool} {ex : Option (Nat × SV.D)}
theorem XC.any {c : Nat} {d : SV.D} {s : S} (h : XC g W H ι σ c d s) : XC g W H ι σ' c d s := h
theorem XC.on (l : Le H ι H' ι') {c : Nat} {d : SV.D} {s : S} (h : XC g W H ι σ c d s) : XC g W H' ι' σ' c d s := (h.mono l)
theorem EndP.on (l : Le H ι H' ι') {q : Ctl × S} (h : EndP g frr D H ι q) : EndP g frr D H' ι' q := by
  obtain ⟨cl, s⟩ := q
  cases cl with
  | nx => exact fun σ' H2 ι2 l2 r => h σ' H2 ι2 (l.trans l2) r
  | brk => exact fun σ' H2 ι2 l2 r => h σ' H2 ι2 (l.trans l2) r
  | cnt => exact fun σ' H2 ι2 l2 r => h σ' H2 ι2 (l.trans l2) r
  | ret d => exact fun v σ' H2 ι2 l2 r dn nw => h v σ' H2 ι2 (l.trans l2) r dn (nw.imp fun H3 ι3 z => ⟨l.trans z.1, z.2⟩)
theorem tS.on (l : Le H ι H' ι') {f : S → Out (Ctl × S)} (sr : SR g H' ι' σ' st) (o : OutP (f st) (EndP g frr D H ι) (XC g W H ι σ)) : tS g W frr f D σ' H' := ⟨ι', st, sr, o.mono (fun _ h => h.on l) fun _ _ _ h => h.on l⟩
theorem EnvDen.set {e : List (Option SV.D)} (h : EnvDen g H ι σ e) {d : SV.D} {v : V} (dn : Den g H ι d v) (i : Nat) : EnvDen g H ι (σ.set i (some v)) (e.set i (some d)) := by
  refine ⟨by simp [h.1], fun j d' q => ?_⟩
  by_cases hj : i = j
  · subst hj
    have hl : i < e.length := by
      have := (List.getElem?_eq_some_iff.mp q).1
      simpa using this
    rw [List.getElem?_set_self hl] at q
    cases q
    exact ⟨v, by rw [List.getElem?_set_self (by rw [h.1]; exact hl)], dn⟩
  · rw [List.getElem?_set_ne hj] at q
    obtain ⟨u, h1, h2⟩ := h.2 j d' q
    exact ⟨u, by rw [List.getElem?_set_ne hj]; exact h1, h2⟩
theorem pg_nameD (G : Gd X g c) (h : slotOf c x = some i) (hx : Loc X.env.scope x) (hf : X.fn x = true ∨ X.env.scope.names.lookup x = some .local) : PG X (.Name x pos) (gD g W (asg w (.name i))) :=
  PG.imp (pg_name G.nd (slot_ok G h).1 hx hf) fun v σ H Q q => by
    obtain ⟨ι, s, d, sr, dn, o⟩ := q
    simp only [asg] at o
    exact o _ H ι (Le.refl _ _) ⟨sr.1.set dn i, sr.2⟩
theorem pgs_nilD : PGs X [] (gsD g W (asgs w .nil)) := PGs.imp pgs_nil fun vs σ H Q q => by
  obtain ⟨ι, s, ds, sr, dn, o⟩ := q
  cases ds with
  | nil =>
    simp only [asgs] at o
    simp only [DenL] at dn
    exact ⟨dn, o σ H ι (Le.refl _ _) sr⟩
  | cons _ _ => exact o.elim
theorem assignEach_one {es : List Expr} {env : Env} (h : noStar a = true) : assignEach (a :: es) env = (false, assign a env) :: assignEach es env := by
  cases a <;> first | rfl | simp [noStar] at h
theorem pgs_consD {t : Tg} {ts : Tgs} {es : List Expr} (h1 : PG X a (gD g W (asg w t))) (h2 : PGs X es (gsD g W (asgs w ts))) (hs : noStar a = true) : PGs X (a :: es) (gsD g W (asgs w (.cons t ts))) :=
  PGs.imp (pgs_cons h1 h2 (by rw [assignEach_one hs]; rfl)) fun vs σ H Q q => by
    obtain ⟨ι, s, ds, sr, dn, o⟩ := q
    cases ds with
    | nil => exact o.elim
    | cons d ds =>
      simp only [asgs] at o
      simp only [DenL] at dn
      obtain ⟨v, r, rfl, d1, d2⟩ := dn
      refine ⟨v, r, rfl, ι, s, d, sr, d1, (OutP.bnd o).mono (fun s' hs' σ' H' ι' l r' => ?_) fun _ _ _ z => z⟩
      exact ⟨ι', s', ds, r', d2.le l, hs'.mono (fun s2 h2 σ2 H2 ι2 l2 r2 => h2 σ2 H2 ι2 (l.trans l2) r2) fun _ _ _ z => z.on l⟩
theorem assignEach_len {env : Env} : ∀ es : List Expr, es.all noStar = true → (assignEach es env).length = es.length ∧ (assignEach es env).findIdx? (·.1) = none
  | [], _ => ⟨rfl, rfl⟩
  | e :: r, h => by
    simp only [List.all_cons, Bool.and_eq_true] at h
    obtain ⟨h1, h2⟩ := assignEach_len (env := env) r h.2
    rw [assignEach_one h.1]
    refine ⟨by simp [h1], ?_⟩
    rw [List.findIdx?_cons]
    simp [h2]
theorem pg_tupD {k : Nat} {ts : Tgs} {es : List Expr} (G : Gd X g c) (hc : X.calm = true) (h : PGs X es (gsD g W (asgs w ts))) (hs : es.all noStar = true) (hn : es.length = tgN ts) : PG X (.Tuple es k pos) (gD g W (asg w (.tup ts))) := by
  refine ⟨fun pins s σ H v u Q I r q => ?_⟩
  obtain ⟨ι, st, d, sr, dn, o⟩ := q
  simp only [asg] at o
  obtain ⟨xs, hx, o⟩ := OutP.opt.mp (OutP.bnd o)
  obtain ⟨hl, o⟩ := OutP.gd.mp (OutP.bnd o)
  have hl := of_decide_eq_true hl
  obtain ⟨hl1, hl2⟩ := assignEach_len (env := X.env) es hs
  obtain ⟨p, vs, rfl, hp, dm⟩ := dn.seq sr.2 hx
  have hv : vs.length = es.length := by rw [← dm.length, hl, hn]
  rcases hp with hp | hp
  · exact (pg_unl (pos := pos) (k := k) hc h hl1 hl2).run pins s σ H (.ref p) u Q I r ⟨p, vs, rfl, SqL.of hp, hv, ι, st, xs, sr, dm, o⟩
  · exact (pg_tup (pos := pos) (k := k) hc h hl1 hl2).run pins s σ H (.ref p) u Q I r ⟨p, vs, rfl, SqT.of hp, hv, ι, st, xs, sr, dm, o⟩
theorem ps_exp {e : Expr} {e' : Ex} (he : PE X e (tD g W fra (evE w e'))) (hs : swapsWith e none pos.line X.env = pure false) : PS X (.Expr e pos) (tS g W frr (exS w ex (.exp e'))) :=
  PS.imp (ps_expr he hs) fun D σ H q => by
    obtain ⟨ι, st, sr, o⟩ := q
    simp only [exS] at o
    exact tD.then sr (OutP.bnd o) (fun _ _ _ z => z) fun x s1 v H1 ι1 o1 l1 sr1 d1 _ => o1 σ H1 ι1 l1 sr1
theorem ps_retD {e : Expr} {e' : Ex} (he : PE X e (tD g W frr (evE w e'))) : PS X (.Return (some e) pos) (tS g W frr (exS w ex (.ret e'))) :=
  PS.imp (ps_ret he) fun D σ H q => by
    obtain ⟨ι, st, sr, o⟩ := q
    simp only [exS] at o
    exact tD.then sr (OutP.bnd o) (fun _ _ _ z => z) fun x s1 v H1 ι1 o1 l1 sr1 d1 n1 => o1 v σ H1 ι1 l1 sr1 d1 n1
theorem pss_nilD : PSs X [] (tS g W frr (exSs w ex [])) :=
  PSs.imp pss_nil fun D σ H q => by
    obtain ⟨ι, st, sr, o⟩ := q
    simp only [exSs] at o
    exact o σ H ι (Le.refl _ _) sr
theorem OutP.seq {f : Sm} {r : List Sm} (h : OutP (exSs w ex (f :: r) st) (EndP g frr D H ι) (XC g W H ι σ)) :
    OutP (exS w ex f st) (fun p => match p.1 with | .nx => OutP (exSs w ex r p.2) (EndP g frr D H ι) (XC g W H ι σ) | _ => EndP g frr D H ι p) (XC g W H ι σ) := by
  simp only [exSs] at h
  cases e : exS w ex f st with
  | bad => rw [e] at h; exact h
  | exc c d s => rw [e] at h; exact h
  | ok p =>
    rw [e] at h
    obtain ⟨cl, s⟩ := p
    cases cl <;> exact h
theorem pss_consD {f : Sm} {r : List Sm} {s1 : Stmt} {ss : List Stmt} (h1 : PS X s1 (tS g W frr (exS w ex f))) (h2 : PSs X ss (tS g W frr (exSs w ex r))) : PSs X (s1 :: ss) (tS g W frr (exSs w ex (f :: r))) :=
  PSs.imp (pss_cons h1 h2) fun D σ H q => by
    obtain ⟨ι, st, sr, o⟩ := q
    refine ⟨ι, st, sr, (OutP.seq o).mono (fun p hp => ?_) fun _ _ _ z => z⟩
    obtain ⟨cl, s⟩ := p
    cases cl with
    | nx => exact fun σ' H' ι' l r => tS.on l r hp
    | brk => exact hp
    | cnt => exact hp
    | ret d => exact hp
theorem ps_ifD {e : Expr} {e' : Ex} {ba bb : List Stmt} {fa fb : List Sm} (hc : PT X e (tDb g W (bE (evE w e')))) (ha : PSs X ba (tS g W frr (exSs w ex fa))) (hb : PSs X bb (tS g W frr (exSs w ex fb))) : PS X (.If e ba bb pos) (tS g W frr (exS w ex (.ifs e' fa fb))) :=
  PS.imp (ps_if hc ha hb) fun D σ H q => by
    obtain ⟨ι, st, sr, o⟩ := q
    simp only [exS] at o
    have o1 : OutP (bE (evE w e') st) (fun p => OutP (if p.1 = true then exSs w ex fa p.2 else exSs w ex fb p.2) (EndP g frr D H ι) (XC g W H ι σ)) (XC g W H ι σ) := by
      rw [OutP.bE]
      exact (OutP.bnd o).mono (fun p q => (OutP.bnd q).mono (fun _ z => z) fun _ _ _ z => z) fun _ _ _ z => z
    refine tDb.then' sr o1 fun k s' H' ι' p l sr => ?_
    cases k with
    | true => simp only [if_true] at p ⊢; exact tS.on l sr p
    | false => simp only [Bool.false_eq_true, if_false] at p ⊢; exact tS.on l sr p
theorem ps_asgD {e tg : Expr} {e' : Ex} {t : Tg} (he : PE X e (tD g W fra (evE w e'))) (hg : PG X tg (gD g W (asg w t))) (hs : swapsWithSole [tg] e pos.line X.env = pure false) (hw : swappedStores [tg] e X.env = pure none)
    (h1 : noStar tg = true) : PS X (.Assign [tg] e pos) (tS g W frr (exS w ex (.asg t e'))) :=
  PS.imp (ps_asg he hg hs hw (by rw [assignEach_one h1]; rfl)) fun D σ H q => by
    obtain ⟨ι, st, sr, o⟩ := q
    simp only [exS] at o
    refine tD.then sr (OutP.bnd o) (fun _ _ _ z => z) fun x s1 v H1 ι1 o1 l1 sr1 d1 _ => ⟨ι1, s1, x, sr1, d1, (OutP.bnd o1).mono (fun s' hs' σ' H' ι' l r => ?_) fun _ _ _ z => z.on l1⟩
    exact hs' σ' H' ι' (l1.trans l) r
theorem forL_at {f : SV.D → S → Out (Ctl × S)} {xs : List SV.D} {P : Ctl × S → Prop} {E : Nat → SV.D → S → Prop} {i : Nat} {d : SV.D} (e : xs[i]? = some d) (h : OutP (forL f (xs.drop i) st) P E) :
    OutP (f d st) (fun p => match p.1 with | .nx => OutP (forL f (xs.drop (i + 1)) p.2) P E | .cnt => OutP (forL f (xs.drop (i + 1)) p.2) P E | .brk => P (.nx, p.2) | .ret d => P (.ret d, p.2)) E := by
  have hd : xs.drop i = d :: xs.drop (i + 1) := by
    obtain ⟨h1, h2⟩ := List.getElem?_eq_some_iff.mp e
    rw [List.drop_eq_getElem_cons h1, h2]
  rw [hd] at h
  simp only [forL] at h
  cases e : f d st with
  | bad => rw [e] at h; exact h
  | exc c d s => rw [e] at h; exact h
  | ok p =>
    rw [e] at h
    obtain ⟨cl, s⟩ := p
    cases cl <;> exact h
theorem ps_forD {tg it : Expr} {t : Tg} {i' : SV.It} {b : List Stmt} {fb : List Sm} (G : Gd X g c) (hc : X.calm = true) (hp : PassesOwn (model X.prog X.w) X.A X.env X.xe) (hi : PI X tg it (iD g W (evI w i'))) (hg : PG X tg (gD g W (asg w t))) (hb : PSs X b (tS g W frr (exSs w ex fb)))
    (hs : ∀ x, foldedSetIterable it X.env x = pure x) : PS X (.For tg it b [] pos) (tS g W frr (exS w ex (.for t i' fb))) :=
  PS.imp (ps_for hp hc hi hg hb hs) fun D σ H q => by
    obtain ⟨ι, st, sr, o⟩ := q
    simp only [exS] at o
    refine ⟨ι, st, sr, (OutP.bnd o).mono (fun pr hpr J H1 ι1 l1 sr1 hJ => ?_) fun _ _ _ z => z⟩
    obtain ⟨xs, s1⟩ := pr
    dsimp only at hpr sr1 hJ
    refine ⟨fun i m σ' H' => i + m = xs.length ∧ ∃ ι' s', Le H1 ι1 H' ι' ∧ SR g H' ι' σ' s' ∧ OutP (forL (fun d s => do let s ← asg w t d s; exSs w ex fb s) (xs.drop i) s') (EndP g frr D H ι) (XC g W H ι σ), ⟨xs.length, Nat.zero_add _, ι1, s1, Le.refl _ _, sr1, hpr⟩, ?_⟩
    rintro i m σ2 H2 ⟨hm, ι2, s2, l2, sr2, o2⟩
    obtain ⟨hstop, hgo⟩ := hJ H2 ι2 l2
    have l12 := l1.trans l2
    by_cases hi : i < xs.length
    · right
      obtain ⟨d, hd⟩ : ∃ d, xs[i]? = some d := ⟨xs[i], List.getElem?_eq_getElem hi⟩
      obtain ⟨g1, g2⟩ := hgo i d hd
      refine ⟨g1, _, fun σ' H' hN => hN, fun v H3 hy => ?_⟩
      obtain ⟨l3, h3⟩ := g2 v H3 hy
      obtain ⟨r3, dn⟩ := h3 s2.m sr2.2
      have sr3 : SR g H3 ι2 σ2 s2 := ⟨sr2.1.le l3, r3⟩
      have o3 := OutP.bnd (forL_at hd o2)
      have l13 := l12.trans l3
      refine ⟨ι2, s2, d, sr3, dn, o3.mono (fun s4 h4 σ4 H4 ι4 l4 sr4 => ?_) fun _ _ _ z => z.on l13⟩
      have l14 := l13.trans l4
      refine ⟨ι4, s4, sr4, h4.mono (fun p hp => ?_) fun _ _ _ z => z.on l14⟩
      obtain ⟨cl, s5⟩ := p
      cases cl with
      | nx => exact fun σ' H' ι' l r => ⟨m - 1, by omega, by omega, ι', s5, (l2.trans (l3.trans l4)).trans l, r, hp⟩
      | cnt => exact fun σ' H' ι' l r => ⟨m - 1, by omega, by omega, ι', s5, (l2.trans (l3.trans l4)).trans l, r, hp⟩
      | brk => exact fun σ' H' ι' l r => hp σ' H' ι' (l14.trans l) r
      | ret d => exact fun v σ' H' ι' l r dn nw => hp v σ' H' ι' (l14.trans l) r dn (nw.imp fun H3 ι3 z => ⟨l14.trans z.1, z.2⟩)
    · left
      have hi2 : i = xs.length := by omega
      subst hi2
      refine ⟨hstop, ?_⟩
      rw [List.drop_length] at o2
      simp only [forL] at o2
      exact o2 σ2 H2 ι2 l12 sr2
end
end SV
set_option linter.all false
set_option Elab.async false
set_option maxRecDepth 100000
set_option maxHeartbeats 4000000
namespace SV
open PySem PySem.Spec PyProof.Rows L2
section
variable {X : Cx} {g : Cfg} {c : Tc} {W : WX} {w : SV.W} {x : Str} {i : Nat} {pins : List (Addr × Obj)} {s : Shared} {σ σ' : L2.St} {H H' : Hp} {ι ι' : Io} {st st' : S} {D : Ends}
variable {a b d : Expr} {a' b' d' : Ex} {p pos tpos : Pos} {fra frb frd fr frr : Bool} {ex : Option (Nat × SV.D)} {CX : CXT} {k : Nat}
theorem denF_put {f : Nat} {y : SV.D} {u : V} (hf : f < 15) (dy : Den g H ι y u) : ∀ {fs : List (Nat × SV.D)} {vs : List (Str × V)}, DenF g H ι fs vs → DenF g H ι (fput fs f y) (putF (fname f) u vs)
  | [], vs, h => by simp only [DenF] at h; subst h; simp [fput, putF, DenF, dy]
  | (n, x) :: r, vs, h => by
    simp only [DenF] at h
    obtain ⟨v, t, rfl, a, b⟩ := h
    by_cases hn : n = f
    · subst hn
      simp only [fput, putF, if_true, DenF]
      exact ⟨u, t, rfl, dy, b⟩
    · have hne : fname n ≠ fname f := fun z => hn (fname_inj hf z)
      simp only [fput, putF, if_neg hn, if_neg hne, DenF]
      exact ⟨v, _, rfl, a, denF_put hf dy b⟩
theorem fput_length (fs : List (Nat × SV.D)) (f : Nat) (y : SV.D) : (fput fs f y).length ≤ fs.length + 1 := by
  induction fs with
  | nil => simp [fput]
  | cons p r ih =>
    obtain ⟨n, x⟩ := p
    simp only [fput]
    split <;> simp <;> omega
/-- a place of the store is written -/
theorem Le.wr {m : List MO} {k : Nat} {p : Addr} {o : HO} (r : Rel g H ι m) (e : ι[k]? = some (some p)) (mu : Mut (H p)) (nt : notT o = true := by rfl) : Le H ι (upd H p o) ι :=
  .full (fun a u h n => ⟨by rw [upd_ne (fun z => n (by subst z; exact List.mem_of_getElem? e))]; exact h, n⟩) (fun a o' h t => by
    by_cases z : a = p
    · subst z; exact ⟨o, upd_same, nt⟩
    · exact ⟨o', by rw [upd_ne z]; exact h, t⟩) (Nat.le_refl _) (fun _ _ => .inl rfl) (fun a o' u h => by
    by_cases z : a = p
    · subst z; rw [h] at mu; exact mu.elim
    · rw [upd_ne z]; exact h) nofresh
theorem Rel.wr {m : List MO} {k : Nat} {p : Addr} {o : HO} {mo : MO} (r : Rel g H ι m) (e : ι[k]? = some (some p)) (mu : Mut (H p)) (hm : MDen g (upd H p o) ι p mo) (nt : notT o = true := by rfl) : Rel g (upd H p o) ι (m.set k mo) := by
  have l : Le H ι (upd H p o) ι := Le.wr r e mu nt
  refine ⟨by simp [r.len], fun j mo' h => ?_, r.inj, r.tabW e fun b hb => upd_ne hb⟩
  by_cases hj : k = j
  · subst hj
    have hl : k < m.length := by
      have := (List.getElem?_eq_some_iff.mp h).1
      simpa using this
    rw [List.getElem?_set_self hl] at h
    cases h
    exact .inr ⟨p, e, hm⟩
  · rw [List.getElem?_set_ne hj] at h
    rcases r.at_ j mo' h with z | ⟨a, h1, h2⟩
    · exact .inl z
    · refine .inr ⟨a, h1, h2.le l fun u hu => ?_⟩
      rw [upd_ne (fun z => hj (r.inj k j p e (by rw [← z]; exact h1)))]
      exact hu
theorem ps_fldD {o e : Expr} {o' e' : Ex} {f : Nat} {nm : Str} (T : Fx X g W w CX k) (hm : fname f = nm) (ho : PE X o (tD g W fra (evE w o'))) (he : PE X e (tD g W frb (evE w e'))) (hK : g.K = X.K) (hs : swapsWith e (some (.Attribute o nm tpos)) pos.line X.env = pure false) :
    PS X (.Assign [.Attribute o nm tpos] e pos) (tS g W frr (exS w ex (.asg (.att o' f) e'))) :=
  PS.imp (ps_fld ho he hs) fun D σ H q => by
    obtain ⟨ι, st, sr, oo⟩ := q
    simp only [exS, asg] at oo
    refine tD.then sr (OutP.bnd oo) (fun _ _ _ z => z) fun y s1 v H1 ι1 o1 l1 sr1 d1 nw1 => ?_
    clear nw1
    refine tD.then sr1 (OutP.bnd (OutP.bnd o1)) (fun _ _ _ z => z.mono l1) fun x s2 u H2 ι2 o2 l2 sr2 d2 nw2 => ?_
    clear nw2
    have d1 := d1.le l2
    have l12 := l1.trans l2
    cases x with
    | ref j =>
      dsimp only at o2
      cases hmo : s2.m[j]? with
      | none => rw [hmo] at o2; exact o2.elim
      | some mo =>
        rw [hmo] at o2
        cases mo with
        | obj cl fs =>
          dsimp only at o2
          obtain ⟨hb, o2⟩ := OutP.gd.mp (OutP.bnd o2)
          simp only [Bool.and_eq_true] at hb
          have hl := of_decide_eq_true hb.2
          rcases sr2.2.at_ j _ hmo with ⟨z, _⟩ | ⟨p, hp, dx, fs', h1, h2, h3⟩
          · cases z
          · simp only [Den] at d2
            have e := d2.2 p hp
            subst e
            subst hm
            have hlen : fs'.length = fs.length := by
              have : ∀ {fs : List (Nat × SV.D)} {vs : List (Str × V)}, DenF g H2 ι2 fs vs → vs.length = fs.length := by
                intro fs
                induction fs with
                | nil => intro vs h; simp only [DenF] at h; subst h; rfl
                | cons q r ih => intro vs h; obtain ⟨n, x⟩ := q; simp only [DenF] at h; obtain ⟨v, t, rfl, _, b⟩ := h; simp [ih b]
              exact this h2
            have lw : Le H2 ι2 (upd H2 p (.ins (g.aC cl) dx (putF (fname f) v fs'))) ι2 := Le.wr sr2.2 hp (by rw [h1]; trivial)
            refine ⟨p, g.aC cl, dx, fs', rfl, h1, T.cls cl (hasF_lt hb.1).2, T.fld cl f hb.1, by omega, ?_⟩
            refine o2 σ _ ι2 (l12.trans lw) ⟨sr2.1.le lw, sr2.2.wr hp (by rw [h1]; trivial) ⟨dx, _, upd_same, (denF_put (hasF_lt hb.1).1 d1 h2).le lw, ?_⟩⟩
            have := fput_length fs f y
            omega
        | _ => exact o2.elim
    | _ => exact o2.elim
end
end SV
set_option linter.all false
set_option Elab.async false
set_option maxRecDepth 100000
set_option maxHeartbeats 4000000
namespace SV
open PySem PySem.Spec PyProof.Rows L2
section
variable {X : Cx} {g : Cfg} {c : Tc} {W : WX} {w : SV.W} {x : Str} {i : Nat} {pins : List (Addr × Obj)} {s : Shared} {σ σ' : L2.St} {H H' : Hp} {ι ι' : Io} {st st' : S} {D : Ends}
variable {a b d : Expr} {a' b' d' : Ex} {p pos tpos : Pos} {fra frb frd fr frr : Bool} {ex : Option (Nat × SV.D)} {CX : CXT} {k : Nat}
def tPut (g : Cfg) : TSet := fun o i v H Q => ∃ ι m x y d m', Rel g H ι m ∧ Den g H ι x o ∧ Den g H ι y i ∧ Den g H ι d v ∧ putD m x y d = .ok m' ∧ ∀ H', Le H ι H' ι → Rel g H' ι m' → Q H'
theorem put_ok (hP : g.P = X.prog) (hw : g.w = X.w) (hu : X.A.units + 9 < cLine) : PSet X (tPut g) := by
  intro pins s σ H o i v ov iv u Q I ro ri rv h
  obtain ⟨ι, m, x, y, d, m', r, dx, dy, dd, e, q⟩ := h
  cases x with
  | ref k =>
    simp only [putD] at e
    cases hm : m[k]? with
    | none => rw [hm] at e; cases e
    | some mo =>
      rw [hm] at e
      rcases r.at_ k mo hm with ⟨z, _⟩ | ⟨p, hp, md⟩
      · subst z; cases e
      · have eo : o = .ref p := by simp only [Den] at dx; exact dx.2 p hp
        subst eo
        cases mo with
        | lst ys =>
          cases y with
          | int j =>
            obtain ⟨n, h1, e⟩ := opt_ok e
            cases e
            obtain ⟨vs, h2, h3⟩ := md
            simp only [Den] at dy
            subst dy
            refine set_list pins s σ H (.ref p) (.int j) v ov iv u Q I ro ri rv ⟨p, vs, j, n, rfl, rfl, h2, by rw [← ixOf_N, ← h3.length]; exact h1, ?_⟩
            have lw : Le H ι (upd H p (.lst (vs.set n v))) ι := Le.wr r hp (by rw [h2]; trivial)
            exact q _ lw (r.wr hp (by rw [h2]; trivial) ⟨_, upd_same, (h3.set n dd).le lw⟩)
          | _ => cases e
        | dct es =>
          obtain ⟨hb, e⟩ := gd_ok e
          cases e
          simp only [Bool.and_eq_true] at hb
          have hd : DctAt g H ι p es := md
          cases hk1 : kindOk es y with
          | false =>
            rw [hk1, Bool.false_or] at hb
            have hl : es.length < sizeLine := by rw [← sizeL_eq]; exact of_decide_eq_true hb.2
            have hkT := hb.1
            simp only [kindT, Bool.and_eq_true] at hkT
            obtain ⟨nk, b, k1, rfl, rfl, k2⟩ := keyT_at hkT.1 I.hok dy ri
            cases ro
            have key : (p == sysModules) = false ∧ ∃ xs us, Mut (H p) ∧ DenG g H ι es xs ∧ Paired PG3 xs us ∧ s.heap.DictOfH (nestedKind X.prog X.w) p us := by
              rcases hd with ⟨kvs, h2, h3⟩ | ⟨xs, h2, _, h3⟩
              · have he : es = [] ∧ kvs = [] := by
                  cases es with
                  | nil => simp only [DenE] at h3; exact ⟨rfl, h3⟩
                  | cons e r =>
                    exfalso
                    obtain ⟨key, x, v, t, rfl, _, _, _⟩ := denE_cons h3
                    have h4 := hkT.2
                    simp only [List.all_cons, Bool.and_eq_true] at h4
                    have h5 := h4.1
                    cases key <;> simp [keyOf, kD, keyT] at h5
                obtain ⟨rfl, rfl⟩ := he
                obtain ⟨h4, h5⟩ := gd_empty I.hok (.inl h2)
                exact ⟨h4, [], [], by rw [h2]; trivial, by simp [DenG], .nil, h5⟩
              · obtain ⟨h4, h5, us, h6, h7⟩ := gd_dictH (g := g) I.hok (.inl (by rw [← hP, ← hw]; exact h2)) h3 hkT.2
                exact ⟨h4, xs, us, by rw [h2]; trivial, h3, h6, h7⟩
            obtain ⟨h4, xs, us, mu, h5, h6, h7⟩ := key
            have hz : us.length ≤ sizeLine := by
              have e1 := denG_length h5
              have e2 := congrArg List.length (paired_fst h6)
              simp only [List.length_map] at e2
              omega
            have hz2 : (putGx xs nk b v).length ≤ sizeLine := by
              have e1 := denG_length h5
              unfold putGx
              split
              · rw [List.length_map]; omega
              · rw [List.length_append]; simp only [List.length_cons, List.length_nil]; omega
            have lw : Le H ι (upd H p (GDo g.P g.w p (putGx xs nk b v))) ι := Le.wr r hp mu
            have hp1 := put_pair (k := nk) (a := b) h6 rv
            refine wpAny_setItem_heap (hsz := hz) (show X.A.in1.units + 8 < cLine by rw [Around.in1_units]; omega) k2 h7 fun h' hm' hs' => ⟨_, ?_, q _ lw (r.wr hp mu (.inr ⟨_, upd_same, ?_, (denG_put h5 k1 dy dd).le lw⟩))⟩
            · rw [hP, hw]
              exact d_write I mu hs' (let ⟨o, _, _, ho, _⟩ := hm'; ⟨o, ho⟩) (gd_new h4 hz2 hp1 hm')
            · unfold dput
              split
              · intro z
                have := congrArg List.length z
                rename_i hc
                simp only [List.length_map, List.length_nil] at this
                have he : es = [] := List.length_eq_zero_iff.mp this
                subst he
                simp at hc
              · simp
          | true =>
          obtain ⟨kvs, h2, h3⟩ := hd.dK hk1
          have hk := hk1
          simp only [kindOk, Bool.and_eq_true] at hk
          obtain ⟨key, rfl⟩ := keyK_key hk.1
          rw [den_kV dy] at ri
          cases ro
          have hl : kvs.length < sizeLine := by rw [← denE_length h3, ← sizeL_eq]; exact of_decide_eq_true hb.2
          have lw : Le H ι (upd H p (.dK (putK kvs key v))) ι := Le.wr r hp (by rw [h2]; trivial)
          refine d_setItem (H' := upd H p (.dK (putK kvs key v))) (by omega) I (DPut.k h2 hl) ri rv fun s' I' => ⟨_, I', q _ lw (r.wr hp (by rw [h2]; trivial) (.inl ⟨_, upd_same, (denE_put h3 dd).le lw⟩))⟩
        | obj c fs => cases e
        | dead => cases e
        | lkl _ => cases e
        | lkd _ => cases e
  | _ => cases e
def noSlice : Expr → Bool
  | .Slice .. => false
  | _ => true
theorem putD_calm {m : List MO} {x y d : SV.D} : ∀ c e s, putD m x y d ≠ .exc c e s := by
  intro c e s
  unfold putD
  split
  · split
    · split
      · exact calm_bind (fun _ _ _ _ z => by cases z) c e s
      · intro z; cases z
    · exact calm_gd (fun _ _ _ z => by cases z) c e s
    · intro z; cases z
  · intro z; cases z
theorem pg_subD (hP : g.P = X.prog) (hw : g.w = X.w) (hu : X.A.units + 9 < cLine) (ha : PE X a (tD g W fra (evE w a'))) (hb : PE X b (tD g W frb (evE w b'))) (hs : noSlice b = true) : PG X (.Subscript a b pos) (gD g W (asg w (.sub a' b'))) :=
  PG.imp (pg_sub ha hb (put_ok (g := g) hP hw hu) (by cases b <;> first | (intro v; rfl) | simp [noSlice] at hs)) fun v σ H Q q => by
    obtain ⟨ι, st, d, sr, dn, o⟩ := q
    simp only [asg] at o
    refine tD.then sr (OutP.bnd o) (fun _ _ _ z => z) fun x s1 u H1 ι1 o1 l1 sr1 d1 nw1 => ?_
    clear nw1
    refine tD.then sr1 (OutP.bnd o1) (fun _ _ _ z => z.mono l1) fun y s2 u2 H2 ι2 o2 l2 sr2 d2 nw2 => ?_
    clear nw2
    have o2 := OutP.bnd o2
    have l12 := l1.trans l2
    cases e : putD s2.m x y d with
    | bad => rw [e] at o2; exact o2.elim
    | exc c d s => exact absurd e (putD_calm _ _ _)
    | ok m' =>
      rw [e] at o2
      exact ⟨ι2, s2.m, x, y, d, m', sr2.2, d1.le l2, d2, dn.le l12, e, fun H' l r => o2 σ H' ι2 (l12.trans l) ⟨sr2.1.le l, r⟩⟩
theorem ps_parD {x y : Str} {i j : Nat} {a b : Expr} {a' b' : Ex} {px py pt : Pos} {kt k2 pt2} (G : Gd X g c) (hc : X.calm = true) (hx : slotOf c x = some i) (hy : slotOf c y = some j) (hij : i ≠ j) (lx : X.env.scope.names.lookup x = some .local) (ly : X.env.scope.names.lookup y = some .local)
    (ha : PE X a (tD g W fra (evE w a'))) (hb : PE X b (tD g W frb (evE w b'))) (na : noStar a = true) (nb : noStar b = true)
    (hw : swappedStores [.Tuple [.Name x px, .Name y py] kt pt] (.Tuple [a, b] k2 pt2) X.env = pure (some [x, y])) :
    PS X (.Assign [.Tuple [.Name x px, .Name y py] kt pt] (.Tuple [a, b] k2 pt2) pos) (tS g W frr (exS w ex (.par (.cons (.name i) (.cons (.name j) .nil)) (.cons a' (.cons b' .nil))))) :=
  PS.imp (ps_par hc G.nd (slot_ok G hx).1 (slot_ok G hy).1 hij lx ly (pa_cons ha (pa_cons hb pa_nil (starEach_one nb)) (starEach_one na)) hw rfl) fun D σ H q => by
    obtain ⟨ι, st, sr, o⟩ := q
    simp only [exS, evEs] at o
    refine tD.then sr (OutP.bnd (OutP.bnd o)) (fun _ _ _ z => z) fun d1 s1 v H1 ι1 o1 l1 sr1 dn1 nw1 => ?_
    clear nw1
    refine tD.then sr1 (OutP.bnd (OutP.bnd o1)) (fun _ _ _ z => z.mono l1) fun d2 s2 u H2 ι2 o2 l2 sr2 dn2 nw2 => ?_
    clear nw2
    have l12 := l1.trans l2
    refine ⟨v, u, rfl, ?_⟩
    have o3 : EndP g frr D H ι (.nx, ⟨(s2.e.set i (some d1)).set j (some d2), s2.m⟩) := o2
    exact o3 _ H2 ι2 l12 ⟨(sr2.1.set (dn1.le l2) i).set dn2 j, sr2.2⟩
end
end SV
set_option linter.all false
set_option Elab.async false
set_option maxRecDepth 100000
set_option maxHeartbeats 4000000
namespace SV
open PySem PySem.Spec PyProof.Rows L2
theorem OutP.noX' {α : Type} {o : Out α} {P : α → Prop} {E E' : Nat → D → S → Prop} (h : OutP (SV.noX o) P E) : OutP o P E' := by
  cases o with
  | ok a => exact h
  | exc c d s => exact h.elim
  | bad => exact h.elim
/-- what is wanted within a comprehension of exceptions: none -/
abbrev W0 : WX := fun _ _ _ _ => False
/-- a store into names alone: the other slots stay -/
def gW (g : Cfg) (own : List Nat) (f : D → S → Out S) : TG := fun v σ H Q => ∃ ι s d, SR g H ι σ s ∧ Den g H ι d v ∧ OutP (f d s) (fun s' => ∀ σ' H' ι', Le H ι H' ι' → SR g H' ι' σ' s' → wipe σ' own = wipe σ own → Q σ' H') (fun _ _ _ => False)
theorem wipe_get : ∀ {vs : List Nat} {σ : L2.St} {j : Nat}, (wipe σ vs)[j]? = if j ∈ vs then (σ[j]?).map fun _ => none else σ[j]?
  | [], σ, j => by simp [wipe]
  | v :: vs, σ, j => by
    simp only [wipe]
    by_cases h : v = j
    · subst h
      rw [if_pos (List.mem_cons_self ..)]
      by_cases hl : v < σ.length
      · rw [List.getElem?_set_self (by rw [wipe_length]; exact hl), List.getElem?_eq_getElem hl]
        rfl
      · rw [List.getElem?_eq_none (by rw [List.length_set, wipe_length]; omega), List.getElem?_eq_none (by omega)]
        rfl
    · rw [List.getElem?_set_ne h, wipe_get (vs := vs)]
      have : j ∈ v :: vs ↔ j ∈ vs := by simp [Ne.symm h]
      simp only [this]
theorem wipe_set {σ : L2.St} {own : List Nat} {i : Nat} {v : Option V} (h : i ∈ own) : wipe (σ.set i v) own = wipe σ own := by
  apply List.ext_getElem?
  intro j
  rw [wipe_get, wipe_get]
  by_cases hj : j ∈ own
  · rw [if_pos hj, if_pos hj]
    by_cases e : i = j
    · subst e
      by_cases hl : i < σ.length
      · rw [List.getElem?_set_self hl, List.getElem?_eq_getElem hl]; rfl
      · rw [List.getElem?_eq_none (by simp; omega), List.getElem?_eq_none (by omega)]
    · rw [List.getElem?_set_ne e]
  · rw [if_neg hj, if_neg hj, List.getElem?_set_ne (fun e => hj (by rw [← e]; exact h))]
section
variable {X : Cx} {g : Cfg} {c : Tc} {W : WX} {w : SV.W} {x : Str} {i : Nat} {pins : List (Addr × Obj)} {s : Shared} {σ σ' : L2.St} {H H' : Hp} {ι ι' : Io} {st st' : S}
variable {a b d : Expr} {a' b' d' : Ex} {p pos tpos : Pos} {fra frb frd fr : Bool} {own : List Nat} {es : List Expr} {t : Tg} {ts : Tgs}
theorem pg_nameW (G : Gd X g c) (h : slotOf c x = some i) (hi : i ∈ own) (hx : Loc X.env.scope x) (hf : X.fn x = true ∨ X.env.scope.names.lookup x = some .local) : PG X (.Name x pos) (gW g own (asg w (.name i))) :=
  PG.imp (pg_name G.nd (slot_ok G h).1 hx hf) fun v σ H Q q => by
    obtain ⟨ι, s, d, sr, dn, o⟩ := q
    simp only [asg] at o
    exact o _ H ι (Le.refl _ _) ⟨sr.1.set dn i, sr.2⟩ (wipe_set hi)
/-- tests of a clause: none or one -/
theorem pts_nilD : PTs X [] (tDb g W (evA w .nil)) := ⟨fun pins s σ H Q I q => pts_nil.run pins s σ H Q I (by
  obtain ⟨ι, st, sr, o⟩ := q
  simp only [evA] at o
  exact o H ι (Le.refl _ _) sr)⟩
theorem pts_oneD (h : PT X a (tDb g W (bE (evE w a')))) : PTs X [a] (tDb g W (evA w (.cons a' .nil))) := ⟨fun pins s σ H Q I q => (pts_one h).run pins s σ H Q I (by
  obtain ⟨ι, st, sr, o⟩ := q
  simp only [evA] at o
  refine ⟨ι, st, sr, ?_⟩
  rw [OutP.bE]
  refine (OutP.bnd o).mono (fun p q => ?_) fun _ _ _ z => z
  refine (OutP.bnd q).mono (fun k q => ?_) fun _ _ _ z => z
  cases k with
  | true => exact q
  | false => exact q)⟩
/-- the slots of a block, forgotten -/
theorem foldl_set {v : Nat → Option D} : ∀ {own : List Nat} {e : List (Option D)} {j : Nat}, (own.foldl (fun e i => e.set i (v i)) e)[j]? = if j ∈ own then (e[j]?).map (fun _ => v j) else e[j]?
  | [], e, j => by simp
  | i :: own, e, j => by
    rw [List.foldl_cons, foldl_set (own := own)]
    by_cases h : i = j
    · subst h
      rw [if_pos (List.mem_cons_self ..)]
      by_cases hl : i < e.length
      · rw [List.getElem?_set_self hl, List.getElem?_eq_getElem hl]
        split <;> rfl
      · rw [List.getElem?_eq_none (by simp; omega), List.getElem?_eq_none (by omega)]
        split <;> rfl
    · rw [List.getElem?_set_ne h]
      have : j ∈ i :: own ↔ j ∈ own := by simp [Ne.symm h]
      simp only [this]
theorem foldl_len {v : Nat → Option D} : ∀ {own : List Nat} {e : List (Option D)}, (own.foldl (fun e i => e.set i (v i)) e).length = e.length
  | [], e => rfl
  | i :: own, e => by rw [List.foldl_cons, foldl_len (own := own), List.length_set]
theorem EnvDen.wipeS {s : S} (h : EnvDen g H ι σ s.e) : EnvDen g H ι (wipe σ own) (SV.wipeS own s).e := by
  refine ⟨by rw [wipe_length]; unfold SV.wipeS; rw [foldl_len (v := fun _ => none)]; exact h.1, fun j d q => ?_⟩
  unfold SV.wipeS at q
  rw [foldl_set (v := fun _ => none)] at q
  by_cases hj : j ∈ own
  · rw [if_pos hj] at q
    cases e : s.e[j]? with
    | none => rw [e] at q; cases q
    | some o => rw [e] at q; cases q
  · rw [if_neg hj] at q
    obtain ⟨v, h1, h2⟩ := h.2 j d q
    exact ⟨v, by rw [wipe_get, if_neg hj]; exact h1, h2⟩
theorem wipe_wipe : wipe (wipe σ own) own = wipe σ own := by
  apply List.ext_getElem?
  intro j
  rw [wipe_get]
  by_cases hj : j ∈ own
  · rw [if_pos hj, wipe_get, if_pos hj]; cases σ[j]? <;> rfl
  · rw [if_neg hj]
theorem EnvDen.backS {s0 s1 : S} (h0 : EnvDen g H ι σ s0.e) (h1 : EnvDen g H' ι' (wipe σ own) (SV.wipeS own s1).e) (l : Le H ι H' ι') : EnvDen g H' ι' σ (SV.backS own s0 s1).e := by
  have hl : σ.length = s1.e.length := by
    have := h1.1
    rw [wipe_length] at this
    unfold SV.wipeS at this
    rw [foldl_len (v := fun _ => none)] at this
    exact this
  refine ⟨by unfold SV.backS; rw [foldl_len (v := fun i => (s0.e[i]?).getD none)]; exact hl, fun j d q => ?_⟩
  unfold SV.backS at q
  rw [foldl_set (v := fun i => (s0.e[i]?).getD none)] at q
  by_cases hj : j ∈ own
  · rw [if_pos hj] at q
    cases e : s1.e[j]? with
    | none => rw [e] at q; cases q
    | some o =>
      rw [e] at q
      simp only [Option.map_some, Option.some.injEq] at q
      cases e0 : s0.e[j]? with
      | none => rw [e0] at q; cases q
      | some o0 =>
        rw [e0] at q
        simp only [Option.getD_some] at q
        subst q
        obtain ⟨v, a1, a2⟩ := h0.2 j d e0
        exact ⟨v, a1, a2.le l⟩
  · rw [if_neg hj] at q
    have q2 : (SV.wipeS own s1).e[j]? = some (some d) := by
      unfold SV.wipeS
      rw [foldl_set (v := fun _ => none), if_neg hj]
      exact q
    obtain ⟨v, a1, a2⟩ := h1.2 j d q2
    rw [wipe_get, if_neg hj] at a1
    exact ⟨v, a1, a2⟩
theorem lcL_at {f : D → S → Out S} {xs : List D} {P : S → Prop} {E : Nat → D → S → Prop} {i : Nat} {d : D} (e : xs[i]? = some d) (h : OutP (lcL f (xs.drop i) st) P E) : OutP (f d st) (fun s => OutP (lcL f (xs.drop (i + 1)) s) P E) E := by
  have hd : xs.drop i = d :: xs.drop (i + 1) := by
    obtain ⟨h1, h2⟩ := List.getElem?_eq_some_iff.mp e
    rw [List.drop_eq_getElem_cons h1, h2]
  rw [hd] at h
  simp only [lcL] at h
  cases e : f d st with
  | bad => rw [e] at h; exact h
  | exc c d s => rw [e] at h; exact h
  | ok p => rw [e] at h; exact h
/-- the new list's place, later on -/
theorem placeAt {k : Nat} {p : Addr} {m : List MO} {mo : MO} (l : Le H (ι ++ [some p]) H' ι') (hk : ι.length = k) (r : Rel g H' ι' m) (e : m[k]? = some mo) (hd : mo ≠ .dead) : ι'[k]? = some (some p) ∧ MDen g H' ι' p mo := by
  have h1 := l.same k (by simp; omega)
  rw [List.getElem?_append_right (by omega), ← hk, Nat.sub_self] at h1
  simp only [List.getElem?_cons_zero] at h1
  rcases r.at_ k mo e with ⟨z, _⟩ | ⟨a, h2, h3⟩
  · exact absurd z hd
  · rw [← hk] at h2
    rcases h1 with z | z
    · rw [z] at h2
      cases h2
      rw [← hk]
      exact ⟨z, h3⟩
    · rw [z] at h2; cases h2
/-- a turn of a comprehension -/
def lcF (w : SV.W) (own : List Nat) (t : Tg) (ifs : Exs) (e : Ex) (k : Nat) : D → S → Out S := fun x s => SV.noX (do
  let s ← asg w t x (wipeS own s)
  let (b, s) ← evA w ifs s
  if b then do
    let (y, s) ← evE w e s
    addM k y s
  else .ok s)
theorem lc_imp {e' : Ex} {it' : SV.It} {ifs' : Exs} {fre : Bool} {Q : VK} (q : tD g W false (evE w (.lc e' own t it' ifs')) σ H Q) :
    tLc (iD g W (evI w it')) (gW g own (asg w t)) (tDb g W0 (evA w ifs')) (tD g W0 fre (evE w e')) own σ H Q := by
  obtain ⟨ι, st, sr, o⟩ := q
  simp only [evE] at o
  refine ⟨ι, st, sr, (OutP.bnd o).mono (fun pr hpr J H1 ι1 l1 sr1 hJ p hp => ?_) fun _ _ _ z => z⟩
  obtain ⟨xs, s0⟩ := pr
  dsimp only at hpr sr1 hJ
  have hk : ι1.length = s0.m.length := sr1.2.len
  have lk : Le H1 ι1 (upd H1 p (.lst [])) (ι1 ++ [some p]) := Le.put hp
  have rk := sr1.2.put hp (o := .lst []) (mo := .lst []) fun H' ι' l h => ⟨[], h, by simp [DenL]⟩
  have hpr2 : OutP (lcL (lcF w own t ifs' e' s0.m.length) xs ⟨s0.e, s0.m ++ [.lst []]⟩) (fun s1 => ∀ v H' ι', Le H ι H' ι' → SR g H' ι' σ (backS own s0 s1) → Den g H' ι' (.ref s0.m.length) v → Q v H') (fun _ _ _ => True) :=
    (OutP.bnd hpr).mono (fun s1 h v H' ι' l r dn => h v H' ι' l r dn Nw.no) fun _ _ _ _ => True.intro
  refine ⟨fun i m H' => i + m = xs.length ∧ ∃ ι' s', Le (upd H1 p (.lst [])) (ι1 ++ [some p]) H' ι' ∧ EnvDen g H' ι' (wipe σ own) (wipeS own s').e ∧ Rel g H' ι' s'.m ∧ OutP (lcL (lcF w own t ifs' e' s0.m.length) (xs.drop i) s') (fun s1 => ∀ v H' ι', Le H ι H' ι' → SR g H' ι' σ (backS own s0 s1) → Den g H' ι' (.ref s0.m.length) v → Q v H') (fun _ _ _ => True),
    ⟨xs.length, Nat.zero_add _, _, ⟨s0.e, s0.m ++ [.lst []]⟩, Le.refl _ _, EnvDen.wipeS (s := ⟨s0.e, s0.m ++ [.lst []]⟩) (sr1.1.le lk), rk, by rw [List.drop_zero]; exact hpr2⟩, ?_⟩
  rintro i m H2 ⟨hm, ι2, s2, l2, e2, r2, o2⟩
  have l12 := lk.trans l2
  obtain ⟨hstop, hgo⟩ := hJ H2 ι2 l12
  by_cases hi : i < xs.length
  · right
    obtain ⟨d, hd⟩ : ∃ d, xs[i]? = some d := ⟨xs[i], List.getElem?_eq_getElem hi⟩
    obtain ⟨g1, g2⟩ := hgo i d hd
    refine ⟨g1, _, fun H' hN => ⟨m - 1, by omega, hN⟩, fun v H3 hy => ?_⟩
    obtain ⟨l3, h3⟩ := g2 v H3 hy
    obtain ⟨r3, dn⟩ := h3 s2.m r2
    have o3 := OutP.noX' (E' := fun _ _ _ => False) (lcL_at hd o2)
    refine ⟨ι2, wipeS own s2, d, ⟨e2.le l3, r3⟩, dn, (OutP.bnd o3).mono (fun s4 h4 σ4 H4 ι4 l4 sr4 hw => ⟨hw.trans wipe_wipe, ?_⟩) fun _ _ _ z => z⟩
    have hw2 : wipe σ4 own = wipe σ own := by rw [hw, wipe_wipe]
    refine ⟨ι4, s4, sr4, (OutP.bnd h4).mono (fun pb hb H5 ι5 l5 sr5 => ?_) fun _ _ _ z => z.elim⟩
    obtain ⟨b, s5⟩ := pb
    have l25 := l2.trans (l3.trans (l4.trans l5))
    cases b with
    | false =>
      simp only [Bool.false_eq_true, if_false]
      refine ⟨by omega, ι5, s5, l25, ?_, sr5.2, hb⟩
      rw [← hw2]
      exact sr5.1.wipeS
    | true =>
      simp only [if_true]
      refine ⟨ι5, s5, sr5, (OutP.bnd hb).mono (fun pe he u H6 ι6 l6 sr6 d6 nw6 => ?_) fun _ _ _ z => z.elim⟩
      clear nw6
      obtain ⟨y, s6⟩ := pe
      dsimp only at he sr6 d6
      unfold addM at he
      cases hmk : s6.m[s0.m.length]? with
      | none => rw [hmk] at he; exact he.elim
      | some mo =>
        rw [hmk] at he
        cases mo with
        | lst ys =>
          dsimp only at he
          obtain ⟨hz, he⟩ := OutP.gd.mp (OutP.bnd he)
          have l26 := l25.trans l6
          obtain ⟨h7, vs, h8, h9⟩ := placeAt l26 hk sr6.2 hmk (by intro z; cases z)
          have hz := of_decide_eq_true hz
          rw [sizeL_eq] at hz
          have lw : Le H6 ι6 (upd H6 p (.lst (vs ++ [u]))) ι6 := Le.wr sr6.2 h7 (by rw [h8]; trivial)
          have r7 := sr6.2.wr (o := .lst (vs ++ [u])) (mo := .lst (ys ++ [y])) h7 (by rw [h8]; trivial) ⟨vs ++ [u], upd_same, (h9.append (DenL.cons d6 (by simp [DenL]))).le lw⟩
          refine ⟨vs, h8, by rw [← h9.length]; exact hz, by omega, ι6, _, l26.trans lw, ?_, r7, he⟩
          rw [← hw2]
          exact (EnvDen.wipeS (s := s6) sr6.1).le lw
        | _ => exact he.elim
  · left
    have hi2 : i = xs.length := by omega
    subst hi2
    refine ⟨hstop, ?_⟩
    rw [List.drop_length] at o2
    simp only [lcL] at o2
    refine o2 (.ref p) H2 ι2 (l1.trans l12) ⟨EnvDen.backS sr1.1 e2 l12, r2⟩ ?_
    simp only [Den]
    refine ⟨by have := l2.len; simp at this; omega, fun a e => ?_⟩
    have h1 := l2.same s0.m.length (by simp; omega)
    rw [List.getElem?_append_right (by omega), ← hk, Nat.sub_self] at h1
    simp only [List.getElem?_cons_zero] at h1
    rw [← hk] at e
    rcases h1 with z | z <;> rw [z] at e <;> cases e
    rfl
end
end SV
set_option linter.all false
set_option Elab.async false
set_option maxRecDepth 100000
set_option maxHeartbeats 4000000
namespace SV
open PySem PySem.Spec PyProof.Rows L2
section
variable {X : Cx} {g : Cfg} {c : Tc} {W : WX} {w : SV.W} {x : Str} {i : Nat} {pins : List (Addr × Obj)} {s : Shared} {σ σ' : L2.St} {H H' : Hp} {ι ι' : Io} {st st' : S} {D : Ends}
variable {a b d : Expr} {a' b' d' : Ex} {p pos tpos : Pos} {fra frb frd fr frr : Bool} {ex : Option (Nat × SV.D)}
variable {elt tg iter : Expr} {ifs : List Expr} {scope : Scope} {own : List (Str × Nat)} {wi : TI} {e' : Ex} {t : Tg} {it' : SV.It} {ifs' : Exs} {fre : Bool}
/-- what is asked of a comprehension's parts within its block -/
structure LcOk (X : Cx) (g : Cfg) (W : WX) (w : SV.W) (elt tg iter : Expr) (ifs : List Expr) (scope : Scope) (own : List (Str × Nat)) (e' : Ex) (t : Tg) (it' : SV.It) (ifs' : Exs) : Prop where
  it : PI X tg iter (iD g W (evI w it'))
  ok : BlkOk X.N X.env.scope scope own
  tg : ∀ (s : Shared) (H : Hp) (C : Addr) (cl : List (Str × Addr)) (fp : List Addr), PG (X.blk s H scope (compEnvC scope cl C X.env) fp) tg (gW g (own.map (·.2)) (asg w t))
  ts : ∀ (s : Shared) (H : Hp) (C : Addr) (cl : List (Str × Addr)) (fp : List Addr), PTs (X.blk s H scope (compEnvC scope cl C X.env) fp) ifs (tDb g W0 (evA w ifs'))
  el : ∀ (s : Shared) (H : Hp) (C : Addr) (cl : List (Str × Addr)) (fp : List Addr), PE (X.blk s H scope (compEnvC scope cl C X.env) fp) elt (tD g W0 false (evE w e'))
  fs : ∀ x, foldedSetIterable iter X.env x = pure x
theorem ev_lc (G : Gd X g c) (hc : X.calm = true) (L : LcOk X g W w elt tg iter ifs scope own e' t it' ifs') : PE X (.ListComp elt [⟨tg, iter, ifs, 0⟩] scope pos) (tD g W false (evE w (.lc e' (own.map (·.2)) t it' ifs'))) :=
  PE.imp (pe_lc hc G.nd L.it L.ok L.tg L.ts L.el L.fs) fun σ H Q q => lc_imp q
/-- the block of a comprehension is good -/
theorem Gd.blk {H : Hp} {C : Addr} {cl : List (Str × Addr)} {fp : List Addr} (G : Gd X g c) : Gd (X.blk s H scope (compEnvC scope cl C X.env) fp) g { c with sc := relS' scope c.sc } where
  P := G.P
  ww := G.ww
  K := G.K
  N := G.N
  nd := G.nd
  sc := by
    show relS scope X.env.scope = _
    rw [G.sc]
    rfl
  un := G.un
end
end SV
set_option linter.all false
set_option Elab.async false
set_option maxRecDepth 100000
set_option maxHeartbeats 4000000
namespace SV
open PySem PySem.Spec PyProof.Rows L2
section
variable {P : Program} {wd : World} {K : PySem.W.Frag} {mg : Str → Option Value} {base : Heap} {CX : CXT} {k : Nat} {f : Addr} {name qual : Str} {params : Arguments} {body : List Stmt} {scope : Scope} {dV kV doc pm cdv ct oc : Value} {an od : Option Addr}
  {osl : Array (Option Value)} {N ps : List Str} {g : Cfg} {w : SV.W} {fn : Fn} {frr : Bool}
/-- what is wanted of a def's body's exceptions -/
abbrev WE (E : XK) : WX := fun cls d _ H => E cls d H
theorem start_den {H : Hp} {ι : Io} {ds : List D} {vs : List V} {n : Nat} (dn : DenL g H ι ds vs) (hn : N.length = n) : EnvDen g H ι (L2.start N vs) (ds.map some ++ List.replicate (n - ds.length) none) := by
  have hl := dn.length
  refine ⟨by simp [L2.start, hl, hn], fun i d q => ?_⟩
  by_cases hi : i < ds.length
  · rw [List.getElem?_append_left (by simpa using hi), List.getElem?_map] at q
    cases e : ds[i]? with
    | none => rw [e] at q; cases q
    | some d' =>
      rw [e] at q
      simp only [Option.map_some, Option.some.injEq] at q
      subst q
      obtain ⟨v, hv, dv⟩ := dn.get e
      refine ⟨v, ?_, dv⟩
      unfold L2.start
      rw [List.getElem?_append_left (by simpa [← hl] using hi), List.getElem?_map, hv]
      rfl
  · rw [List.getElem?_append_right (by simpa using hi)] at q
    have := List.mem_of_getElem? q
    simp at this
theorem Nw.cut {H H' : Hp} {ι ι' : Io} {M m : List MO} {d : D} {v : V} (r : Rel g H ι M) (hx : exOk M.length M m = true) (hc : cloD M.length d = true) (nw : Nw frr g (fun H1 ι1 => Le H ι H1 ι1 ∧ Rel g H1 ι1 m) H' ι' d v) :
    Nw frr g (fun H1 ι1 => Le H ι H1 ι1 ∧ Rel g H1 ι1 (m.take M.length)) H' (ι'.take M.length) d v := fun e => by
  obtain ⟨h1, h2⟩ := nw e
  refine ⟨fun xs q => ?_, fun es q => ?_⟩
  · obtain ⟨H1, p, vs, e1, e2, e3, ⟨l, r1⟩, dn⟩ := h1 xs q
    subst q
    simp only [cloD] at hc
    have lc := l.cut l.len
    rw [r.len] at lc
    exact ⟨H1, p, vs, e1, e2, e3, ⟨lc, r.cut r1 l hx⟩, dn.cut _ _ hc⟩
  · obtain ⟨H1, p, vs, e1, e2, e3, ⟨l, r1⟩, dn⟩ := h2 es q
    subst q
    simp only [cloD] at hc
    have lc := l.cut l.len
    rw [r.len] at lc
    exact ⟨H1, p, vs, e1, e2, e3, ⟨lc, r.cut r1 l hx⟩, dn.cut _ _ hc⟩
/-- the body's end from the def's -/
theorem leave_end {H : Hp} {ι : Io} {M : List MO} {Q : VK} {E : XK} {keep : Bool} {o : Out (Ctl × S)} (r : Rel g H ι M)
    (h : OutP (match o with | .ok (.ret d, s) => leave keep M d s.m | .ok (.nx, s) => leave keep M .non s.m | .ok _ => .bad | .exc c d s => leaveX keep M c d s.m | .bad => .bad)
      (fun p => ∀ v H' ι', Le H ι H' ι' → Rel g H' ι' p.2 → Den g H' ι' p.1 v → Nw frr g (fun H1 ι1 => Le H ι H1 ι1 ∧ Rel g H1 ι1 p.2) H' ι' p.1 v → Q v H') (fun c d s => g.xp = true ∧ ∀ cls dd H' ι', Le H ι H' ι' → Rel g H' ι' s.m → EDen g H' ι' c d cls dd → E cls dd H')) (σ : L2.St) :
    OutP o (EndP g frr { nx := fun _ H' => Q .non H', rt := Q } H ι) (XC g (WE E) H ι σ) := by
  have key : ∀ (d : D) (m : List MO) v H' ι', OutP (leave keep M d m) (fun p => ∀ v H' ι', Le H ι H' ι' → Rel g H' ι' p.2 → Den g H' ι' p.1 v → Nw frr g (fun H1 ι1 => Le H ι H1 ι1 ∧ Rel g H1 ι1 p.2) H' ι' p.1 v → Q v H') (fun c d s => g.xp = true ∧ ∀ cls dd H' ι', Le H ι H' ι' → Rel g H' ι' s.m → EDen g H' ι' c d cls dd → E cls dd H') →
      Le H ι H' ι' → Rel g H' ι' m → Den g H' ι' d v → Nw frr g (fun H1 ι1 => Le H ι H1 ι1 ∧ Rel g H1 ι1 m) H' ι' d v → Q v H' := by
    intro d m v H' ι' h l r' dn nw
    unfold leave at h
    split at h
    · exact h v H' ι' l r' dn nw
    · split at h
      · rename_i hc
        simp only [Bool.and_eq_true] at hc
        have lc := l.cut l.len
        rw [r.len] at lc
        exact h v H' _ lc (r.cut r' l hc.1) (dn.cut d v hc.2) (nw.cut r hc.1 hc.2)
      · exact h.elim
  cases o with
  | bad => exact h
  | exc c d s =>
    have h : OutP (leaveX keep M c d s.m) _ _ := h
    unfold leaveX at h
    split at h
    · exact ⟨h.1, fun cls dd σ' H' ι' l sr e => h.2 cls dd H' ι' l sr.2 e⟩
    · split at h
      · rename_i hc
        simp only [Bool.and_eq_true] at hc
        refine ⟨h.1, fun cls dd σ' H' ι' l sr e => ?_⟩
        have lc := l.cut l.len
        rw [r.len] at lc
        exact h.2 cls dd H' _ lc (r.cut sr.2 l hc.1) (e.cut hc.2)
      · exact h.elim
  | ok p =>
    obtain ⟨cl, s⟩ := p
    cases cl with
    | nx => exact fun σ' H' ι' l sr => key .non s.m .non H' ι' h l sr.2 (by simp only [Den]) (Nw.flat (by intro a; constructor <;> (intro z; cases z)))
    | ret d => exact fun v σ' H' ι' l sr dn nw => key d s.m v H' ι' h l sr.2 dn (nw.imp fun H1 ι1 z => ⟨z.1, z.2.2⟩)
    | brk => exact h.elim
    | cnt => exact h.elim
/-- a def of the text keeps its promise -/
theorem fn_D (lk : K.lookup f = some ⟨oc, od, .func (PySem.W.fnOf name qual params body scope dV kV doc pm an cdv ct), osl⟩) (hcd : PySem.W.codeIn K cdv qual = true) (S : FnScope N ps scope) (hns : N.length = fn.ns) (hnp : ps.length = fn.np) (hst : fn.star = false)
    (hb : ∀ us : List Value, us.length = ps.length → bindArgs (PySem.W.fnOf name qual params body scope dV kV doc pm an cdv ct) ⟨us, []⟩ = pure (ps.zip us))
    (hbody : ∀ (A : Around) (outer : List Env) (s : Shared) (H : Hp) (E : XK), Room k (A.deeper (envOfC qual scope s.heap.objs.size f cdv)) → PSs (cxOf CX P wd K mg base N qual scope f cdv A outer s H E) body (tS g (WE E) frr (exSs w none fn.body))) :
    FnR P wd K mg base CX (k + 1) f (spF g frr (fun ds M => runF w fn ds M)) := by
  have hF : FnOk P wd K mg base CX (k + 1) f (PySem.W.fnOf name qual params body scope dV kV doc pm an cdv ct) ps (spF g frr (fun ds M => runF w fn ds M)) := by
    refine fn_of lk hcd S (fun vs H Q E h => ?_) fun A outer s H vs Q E hr h => ⟨_, hbody A outer s H E hr, ?_⟩
    · obtain ⟨ι, ds, M, r, dn, o⟩ := h
      unfold runF argsOf at o
      rw [hst] at o
      simp only [Bool.false_eq_true, if_false] at o
      by_cases hl : ds.length = fn.np
      · rw [← dn.length, hl, hnp]
      · rw [if_neg hl] at o; exact o.elim
    · obtain ⟨ι, ds, M, r, dn, o⟩ := h
      unfold runF argsOf at o
      rw [hst] at o
      simp only [Bool.false_eq_true, if_false] at o
      by_cases hl : ds.length = fn.np
      · rw [if_pos hl] at o
        exact ⟨ι, ⟨ds.map some ++ List.replicate (fn.ns - ds.length) none, M⟩, ⟨start_den dn hns, r⟩, leave_end (M := M) r o _⟩
      · rw [if_neg hl] at o; exact o.elim
  exact (FnOk.raw hF (Binds.all hb) .nil).imp fun vs H Q E h => by rw [List.append_nil]; exact h
end
end SV
set_option linter.all false
set_option Elab.async false
set_option maxRecDepth 100000
set_option maxHeartbeats 4000000
namespace SV
open PySem PySem.Spec PyProof.Rows L2
section
variable {X : Cx} {g : Cfg} {c : Tc} {W : WX} {w : SV.W} {H : Hp} {ι : Io} {m : List MO} {fr : Bool}
/-- a built-in by values: what it gives -/
def Op1n (g : Cfg) (r : List V → Hp → VK → Prop) (fr : Bool) (f : List MO → List D → Out D) : Prop :=
  ∀ (H : Hp) (ι : Io) (m : List MO) (xs : List D) (vs : List V) (z : D) (Q : VK), Rel g H ι m → DenL g H ι xs vs → f m xs = .ok z →
    (∀ w H' ι', Le H ι H' ι' → Rel g H' ι' m → Den g H' ι' z w → Nw fr g (fun H1 ι1 => Le H ι H1 ι1 ∧ Rel g H1 ι1 m) H' ι' z w → Q w H') → r vs H Q
theorem ca_of {cv : Value} {r : List V → Hp → VK → Prop} {f : List MO → List D → Out D} (o : CallR X cv r) (k : Op1n g r fr f) (hc : ∀ m xs c d s, f m xs ≠ .exc c d s) : CaX X g W fr (fun us => call cv us) (fun xs s => do
    let z ← f s.m xs
    .ok (z, s)) := by
  intro pins s σ H ι xs vs us st Q I sr dn rv q
  have q := OutP.bnd q
  cases e : f st.m xs with
  | bad => rw [e] at q; exact q.elim
  | exc c d t => exact absurd e (hc _ _ _ _ _)
  | ok z =>
    rw [e] at q
    exact o pins s σ H vs us Q I rv (k H ι st.m xs vs z Q sr.2 dn e fun w H' ι' l r d n => q w H' ι' l (sr.le l r) d (n.imp fun H1 ι1 z => ⟨z.1, sr.le z.1 z.2⟩))
theorem denL1 {x : D} {vs : List V} (h : DenL g H ι [x] vs) : ∃ v, vs = [v] ∧ Den g H ι x v := by
  simp only [DenL] at h
  obtain ⟨v, t, rfl, a, rfl⟩ := h
  exact ⟨v, rfl, a⟩
theorem denL2 {x y : D} {vs : List V} (h : DenL g H ι [x, y] vs) : ∃ v u, vs = [v, u] ∧ Den g H ι x v ∧ Den g H ι y u := by
  simp only [DenL] at h
  obtain ⟨v, t, rfl, a, u, t2, rfl, b, rfl⟩ := h
  exact ⟨v, u, rfl, a, b⟩
theorem intL_den : ∀ {ys : List D} {is : List Int} {vs : List V}, intL ys = some is → DenL g H ι ys vs → vs = is.map V.int
  | [], is, vs, h, dn => by simp [intL] at h; subst h; simp only [DenL] at dn; subst dn; rfl
  | y :: r, is, vs, h, dn => by
    simp only [DenL] at dn
    obtain ⟨v, t, rfl, a, b⟩ := dn
    cases y with
    | int i =>
      simp only [intL] at h
      cases e : intL r with
      | none => rw [e] at h; cases h
      | some js =>
        rw [e] at h
        cases h
        simp only [Den] at a
        subst a
        rw [intL_den e b]
        rfl
    | _ => simp [intL] at h
theorem foldMin : ∀ (r : List Int) (i m : Int), m ∈ i :: r → (∀ y, y ∈ i :: r → m ≤ y) → r.foldl (fun a b => if b < a then b else a) i = m
  | [], i, m, h, _ => by simp at h; simp [h]
  | j :: r, i, m, h, hm => by
    rw [List.foldl_cons]
    apply foldMin r
    · have h1 := hm i (by simp)
      have h2 := hm j (by simp)
      simp only [List.mem_cons] at h ⊢
      rcases h with h | h | h
      · left; split <;> omega
      · left; split <;> omega
      · exact .inr h
    · intro y hy
      simp only [List.mem_cons] at hy
      rcases hy with h | h
      · have h1 := hm i (by simp)
        have h2 := hm j (by simp)
        subst h
        split <;> omega
      · exact hm y (by simp [h])
theorem foldMax : ∀ (r : List Int) (i m : Int), m ∈ i :: r → (∀ y, y ∈ i :: r → y ≤ m) → r.foldl (fun a b => if a < b then b else a) i = m
  | [], i, m, h, _ => by simp at h; simp [h]
  | j :: r, i, m, h, hm => by
    rw [List.foldl_cons]
    apply foldMax r
    · have h1 := hm i (by simp)
      have h2 := hm j (by simp)
      simp only [List.mem_cons] at h ⊢
      rcases h with h | h | h
      · left; split <;> omega
      · left; split <;> omega
      · exact .inr h
    · intro y hy
      simp only [List.mem_cons] at hy
      rcases hy with h | h
      · have h1 := hm i (by simp)
        have h2 := hm j (by simp)
        subst h
        split <;> omega
      · exact hm y (by simp [h])
theorem bi_abs : CaX X g W fr (fun us => call (.builtin "abs") us) (fun xs s => do let z ← biD s.m .abs xs; .ok (z, s)) :=
  ca_of (f := fun m xs => biD m .abs xs) call_abs (fun H ι m xs vs z Q r dn e k => by
    have e : biAbs xs = .ok z := e
    unfold biAbs at e
    split at e
    · cases e
      obtain ⟨v, rfl, d⟩ := denL1 dn
      simp only [Den] at d
      subst d
      exact ⟨_, rfl, qi r k rfl⟩
    · cases e) (fun m xs c d s => by
    show biAbs xs ≠ _
    unfold biAbs
    split <;> (intro z; cases z))
theorem bi_min2 (hc : X.calm = true) : CaX X g W fr (fun us => call (.builtin "min") us) (fun xs s => do let z ← biD s.m .min2 xs; .ok (z, s)) :=
  ca_of (f := fun m xs => biD m .min2 xs) (call_min2 hc) (fun H ι m xs vs z Q r dn e k => by
    have e : biMin2 xs = .ok z := e
    unfold biMin2 at e
    split at e
    · cases e
      obtain ⟨v, u, rfl, d1, d2⟩ := denL2 dn
      simp only [Den] at d1 d2
      subst d1 d2
      exact ⟨_, _, rfl, qi r k rfl⟩
    · cases e) (fun m xs c d s => by
    show biMin2 xs ≠ _
    unfold biMin2
    split <;> (intro z; cases z))
theorem bi_max2 (hc : X.calm = true) : CaX X g W fr (fun us => call (.builtin "max") us) (fun xs s => do let z ← biD s.m .max2 xs; .ok (z, s)) :=
  ca_of (f := fun m xs => biD m .max2 xs) (call_max2 hc) (fun H ι m xs vs z Q r dn e k => by
    have e : biMax2 xs = .ok z := e
    unfold biMax2 at e
    split at e
    · cases e
      obtain ⟨v, u, rfl, d1, d2⟩ := denL2 dn
      simp only [Den] at d1 d2
      subst d1 d2
      exact ⟨_, _, rfl, qi r k rfl⟩
    · cases e) (fun m xs c d s => by
    show biMax2 xs ≠ _
    unfold biMax2
    split <;> (intro z; cases z))
theorem intsOf_den {x : D} {v : V} {is : List Int} (r : Rel g H ι m) (d : Den g H ι x v) (e : intsOf m x = some is) : ∃ a, v = .ref a ∧ SqL g.K H a (is.map V.int) := by
  unfold intsOf at e
  split at e
  · rename_i ys hy
    obtain ⟨a, vs, rfl, ha, dn⟩ := d.list r hy
    rw [intL_den e dn] at ha
    exact ⟨a, rfl, SqL.of ha⟩
  · cases e
/-- CallR, one rule or the other -/
theorem CallR.or {X : Cx} {f : Value} {r r' : List V → Hp → VK → Prop} (h : CallR X f r) (h' : CallR X f r') : CallR X f (fun xs H Q => r xs H Q ∨ r' xs H Q) := by
  intro pins s σ H xs us Q I rv q
  rcases q with q | q
  · exact h pins s σ H xs us Q I rv q
  · exact h' pins s σ H xs us Q I rv q
mutual
theorem pd_inj : ∀ (n m : Nat) (a b : D), okD n a = true → okD m b = true → pd a = pd b → a = b
  | n, m, .non, b, ha, hb, h => by cases b <;> simp [pd] at h <;> simp [okD] at hb ⊢
  | n, m, .bl _, b, ha, hb, h => by cases b <;> simp [pd] at h; rw [h]
  | n, m, .int _, b, ha, hb, h => by cases b <;> simp [pd] at h; rw [h]
  | n, m, .str _, b, ha, hb, h => by cases b <;> simp [pd] at h; rw [h]
  | 0, m, .tup xs, b, ha, hb, h => by simp [okD] at ha
  | 0, m, .lst xs, b, ha, hb, h => by simp [okD] at ha
  | n + 1, m, .tup xs, b, ha, hb, h => by
    cases b <;> simp [pd] at h
    rename_i ys
    cases m with
    | zero => simp [okD] at hb
    | succ m => simp only [okD] at ha hb; rw [pds_inj n m xs ys ha hb h]
  | n + 1, m, .lst xs, b, ha, hb, h => by
    cases b <;> simp [pd] at h
    rename_i ys
    cases m with
    | zero => simp [okD] at hb
    | succ m => simp only [okD] at ha hb; rw [pds_inj n m xs ys ha hb h]
  | n, m, .dct _, b, ha, hb, h => by simp [okD] at ha
  | n, m, .ins _ _, b, ha, hb, h => by simp [okD] at ha
  | n, m, .ref _, b, ha, hb, h => by simp [okD] at ha
  | n, m, .clo _, b, ha, hb, h => by simp [okD] at ha
  | n, m, .cls _, b, ha, hb, h => by simp [okD] at ha
  | n, m, .scr _, b, ha, hb, h => by simp [okD] at ha
theorem pds_inj : ∀ (n m : Nat) (a b : List D), a.all (okD n) = true → b.all (okD m) = true → pds a = pds b → a = b
  | n, m, [], b, ha, hb, h => by cases b with | nil => rfl | cons y t => simp [pds] at h
  | n, m, x :: r, b, ha, hb, h => by
    cases b with
    | nil => simp [pds] at h
    | cons y t =>
      simp only [pds, List.cons.injEq] at h
      simp only [List.all_cons, Bool.and_eq_true] at ha hb
      rw [pd_inj n m x y ha.1 hb.1 h.1, pds_inj n m r t ha.2 hb.2 h.2]
end
mutual
theorem pd_depth : ∀ (n : Nat) (d : D), okD n d = true → (pd d).depth ≤ n
  | n, .non, h => by simp [pd, PyData.depth]
  | n, .bl _, h => by simp [pd, PyData.depth]
  | n, .int _, h => by simp [pd, PyData.depth]
  | n, .str _, h => by simp [pd, PyData.depth]
  | 0, .tup _, h => by simp [okD] at h
  | 0, .lst _, h => by simp [okD] at h
  | n + 1, .tup xs, h => by
    simp only [okD] at h
    have := pds_depth n xs h
    simp only [pd, PyData.depth]; omega
  | n + 1, .lst xs, h => by
    simp only [okD] at h
    have := pds_depth n xs h
    simp only [pd, PyData.depth]; omega
  | n, .dct _, h => by simp [okD] at h
  | n, .ins _ _, h => by simp [okD] at h
  | n, .ref _, h => by simp [okD] at h
  | n, .clo _, h => by simp [okD] at h
  | n, .cls _, h => by simp [okD] at h
  | n, .scr _, h => by simp [okD] at h
theorem pds_depth : ∀ (n : Nat) (ds : List D), ds.all (okD n) = true → PyData.depthAll (pds ds) ≤ n
  | n, [], h => by simp [pds, PyData.depthAll]
  | n, x :: r, h => by
    simp only [List.all_cons, Bool.and_eq_true] at h
    have h1 := pd_depth n x h.1
    have h2 := pds_depth n r h.2
    simp only [pds, PyData.depthAll]; omega
end
theorem pds_map (xs : List D) : pds xs = xs.map pd := by
  induction xs with
  | nil => rfl
  | cons x r ih => simp [pds, ih]
theorem minG_pd : ∀ (r : List D) (x : D), PySem.W.minD (pd x) (r.map pd) = pd (minG x r) := by
  intro r
  induction r with
  | nil => intro x; rfl
  | cons y r ih =>
    intro x
    unfold PySem.W.minD minG
    rw [List.map_cons, List.foldl_cons, List.foldl_cons, ltG_pd]
    have e : (if ltG y x = true then pd y else pd x) = pd (if ltG y x = true then y else x) := by split <;> rfl
    rw [e]
    exact ih _
theorem minG_mem : ∀ (r : List D) (x : D), minG x r ∈ x :: r := by
  intro r
  induction r with
  | nil => intro x; simp [minG]
  | cons y r ih =>
    intro x
    unfold minG
    rw [List.foldl_cons]
    have := ih (if ltG y x = true then y else x)
    unfold minG at this
    rcases List.mem_cons.mp this with e | e
    · rw [e]; split <;> simp
    · exact List.mem_cons_of_mem _ (List.mem_cons_of_mem _ e)
theorem notTN_ne {d : D} (h : notTN d = true) (hk : okD n d = true) : pd d ≠ .none ∧ ∀ xs, pd d ≠ .tuple xs := by
  cases d <;> simp [notTN] at h <;> simp [pd] <;> simp [okD] at hk
theorem alls {p : D → D → Bool} {xs : List D} (h : (xs.all fun a => xs.all (p a)) = true) : ∀ a ∈ xs, ∀ b ∈ xs, p a b = true := fun a ha b hb => (List.all_eq_true.mp ((List.all_eq_true.mp h) a ha)) b hb
theorem vals_at : ∀ {ws : List V} {its : List Value} {i : Nat} {v : Value}, Vals ws its → its[i]? = some v → ∃ w', ws[i]? = some w' ∧ RelV w' v
  | _, _, i, v, .nil, h => by simp at h
  | _, _, 0, v, .cons r _, h => by simp at h; subst h; exact ⟨_, by simp, r⟩
  | _, _, i + 1, v, .cons _ t, h => by
    obtain ⟨w', h1, h2⟩ := vals_at t (by simpa using h)
    exact ⟨w', by simpa using h1, h2⟩
theorem denL_at : ∀ {xs : List D} {ws : List V} {i : Nat} {v : V}, DenL g H ι xs ws → ws[i]? = some v → ∃ d, xs[i]? = some d ∧ Den g H ι d v
  | [], ws, i, v, h, e => by simp only [DenL] at h; subst h; simp at e
  | x :: r, ws, 0, v, h, e => by
    simp only [DenL] at h
    obtain ⟨u, t, rfl, a, _⟩ := h
    simp at e
    subst e
    exact ⟨x, by simp, a⟩
  | x :: r, ws, i + 1, v, h, e => by
    simp only [DenL] at h
    obtain ⟨u, t, rfl, _, b⟩ := h
    obtain ⟨d, h1, h2⟩ := denL_at b (by simpa using e)
    exact ⟨d, by simpa using h1, h2⟩
/-- min of a list of data -/
def rMinD (g : Cfg) : List V → Hp → VK → Prop := fun vs H Q => ∃ (ι : Io) (a : Addr) (ws : List V) (y : D) (r : List D), vs = [.ref a] ∧ H a = some (.lst ws) ∧ DenL g H ι (y :: r) ws ∧
  (y :: r).all (okD 40) = true ∧ ((y :: r).all fun a => (y :: r).all (alikD a)) = true ∧ (y :: r).all notTN = true ∧ ∀ v, Den g H ι (minG y r) v → Q v H
theorem cr_minD (hK : g.K = X.K) (hc : X.calm = true) (hu : X.A.units + 45 < cLine) : CallR X (.builtin "min") (rMinD g) := by
  intro pins s σ H vs us Q I rv h
  obtain ⟨ι, a, ws, y, r, rfl, ha, dn, h1, h2, h3, q⟩ := h
  rw [Vals.ref1 rv]
  obtain ⟨its, rw', hl, hz⟩ := I.list (SqL.of (K := X.K) ha)
  obtain ⟨d1, d2, d3⟩ := okD_dps 40 (y :: r) ws h1 dn
  obtain ⟨as, rd⟩ := Dp.readsAll I _ _ _ (hK ▸ d1) rw'
  have rd' : ReadsAll s.heap its.toArray.toList (pd y :: pds r) as := by simpa [pds] using rd
  refine PySem.W.min_list_data (I.ok.hd hc) hl.isList rd' ⟨fun x hx z hz => ?_, fun x hx => ?_⟩ ?_ fun i v h' tk bs hv hr hk => ?_
  · have hx' : x ∈ (y :: r).map pd := by rw [List.map_cons, ← pds_map]; exact hx
    have hz' : z ∈ (y :: r).map pd := by rw [List.map_cons, ← pds_map]; exact hz
    obtain ⟨x', mx, rfl⟩ := List.mem_map.mp hx'
    obtain ⟨z', mz, rfl⟩ := List.mem_map.mp hz'
    exact alik_pd _ _ (alls h2 x' mx z' mz)
  · have hx' : x ∈ (y :: r).map pd := by rw [List.map_cons, ← pds_map]; exact hx
    obtain ⟨x', mx, rfl⟩ := List.mem_map.mp hx'
    exact (notTN_ne ((List.all_eq_true.mp h3) x' mx) ((List.all_eq_true.mp h1) x' mx)).1
  · have : PyData.depthAll (pd y :: pds r) ≤ 40 := d3
    omega
  · rw [pds_map, minG_pd] at hr
    have hv' : its[i]? = some v := by simpa using hv
    obtain ⟨w', hw, rwv⟩ := vals_at rw' hv'
    obtain ⟨d, hd, dd⟩ := denL_at dn hw
    have hmem : d ∈ y :: r := List.mem_of_getElem? hd
    have hok := (List.all_eq_true.mp h1) d hmem
    have I' : Inv X pins σ H { s with heap := h', toks := tk } := I.kept hk
    obtain ⟨p1, p2, _⟩ := okD_dp 40 d w' hok dd
    obtain ⟨as2, rd2⟩ := Dp.reads I' _ w' v (hK ▸ p1) rwv
    have e := (Reads.unique rd2 _ _ hr).1
    have hmg := (List.all_eq_true.mp h1) _ (minG_mem r y)
    have e2 := pd_inj 40 40 _ _ hok hmg e
    subst e2
    exact ⟨w', H, I', rwv, q w' dd⟩
theorem bi_min1 (hK : g.K = X.K) (hc : X.calm = true) (hu : X.A.units + 45 < cLine) : CaX X g W false (fun us => call (.builtin "min") us) (fun xs s => do let z ← biD s.m .min1 xs; .ok (z, s)) :=
  ca_of (f := fun m xs => biD m .min1 xs) (CallR.or (cr_min hc) (cr_minD (g := g) hK hc hu)) (fun H ι m xs vs z Q r dn e k => by
    have e : biMin1 m xs = .ok z := e
    unfold biMin1 at e
    split at e
    · split at e
      · rename_i i is h
        left
        cases e
        obtain ⟨v, rfl, d⟩ := denL1 dn
        obtain ⟨a, rfl, ha⟩ := intsOf_den r d h
        rw [hK] at ha
        refine ⟨a, _, rfl, ha, by simp, fun mm h1 h2 => qi r k ?_⟩
        rw [foldMin _ _ _ h1 h2]
      · cases e
      · split at e
        · rename_i y t hy
          right
          obtain ⟨hg, e⟩ := gd_ok e
          cases e
          simp only [Bool.and_eq_true] at hg
          obtain ⟨v, rfl, d⟩ := denL1 dn
          obtain ⟨a, ws, rfl, ha, dl⟩ := d.list r hy
          exact ⟨ι, a, ws, y, t, rfl, ha, dl, hg.1.1, hg.1.2, hg.2, fun v dv => k v H ι (Le.refl _ _) r dv Nw.no⟩
        · cases e
    · cases e) (fun m xs c d s => by
    show biMin1 m xs ≠ _
    unfold biMin1
    split
    · split
      · intro z; cases z
      · intro z; cases z
      · split
        · exact calm_gd (fun _ _ _ z => by cases z) c d s
        · intro z; cases z
    · intro z; cases z)
theorem bi_max1 (hK : g.K = X.K) (hc : X.calm = true) : CaX X g W fr (fun us => call (.builtin "max") us) (fun xs s => do let z ← biD s.m .max1 xs; .ok (z, s)) :=
  ca_of (f := fun m xs => biD m .max1 xs) (cr_max hc) (fun H ι m xs vs z Q r dn e k => by
    have e : biMax1 m xs = .ok z := e
    unfold biMax1 at e
    split at e
    · split at e
      · rename_i i is h
        cases e
        obtain ⟨v, rfl, d⟩ := denL1 dn
        obtain ⟨a, rfl, ha⟩ := intsOf_den r d h
        rw [hK] at ha
        refine ⟨a, _, rfl, ha, by simp, fun mm h1 h2 => qi r k ?_⟩
        rw [foldMax _ _ _ h1 h2]
      · cases e
    · cases e) (fun m xs c d s => by
    show biMax1 m xs ≠ _
    unfold biMax1
    split
    · split <;> (intro z; cases z)
    · intro z; cases z)
end
end SV
namespace SV
open PySem PySem.Spec PyProof.Rows L2
section
variable {X : Cx} {g : Cfg} {c : Tc} {W : WX} {w : SV.W} {H : Hp} {ι : Io} {m : List MO} {fr : Bool}
end
end SV
set_option linter.all false
set_option Elab.async false
set_option maxRecDepth 100000
set_option maxHeartbeats 4000000
namespace SV
open PySem PySem.Spec PyProof.Rows L2
section
variable {X : Cx} {g : Cfg} {c : Tc} {W : WX} {w : SV.W} {H : Hp} {ι : Io} {m : List MO} {fr : Bool}
/-- len of texts, lists, tuples, dicts -/
theorem bi_len : CaX X g W fr (fun us => call (.builtin "len") us) (fun xs s => do let z ← biD s.m .len xs; .ok (z, s)) :=
  ca_of (f := fun m xs => biD m .len xs) (CallR.or call_len call_lenD) (fun H ι m xs vs z Q r dn e k => by
    have e : biLen m xs = .ok z := e
    unfold biLen at e
    split at e
    · rename_i s
      obtain ⟨h1, e⟩ := gd_ok e
      cases e
      obtain ⟨v, rfl, d⟩ := denL1 dn
      simp only [Den] at d
      subst d
      have h1 := of_decide_eq_true h1
      rw [sizeL_eq] at h1
      exact .inl ⟨_, _, rfl, ⟨h1, rfl⟩, qi r k rfl⟩
    · rename_i x _
      obtain ⟨v, rfl, d⟩ := denL1 dn
      split at e
      · rename_i es he
        obtain ⟨h1, e⟩ := gd_ok e
        cases e
        obtain ⟨a, rfl, h2⟩ := d.dctAt r he
        obtain ⟨kvs, h3, h4⟩ := h2.dK h1
        exact .inr ⟨a, kvs, rfl, h3, qi r k (by rw [denE_length h4])⟩
      · obtain ⟨ys, h, e⟩ := opt_ok e
        cases e
        obtain ⟨p, ws, rfl, hp, dw⟩ := d.seq r h
        rcases hp with hp | hp
        · exact .inl ⟨_, _, rfl, .inl ⟨ws, SqL.of hp, rfl⟩, qi r k (by rw [dw.length])⟩
        · exact .inl ⟨_, _, rfl, .inr ⟨ws, SqT.of hp, rfl⟩, qi r k (by rw [dw.length])⟩
    · cases e) (fun m xs c d s => by
    show biLen m xs ≠ _
    unfold biLen
    split
    · exact calm_gd (fun _ _ _ z => by cases z) c d s
    · split
      · exact calm_gd (fun _ _ _ z => by cases z) c d s
      · exact calm_bind (fun _ _ _ _ z => by cases z) c d s
    · intro z; cases z)
end
end SV
set_option linter.all false
set_option Elab.async false
set_option maxRecDepth 100000
set_option maxHeartbeats 4000000
namespace SV
open PySem PySem.Spec PyProof.Rows L2
def typM : Bm → String
  | .get2 => "dict" | .getT => "dict" | .items => "dict" | .values => "dict" | .split => "str" | .join => "str" | _ => "list"
/-- a method by values -/
def MtD (g : Cfg) (fr : Bool) (r : V → List V → Hp → VK → Prop) (f : List MO → D → List D → Out (D × List MO)) : Prop :=
  ∀ (H : Hp) (ι : Io) (m : List MO) (x : D) (xs : List D) (v : V) (vs : List V) (z : D) (m' : List MO) (Q : VK), Rel g H ι m → Den g H ι x v → DenL g H ι xs vs → f m x xs = .ok (z, m') →
    (∀ w H' ι', Le H ι H' ι' → Rel g H' ι' m' → Den g H' ι' z w → Nw fr g (fun H1 ι1 => Le H ι H1 ι1 ∧ Rel g H1 ι1 m') H' ι' z w → Q w H') → r v vs H Q
section
variable {X : Cx} {g : Cfg} {c : Tc} {W : WX} {w : SV.W} {x : Str} {i : Nat} {H : Hp} {ι : Io} {m : List MO} {fr : Bool}
variable {a b d e : Expr} {a' b' d' : Ex} {es : List Expr} {es' : Exs} {p apos pos : Pos} {fra frb frd : Bool}
theorem kindM_tyV {b : Bm} {x : D} {v : V} (hb : b ≠ .getT) (r : Rel g H ι m) (dn : Den g H ι x v) (h : kindM m b x = true) : tyV g.K (typM b) v H := by
  have hl : (match rslv m x with | .lst _ => true | _ => false) = true → tyV g.K "list" v H := by
    intro h
    split at h
    · rename_i xs hx
      obtain ⟨a, vs, rfl, ha, _⟩ := dn.list r hx
      exact .inl ⟨rfl, _, SqL.of ha⟩
    · cases h
  have hd : (match dctOf m x with | some es => kindOk es (.int 0) | none => false) = true → tyV g.K "dict" v H := by
    intro h
    split at h
    · rename_i es hx
      obtain ⟨a, rfl, ha⟩ := dn.dctAt r hx
      obtain ⟨kvs, h1, _⟩ := ha.dK h
      exact .inr (.inr (.inl ⟨rfl, .inl ⟨kvs, h1⟩⟩))
    · cases h
  have hs : ∀ b, kindM m b x = true → (b = .split ∨ b = .join) → tyV g.K "str" v H := by
    intro b h hb
    cases x <;> first | (rcases hb with rfl | rfl <;> cases h; done) | skip
    simp only [Den] at dn
    subst dn
    rfl
  cases b with
  | append => exact hl h
  | extend => exact hl h
  | pop0 => exact hl h
  | pop1 => exact hl h
  | count => exact hl h
  | index => exact hl h
  | get2 => exact hd h
  | getT => exact absurd rfl hb
  | items => exact hd h
  | values => exact hd h
  | split => exact hs _ h (.inl rfl)
  | join => exact hs _ h (.inr rfl)
theorem bmt_imp {b : Bm} (hb : b ≠ .getT) {r : V → List V → Hp → VK → Prop} (hk : MtD g fr r (fun m x xs => bmD m b x xs)) (hc : ∀ m x xs c d s, bmD m b x xs ≠ .exc c d s) (hK : g.K = X.K) {σ : L2.St} {Q : VK}
    (q : tD g W fr (evE w (.bmt b a' es')) σ H Q) : tBM X.K (typM b) r (tD g W fra (evE w a')) (tDs g W (evEs w es')) σ H Q := by
  obtain ⟨ι, s, sr, o⟩ := q
  simp only [evE] at o
  refine tD.then sr (OutP.bnd o) (fun _ _ _ h => h) fun x s1 v H1 ι1 o1 l1 sr1 d1 _ => ?_
  obtain ⟨h1, o1⟩ := OutP.gd.mp (OutP.bnd o1)
  refine ⟨hK ▸ kindM_tyV hb sr1.2 d1 h1, ?_⟩
  refine tDs.then sr1 (OutP.bnd o1) (fun _ _ _ h => h.mono l1) fun xs s2 vs H2 ι2 o2 l2 sr2 d2 => ?_
  dsimp only at o2
  have o2 := OutP.bnd o2
  cases e : bmD s2.m b x xs with
  | bad => rw [e] at o2; exact o2.elim
  | exc c d t => exact absurd e (hc _ _ _ _ _ _)
  | ok zm =>
    obtain ⟨z, m'⟩ := zm
    rw [e] at o2
    refine hk H2 ι2 s2.m x xs v vs z m' Q sr2.2 (d1.le l2) d2 e fun w H' ι' l r dn n => o2 w H' ι' ((l1.trans l2).trans l) ⟨sr2.1.le l, r⟩ dn (n.imp fun H3 ι3 z => ⟨(l1.trans l2).trans z.1, sr2.1.le z.1, z.2⟩)
/-- o.m(e, ..), a built-in type's method -/
theorem ev_bmt {b : Bm} {r : V → List V → Hp → VK → Prop} {name : Str} {id : String} (G : Gd X g c) (pa : PlainAttrs (typM b)) (slot : Slot (typM b) name id) (hty : typeOf (.builtin id) = pure (.type "method_descriptor")) (hm : MtR X id r) (hk : MtD g fr r (fun m x xs => bmD m b x xs)) (hc : ∀ m x xs c d s, bmD m b x xs ≠ .exc c d s)
    (hab : ab0 a = true) (ha : PE X a (tD g W fra (evE w a'))) (hes : PA X (e :: es) (tDs g W (evEs w es'))) (h1 : (e :: es).all noStar = true) (hl : (e :: es).length < 29) (hline : (apos.endLine == pos.line) = true) (hb : b ≠ .getT := by intro z; cases z) :
    PE X (.Call (.Attribute a name apos) (e :: es) [] pos) (tD g W fr (evE w (.bmt b a' es'))) := by
  have h2 := h1
  simp only [List.all_cons, Bool.and_eq_true] at h2
  exact PE.imp (pe_bm pa slot hty hm ha hes (ab_ok hab) (few_ok h1 hl) hline (starEach_one h2.1) (any_plain es h2.2)) fun σ H Q q => bmt_imp hb hk hc G.K q
end
end SV
set_option linter.all false
set_option Elab.async false
set_option maxRecDepth 100000
set_option maxHeartbeats 4000000
namespace SV
open PySem PySem.Spec PyProof.Rows L2
section
variable {X : Cx} {g : Cfg} {c : Tc} {W : WX} {w : SV.W} {x : Str} {i : Nat} {H H' : Hp} {ι ι' : Io} {m : List MO} {fr : Bool}
theorem Den.refAt {k : Nat} {v : V} {mo : MO} (r : Rel g H ι m) (dn : Den g H ι (.ref k) v) (hk : m[k]? = some mo) (hd : mo ≠ .dead) : ∃ a, v = .ref a ∧ ι[k]? = some (some a) ∧ MDen g H ι a mo := by
  rcases r.at_ k mo hk with ⟨z, _⟩ | ⟨a, ha, md⟩
  · exact absurd z hd
  · simp only [Den] at dn
    exact ⟨a, dn.2 a ha, ha, md⟩
theorem DenL.nil : DenL g H ι [] [] := by simp only [DenL]
/-- a list of the store is written -/
theorem wr_list {k : Nat} {a : Addr} {xs : List D} {vs : List V} (r : Rel g H ι m) (e : ι[k]? = some (some a)) (mu : Mut (H a)) (d : DenL g H ι xs vs) : Le H ι (upd H a (.lst vs)) ι ∧ Rel g (upd H a (.lst vs)) ι (m.set k (.lst xs)) := by
  have lw : Le H ι (upd H a (.lst vs)) ι := Le.wr r e mu
  exact ⟨lw, r.wr e mu ⟨vs, upd_same, d.le lw⟩⟩
theorem mt_D_pop1 : MtD g false rPopAt (fun m x xs => bmD m .pop1 x xs) := by
  intro H ι m x xs v vs z m' Q r dx dn e k
  rcases xs with _ | ⟨y, _ | ⟨_, _⟩⟩
  · cases e
  · cases y <;> try (cases e; done)
    rename_i j
    obtain ⟨u, rfl, dy⟩ := denL1 dn
    simp only [Den] at dy
    subst dy
    cases x <;> try (cases e; done)
    rename_i kk
    have e : (match m[kk]? with | some (.lst ys) => (do gd (decide (-(2 ^ 62) ≤ j ∧ j < 2 ^ 62)); let n ← opt (ixOf j ys.length); let y ← opt ys[n]?; .ok (y, m.set kk (.lst (ys.eraseIdx n))) : Out (D × List MO)) | _ => .bad) = .ok (z, m') := e
    split at e
    · rename_i ys hk
      obtain ⟨h1, e⟩ := gd_ok e
      obtain ⟨n, h2, e⟩ := opt_ok e
      obtain ⟨y, h3, e⟩ := opt_ok e
      cases e
      obtain ⟨a, rfl, ha, ws, h4, h5⟩ := dx.refAt r hk (by intro z; cases z)
      have h1 := of_decide_eq_true h1
      rw [ixOf_N, h5.length] at h2
      obtain ⟨h6, h7, _, _⟩ := ixN_seq h2
      obtain ⟨v, h8, h9⟩ := h5.get h3
      obtain ⟨lw, rw'⟩ := wr_list r ha (by first | (rw [h4]; trivial) | trivial) (h5.erase n)
      exact ⟨a, ws, j, n, v, rfl, rfl, h4, by omega, by omega, h6, h8, k _ _ ι lw rw' (h9.le lw) Nw.no⟩
    · cases e
  · cases y <;> cases e
theorem calm_pop1 : ∀ m x xs c d s, bmD m .pop1 x xs ≠ .exc c d s := by
  intro m x xs c d s
  rcases xs with _ | ⟨y, _ | ⟨_, _⟩⟩
  · intro z; cases z
  · cases y <;> try (intro z; cases z; done)
    rename_i j
    cases x <;> try (intro z; cases z; done)
    rename_i k
    show (match m[k]? with | some (.lst ys) => (do gd (decide (-(2 ^ 62) ≤ j ∧ j < 2 ^ 62)); let n ← opt (ixOf j ys.length); let y ← opt ys[n]?; .ok (y, m.set k (.lst (ys.eraseIdx n))) : Out (D × List MO)) | _ => .bad) ≠ _
    split
    · exact calm_gd (calm_bind fun _ => calm_bind fun _ _ _ _ z => by cases z) c d s
    · intro z; cases z
  · cases y <;> (intro z; cases z)
def rCntD (K : PySem.W.Frag) : V → List V → Hp → VK → Prop := fun x xs H Q => ∃ (a : Addr) (y : V) (d : PyData) (ds : List PyData), x = V.ref a ∧ xs = [y] ∧ Dp K H (V.ref a) (.list ds) ∧ Dp K H y d ∧ PyData.canLayAll0 ds = true ∧ d.canLay0 = true ∧ d.depth ≤ 60 ∧
  Q (.int ((ds.countP fun z => PyData.eqv z d : Nat) : Int)) H
theorem mt_countD (hu : X.A.units + 65 < cLine) : MtR X "list.count" (rCntD X.K) := by
  intro pins s σ H x xs v us Q I rx rxs h
  obtain ⟨a, y, d, ds, rfl, rfl, hl, hy, c1, c2, c3, q⟩ := h
  cases rx
  cases rxs with
  | cons ry rt =>
    rename_i uy ut
    cases rt
    obtain ⟨bs, r1⟩ := Dp.reads I d y uy hy ry
    have hr : X.A.units + 1 + min (PyData.depthAll ds) d.depth < cLine := by
      have : min (PyData.depthAll ds) d.depth ≤ 60 := Nat.le_trans (Nat.min_le_right _ _) c3
      omega
    cases hl with
    | lst hs ha =>
      obtain ⟨its, rv, pl, hlen⟩ := I.list hs
      obtain ⟨as, h4⟩ := Dp.readsAll I ds _ its ha rv
      exact SeqAt.count_list_data (vs := its.toArray) pl.isList (by simpa using h4) r1 (PyData.plainAll_of_canLay0 _ c1) (PyData.plain_of_canLay0 _ c2) hr ⟨.int _, H, I.tok _, ⟨_, rfl⟩, q⟩
theorem countP_pd {x : D} (hx : okD 60 x = true) : ∀ {ys : List D}, ys.all (okD 60) = true → ((pds ys).countP fun y => PyData.eqv y (pd x)) = ys.countP fun y => eqB y x
  | [], _ => rfl
  | y :: r, h => by
    simp only [List.all_cons, Bool.and_eq_true] at h
    simp only [pds, List.countP_cons, countP_pd hx h.2, eqB_pd 60 60 y x h.1 hx]
theorem mt_D_count (hK : g.K = X.K) : MtD g fr (rCntD X.K) (fun m x xs => bmD m .count x xs) := by
  intro H ι m x xs v vs z m' Q r dx dn e k
  rcases xs with _ | ⟨y, _ | ⟨_, _⟩⟩ <;> try (cases e; done)
  obtain ⟨u, rfl, dy⟩ := denL1 dn
  have e : (match rslv m x with | .lst ys => (do .ok (.int (← opt (countD (rslv m y) ys)), m) : Out (D × List MO)) | _ => .bad) = .ok (z, m') := e
  split at e
  · rename_i ys hy
    obtain ⟨n, h2, e⟩ := opt_ok e
    cases e
    unfold countD at h2
    split at h2
    · rename_i h3
      simp only [Bool.and_eq_true] at h3
      simp only [Option.some.injEq] at h2
      subst h2
      obtain ⟨d1, d2, d3⟩ := okD_top r h3.1 dy
      obtain ⟨a, ws, rfl, ha, dw⟩ := dx.list r hy
      obtain ⟨e1, e2, e3⟩ := okD_dps 60 ys ws h3.2 dw
      refine ⟨a, u, _, pds ys, rfl, rfl, hK ▸ Dp.lst (SqL.of ha) e1, hK ▸ d1, e2, d2, d3, ?_⟩
      rw [countP_pd h3.1 h3.2]
      exact k _ _ ι (Le.refl _ _) r (by simp only [Den]) (Nw.flat (by intro a; constructor <;> (intro z; cases z)))
    · cases h2
  · cases e
theorem calm_count : ∀ m x xs c d s, bmD m .count x xs ≠ .exc c d s := by
  intro m x xs c d s
  rcases xs with _ | ⟨y, _ | ⟨_, _⟩⟩
  · intro z; cases z
  · show (match rslv m x with | .lst ys => (do .ok (.int (← opt (countD (rslv m y) ys)), m) : Out (D × List MO)) | _ => .bad) ≠ _
    split
    · exact calm_bind (fun _ _ _ _ z => by cases z) c d s
    · intro z; cases z
  · intro z; cases z
/-- the first place -/
theorem findIdx_pd {x : D} (hx : okD 60 x = true) : ∀ {ys : List D} {j : Nat}, ys.all (okD 60) = true → (ys.findIdx? fun y => eqB y x) = some j → (∃ z, (pds ys)[j]? = some z ∧ PyData.eqv z (pd x) = true) ∧ ∀ (n : Nat) z, n < j → (pds ys)[n]? = some z → PyData.eqv z (pd x) = false
  | [], j, _, h => by simp at h
  | y :: r, j, hy, h => by
    simp only [List.all_cons, Bool.and_eq_true] at hy
    have e1 : PyData.eqv (pd y) (pd x) = eqB y x := eqB_pd 60 60 y x hy.1 hx
    rw [List.findIdx?_cons] at h
    cases hb : eqB y x with
    | true =>
      rw [hb] at h
      simp only [if_true, Option.some.injEq] at h
      subst h
      exact ⟨⟨_, rfl, e1.trans hb⟩, fun n z hn => absurd hn (Nat.not_lt_zero _)⟩
    | false =>
      rw [hb] at h
      simp only [Bool.false_eq_true, if_false, Option.map_eq_some_iff] at h
      obtain ⟨j', h1, rfl⟩ := h
      obtain ⟨⟨z, h2, h3⟩, h4⟩ := findIdx_pd hx hy.2 h1
      refine ⟨⟨z, by simpa [pds] using h2, h3⟩, fun n z hn hz => ?_⟩
      cases n with
      | zero => simp only [pds, List.getElem?_cons_zero, Option.some.injEq] at hz; rw [← hz, e1, hb]
      | succ n => exact h4 n z (by omega) (by simpa [pds] using hz)
theorem mt_D_index (hK : g.K = X.K) : MtD g fr (rIndexD X.K) (fun m x xs => bmD m .index x xs) := by
  intro H ι m x xs v vs z m' Q r dx dn e k
  rcases xs with _ | ⟨y, _ | ⟨_, _⟩⟩ <;> try (cases e; done)
  obtain ⟨u, rfl, dy⟩ := denL1 dn
  have e : (match rslv m x with | .lst ys => (do .ok (.int (← opt (indexD (rslv m y) ys)), m) : Out (D × List MO)) | _ => .bad) = .ok (z, m') := e
  split at e
  · rename_i ys hy
    obtain ⟨n, h2, e⟩ := opt_ok e
    cases e
    unfold indexD at h2
    split at h2
    · rename_i h3
      simp only [Bool.and_eq_true] at h3
      obtain ⟨d1, d2, d3⟩ := okD_top r h3.1 dy
      obtain ⟨a, ws, rfl, ha, dw⟩ := dx.list r hy
      obtain ⟨e1, e2, e3⟩ := okD_dps 60 ys ws h3.2 dw
      obtain ⟨⟨z, h4, h5⟩, h6⟩ := findIdx_pd h3.1 h3.2 h2
      have s1 : SeqAt.shaped (.list (pds ys)) = true := by
        unfold SeqAt.shaped
        simp only [PyData.canLay0, PyData.depth, e2, Bool.true_and]
        exact decide_eq_true (by omega)
      exact ⟨a, u, _, pds ys, n, z, rfl, rfl, hK ▸ Dp.lst (SqL.of ha) e1, hK ▸ d1, s1, sh_of d2 d3, h4, h5, h6, k _ _ ι (Le.refl _ _) r (by simp only [Den]) (Nw.flat (by intro a; constructor <;> (intro z; cases z)))⟩
    · cases h2
  · cases e
theorem calm_index : ∀ m x xs c d s, bmD m .index x xs ≠ .exc c d s := by
  intro m x xs c d s
  rcases xs with _ | ⟨y, _ | ⟨_, _⟩⟩
  · intro z; cases z
  · show (match rslv m x with | .lst ys => (do .ok (.int (← opt (indexD (rslv m y) ys)), m) : Out (D × List MO)) | _ => .bad) ≠ _
    split
    · exact calm_bind (fun _ _ _ _ z => by cases z) c d s
    · intro z; cases z
  · intro z; cases z
end
end SV
set_option linter.all false
set_option Elab.async false
set_option maxRecDepth 100000
set_option maxHeartbeats 4000000
namespace SV
open PySem PySem.Spec PyProof.Rows L2
section
variable {X : Cx} {g : Cfg} {c : Tc} {W : WX} {w : SV.W} {x : Str} {i : Nat} {H H' : Hp} {ι ι' : Io} {m : List MO} {fr : Bool} {CX : CXT} {k : Nat}
variable {a b d e : Expr} {a' b' d' : Ex} {es : List Expr} {es' : Exs} {p tp apos pos : Pos} {fra frb frd : Bool}
theorem kitBB : ([none, some .int, some .bool, some .str, some .tuple, some .list, some .dict] : List (Option Ty)).all (fun a => ([.int, .bool, .str, .tuple, .list, .dict] : List Ty).all fun t => decide (kitB (tyN a) (tyN (some t)) = some (decide (a = some t ∨ (a = some .bool ∧ t = .int))))) = true := by decide +kernel
theorem kit_bb {K : PySem.W.Frag} {a : Option Ty} {t : Ty} (ha : ∀ c, a ≠ some (.own c)) (ht : ∀ c, t ≠ .own c) : PySem.W.kitOne K (.type (tyN a)) (.type (tyN (some t))) = some (decide (a = some t ∨ (a = some .bool ∧ t = .int))) := by
  have h := kitBB
  rw [List.all_eq_true] at h
  have h1 := h a (by
    rcases a with _ | a
    · simp
    · cases a <;> first | (simp; done) | exact absurd rfl (ha _))
  rw [List.all_eq_true] at h1
  have h2 := h1 t (by cases t <;> first | (simp; done) | exact absurd rfl (ht _))
  exact kit_ty (of_decide_eq_true h2)
/-- a value's type, by its kind -/
theorem kind_ty (T : Fx X g W w CX k) (hK : g.K = X.K) {x : D} {v : V} (r : Rel g H ι m) (dn : Den g H ι x v) {q : Option Ty ⊕ Nat} (h : kindD m x = some q) :
    (∃ a, q = .inl a ∧ (∀ c, a ≠ some (.own c)) ∧ TyX X.K H v (.type (tyN a))) ∨ ∃ cl, q = .inr cl ∧ cl < 9 ∧ TyX X.K H v (.ref (g.aC cl)) := by
  have own : ∀ (a : Addr) (cl : Nat) dx fs, cl < 9 → H a = some (.ins (g.aC cl) dx fs) → TyX X.K H (.ref a) (.ref (g.aC cl)) := fun a cl dx fs hc e => by
    have I := T.ins cl hc
    exact .base (.ins e (T.cls cl hc) I.ha I.hn I.htk I.hm)
  cases x with
  | non => simp only [kindD, Option.some.injEq] at h; simp only [Den] at dn; subst h dn; exact .inl ⟨none, rfl, (by intro c z; cases z), .base .non⟩
  | bl b => simp only [kindD, Option.some.injEq] at h; simp only [Den] at dn; subst h dn; exact .inl ⟨_, rfl, (by intro c z; cases z), .base (.bl b)⟩
  | int b => simp only [kindD, Option.some.injEq] at h; simp only [Den] at dn; subst h dn; exact .inl ⟨_, rfl, (by intro c z; cases z), .base (.int b)⟩
  | str b => simp only [kindD, Option.some.injEq] at h; simp only [Den] at dn; subst h dn; exact .inl ⟨_, rfl, (by intro c z; cases z), .base (.str b)⟩
  | tup xs =>
    simp only [kindD, Option.some.injEq] at h; subst h
    simp only [Den] at dn
    obtain ⟨a, vs, rfl, ⟨ha, _⟩, _⟩ := dn
    exact .inl ⟨_, rfl, (by intro c z; cases z), .base (.tup ha)⟩
  | lst xs =>
    simp only [kindD, Option.some.injEq] at h; subst h
    simp only [Den] at dn
    obtain ⟨a, vs, rfl, ⟨ha, _⟩, _⟩ := dn
    exact .inl ⟨_, rfl, (by intro c z; cases z), .base (.lst ha)⟩
  | dct es =>
    simp only [kindD] at h
    split at h
    · rename_i hk
      cases h
      obtain ⟨a, rfl, ha⟩ := dn.dctAt r (es := es) (by simp only [dctOf])
      obtain ⟨kvs, h1, _⟩ := ha.dK hk
      exact .inl ⟨_, rfl, (by intro c z; cases z), .base (.dK h1)⟩
    · cases h
  | ins cl xs =>
    simp only [kindD, Option.some.injEq] at h; subst h
    have d2 := dn
    simp only [Den] at dn
    obtain ⟨a, dx, vs, ns, rfl, ⟨ha, _⟩, hf, _, _⟩ := dn
    have hc : cl < 9 := by
      unfold flds at hf
      split at hf <;> first | omega | cases hf
    exact .inr ⟨cl, rfl, hc, own a cl _ _ hc ha⟩
  | ref j =>
    simp only [kindD] at h
    split at h
    · rename_i ys hm
      cases h
      obtain ⟨a, rfl, _, vs, ha, _⟩ := dn.refAt r hm (by intro z; cases z)
      exact .inl ⟨_, rfl, (by intro c z; cases z), .base (.lst ha)⟩
    · rename_i es hm
      split at h
      · rename_i hk
        cases h
        obtain ⟨a, rfl, _, ha⟩ := dn.refAt r hm (by intro z; cases z)
        obtain ⟨kvs, h1, _⟩ := DctAt.dK ha hk
        exact .inl ⟨_, rfl, (by intro c z; cases z), .base (.dK h1)⟩
      · cases h
    · rename_i cl fs hm
      split at h
      · rename_i hc
        cases h
        obtain ⟨a, rfl, _, dx, fs', ha, hF, hl⟩ := dn.refAt r hm (by intro z; cases z)
        exact .inr ⟨cl, rfl, hc, own a cl _ _ hc ha⟩
      · cases h
    · cases h
  | _ => cases h
/-- isinstance(e, T), T a built-in type or an own class -/
theorem ev_isi {t : Ty} {cv : V} {u : Value} {y : Str} (G : Gd X g c) (T : Fx X g W w CX k) (hx : isGlob c "isinstance" = true) (ha : PE X a (tD g W fra (evE w a'))) (h1 : noStar a = true) (hb : PE X b (tC cv)) (hs : noStar b = true) (hcv : ClsV cv u)
    (h : (∃ n, t = .own n ∧ n ∈ g.asks ∧ u = .ref (g.aC n)) ∨ ((∀ n, t ≠ .own n) ∧ u = .type (tyN (some t)))) :
    PE X (.Call (.Name "isinstance" p) [a, b] [] pos) (tD g W fr (evE w (.isi a' t))) := by
  obtain ⟨hg, _⟩ := glob_ok G hx
  refine PE.imp (pe_callB call_isi hg (T.blt "isinstance" (by decide +kernel)) (by decide +kernel) (pa_cons ha (pa_cons hb pa_nil (starEach_one hs)) (starEach_one h1)) (by decide) (by decide) (starEach_one h1) (any_plain [b] (by simp [hs]))) fun σ H Q q => ?_
  obtain ⟨ι, s, sr, o⟩ := q
  simp only [evE] at o
  refine tD.then sr (OutP.bnd o) (fun _ _ _ h => h) fun x s1 v H1 ι1 o1 l1 sr1 d1 _ => ?_
  have o1 := OutP.bnd o1
  cases e : isiD s1.m x t with
  | bad => rw [e] at o1; exact o1.elim
  | exc c d s =>
    exfalso
    unfold isiD at e
    split at e <;> first | (split at e <;> cases e) | cases e
  | ok bb =>
    rw [e] at o1
    have fin : Q (.bl bb) H1 := o1 _ H1 ι1 l1 sr1 (by simp only [Den]) (Nw.flat (by intro a; constructor <;> (intro z; cases z)))
    unfold isiD at e
    cases hk : kindD s1.m x with
    | none => rw [hk] at e; cases e
    | some q =>
      rw [hk] at e
      rcases kind_ty T G.K sr1.2 d1 hk with ⟨a, rfl, na, ty⟩ | ⟨cl, rfl, hc, ty⟩
      · rcases h with ⟨n, rfl, hn, rfl⟩ | ⟨ht, rfl⟩
        · dsimp only at e
          split at e
          · cases e
            exact ⟨v, cv, _, _, false, rfl, hcv, ty, (T.isi n hn).kb a na, fin⟩
          · cases e
        · have e : Out.ok (decide (a = some t ∨ (a = some .bool ∧ t = .int))) = .ok bb := by
            cases t <;> first | exact e | exact absurd rfl (ht _)
          cases e
          exact ⟨v, cv, _, _, _, rfl, hcv, ty, kit_bb na ht, fin⟩
      · rcases h with ⟨n, rfl, hn, rfl⟩ | ⟨ht, rfl⟩
        · dsimp only at e
          split at e
          · rename_i hh
            cases e
            exact ⟨v, cv, _, _, _, rfl, hcv, ty, (T.isi n hn).ko cl hc hh, fin⟩
          · cases e
        · have e : Out.ok false = .ok bb := by
            cases t <;> first | exact e | exact absurd rfl (ht _)
          cases e
          exact ⟨v, cv, _, _, _, rfl, hcv, ty, (T.ins cl hc).kb t ht, fin⟩
/-- a class's name as a value -/
theorem pe_own {n : Nat} {y : Str} (G : Gd X g c) (T : Fx X g W w CX k) (hx : isGlob c y = true) (hn : n ∈ g.asks) (hy : tGet tCls y = some n) : PE X (.Name y p) (tC (.ref (g.aC n))) := by
  obtain ⟨hg, ho⟩ := glob_ok G hx
  exact pe_glob hg ((T.isi n hn).mg y hy) rfl (okN_d ho).1
theorem pe_bty {y : Str} {id : String} (G : Gd X g c) (hx : isGlob c y = true) (hm : X.mg y = none) (hv : bootBuiltins y = some (.type id)) : PE X (.Name y p) (tC (.ty id)) := by
  obtain ⟨hg, ho⟩ := glob_ok G hx
  exact pe_bltn hg hm hv rfl (okN_d ho).2.2 (okN_d ho).1
theorem ev_isiO {n : Nat} {y : Str} (G : Gd X g c) (T : Fx X g W w CX k) (hx : isGlob c "isinstance" = true) (ha : PE X a (tD g W fra (evE w a'))) (h1 : noStar a = true) (hy : isGlob c y = true) (hn : n ∈ g.asks) (hy2 : tGet tCls y = some n) :
    PE X (.Call (.Name "isinstance" p) [a, .Name y tp] [] pos) (tD g W fr (evE w (.isi a' (.own n)))) :=
  ev_isi (y := y) G T hx ha h1 (pe_own G T hy hn hy2) rfl (.own _) (.inl ⟨n, rfl, hn, rfl⟩)
theorem ev_isiB {t : Ty} {y : Str} (G : Gd X g c) (T : Fx X g W w CX k) (hx : isGlob c "isinstance" = true) (ha : PE X a (tD g W fra (evE w a'))) (h1 : noStar a = true) (hy : isGlob c y = true) (hm : X.mg y = none) (ht : ∀ n, t ≠ .own n) (hv : bootBuiltins y = some (.type (tyN (some t)))) :
    PE X (.Call (.Name "isinstance" p) [a, .Name y tp] [] pos) (tD g W fr (evE w (.isi a' t))) :=
  ev_isi (y := y) G T hx ha h1 (pe_bty G hy hm hv) rfl (.ty _) (.inr ⟨ht, rfl⟩)
/-- constants of the text -/
theorem ev_gint {y : Str} {n : Int} (G : Gd X g c) (T : Fx X g W w CX k) (hx : isGlob c y = true) (hn : (y, n) ∈ g.cnI) : PE X (.Name y p) (tD g W fr (evE w (.cst (.int n)))) := by
  obtain ⟨hg, ho⟩ := glob_ok G hx
  obtain ⟨t, ht⟩ := T.cI y n hn
  exact PE.imp (pe_glob (v := .int n) hg ht ⟨_, rfl⟩ (okN_d ho).1) fun σ H Q q => cst_imp (fun _ _ => by simp only [Den]) (by intro a; constructor <;> (intro z; cases z)) q
end
end SV
set_option linter.all false
set_option Elab.async false
set_option maxRecDepth 100000
set_option maxHeartbeats 4000000
namespace SV
open PySem PySem.Spec PyProof.Rows L2
section
variable {X : Cx} {g : Cfg} {c : Tc} {W : WX} {w : SV.W} {x : Str} {i : Nat} {pins : List (Addr × Obj)} {s : Shared} {σ σ' : L2.St} {H H' : Hp} {ι ι' : Io} {st st' : S}
variable {a b d : Expr} {a' b' d' : Ex} {p pos tpos : Pos} {fra frb frd fr frr : Bool} {own own1 : List Nat} {es : List Expr} {t t1 : Tg} {ts : Tgs} {ex : Option (Nat × SV.D)}
variable {elt tg iter tg1 iter1 : Expr} {scope : Scope} {ow : List (Str × Nat)} {e' : Ex} {it' it1' : SV.It}
structure Lc2Ok (X : Cx) (g : Cfg) (W : WX) (w : SV.W) (elt tg iter tg1 iter1 : Expr) (scope : Scope) (ow : List (Str × Nat)) (own1 : List Nat) (e' : Ex) (t : Tg) (it' : SV.It) (t1 : Tg) (it1' : SV.It) : Prop where
  it : PI X tg iter (iD g W (evI w it'))
  ok : BlkOk X.N X.env.scope scope ow
  hv : ∀ i ∈ own1, i ∈ ow.map (·.2)
  tg : ∀ (s : Shared) (H : Hp) (C : Addr) (cl : List (Str × Addr)) (fp : List Addr), PG (X.blk s H scope (compEnvC scope cl C X.env) fp) tg (gW g (ow.map (·.2)) (asg w t))
  it1 : ∀ (s : Shared) (H : Hp) (C : Addr) (cl : List (Str × Addr)) (fp : List Addr), PI (X.blk s H scope (compEnvC scope cl C X.env) fp) tg1 iter1 (iD g W0 (evI w it1'))
  tg1 : ∀ (s : Shared) (H : Hp) (C : Addr) (cl : List (Str × Addr)) (fp : List Addr), PG (X.blk s H scope (compEnvC scope cl C X.env) fp) tg1 (gW g own1 (asg w t1))
  el : ∀ (s : Shared) (H : Hp) (C : Addr) (cl : List (Str × Addr)) (fp : List Addr), PE (X.blk s H scope (compEnvC scope cl C X.env) fp) elt (tD g W0 false (evE w e'))
  fs : ∀ x, foldedSetIterable iter X.env x = pure x
  fs1 : ∀ env x, foldedSetIterable iter1 env x = pure x
end
end SV
set_option linter.all false
set_option Elab.async false
set_option maxRecDepth 100000
set_option maxHeartbeats 4000000
namespace SV
open PySem PySem.Spec PyProof.Rows L2
section
variable {X : Cx} {g : Cfg} {c : Tc} {W : WX} {w : SV.W} {x : Str} {i : Nat} {pins : List (Addr × Obj)} {s : Shared} {σ : L2.St} {H : Hp} {ι : Io} {st : S} {CX : CXT} {k : Nat} {f : Addr}
variable {a b d : Expr} {a' b' d' : Ex} {es : List Expr} {es' : Exs} {p pos : Pos} {fra frb frd fr : Bool} {fa fb fd : S → Out (D × S)} {cal : List D → List MO → Out (D × List MO)}
/-- a callee within a built-in function -/
theorem run_in1 (F : FnR X.prog X.w X.K X.mg X.base CX k f (spF g fr cal)) (hr : Room (k + 1) X.A) (px : PassX CX X W) (I : Inv X pins σ H s) (sr : SR g H ι σ st) {us : List Value} {vs : List V} {ds : List D} {Q : VK} (r : Vals vs us) (dn : DenL g H ι ds vs)
    (q : OutP (SV.inS st (cal ds st.m)) (fun p => ∀ v H' ι', Le H ι H' ι' → SR g H' ι' σ p.2 → Den g H' ι' p.1 v → Nw fr g (fun H1 ι1 => Le H ι H1 ι1 ∧ SR g H1 ι1 σ p.2) H' ι' p.1 v → Q v H') (XC g W H ι σ)) :
    codeAny (model X.prog X.w) X.A.in1 (.call (.ref f) ⟨us, []⟩) (fun r s' => match r with | .ok (.ret v) => EP X pins σ Q v s' | .ok _ => False | .error e => X.xe e s') s := by
  rw [OutP.inS] at q
  have h : spF g fr cal vs H Q (fun cls d H' => W cls d σ H') := ⟨ι, ds, st.m, sr.2, dn, q.mono (fun p hp v H' ι' l r dn nw => hp v H' ι' l ⟨sr.1.le l, r⟩ dn (nw.imp fun H1 ι1 z => ⟨z.1, sr.1.le z.1, z.2⟩)) fun c d s z => ⟨z.1, fun cls dd H' ι' l r e => z.2 cls dd σ H' ι' l ⟨sr.1.le l, r⟩ e⟩⟩
  refine codeAny_mono (F X.A.in1 X.stack s H us vs Q _ hr.in1 I.env0.in1 r h) fun r s' hq => ?_
  cases r with
  | error e => exact px pins σ H s _ e s' I hq fun _ _ _ z => z
  | ok fl =>
    cases fl with
    | ret u => exact I.after hq
    | next => exact False.elim hq
    | brk => exact False.elim hq
    | cont => exact False.elim hq
/-- an instance in the heap, for the machine's own rules -/
theorem Inv.inst {C : Addr} {p dx : Addr} {fs : List (Str × V)} (I : Inv X pins σ H s) (e : H p = some (.ins C dx fs)) : ∃ ox od, PySem.W.InstAt s.heap p ox C od := by
  obtain ⟨mA, O, _⟩ := ins_get I.hok e
  obtain ⟨od, J, _⟩ := O.look
  exact ⟨_, _, J⟩
/-- a special method of an own instance -/
theorem spc (T : Fx X g W w CX k) {m : Nat} (h1 : 1 ≤ m) (h5 : m ≤ 5) {x : D} {v : V} {xs : List D} {P : D × S → Prop} {E : Nat → D → S → Prop} (r : Rel g H ι st.m) (dn : Den g H ι x v) (q : OutP (callM w x m xs st) P E) :
    ∃ p cl f dx fs, v = .ref p ∧ H p = some (.ins (g.aC cl) dx fs) ∧ SpcIn X.K (g.aC cl) m (g.aF f) ∧ FnR X.prog X.w X.K X.mg X.base CX k (g.aF f) (spF g (freshB f) (w.call f)) ∧ OutP (SV.inS st (w.call f (x :: xs) st.m)) P E := by
  unfold callM at q
  split at q
  · rename_i cl hcl
    split at q
    · rename_i f hf
      obtain ⟨hc9, _, _, _, hS⟩ := T.mth cl m f hf
      obtain ⟨p, rfl, dx, fs, ea⟩ := dn.insAt r hcl
      exact ⟨p, cl, f, dx, fs, rfl, ea, hS h1 h5, fn_or T q, q⟩
    · exact q.elim
  · exact q.elim
theorem post_off {o : Out (D × S)} {fr' : Bool} {Q : VK} (q : OutP o (fun p => ∀ v H' ι', Le H ι H' ι' → SR g H' ι' σ p.2 → Den g H' ι' p.1 v → Q v H') (XC g W H ι σ)) :
    OutP o (fun p => ∀ v H' ι', Le H ι H' ι' → SR g H' ι' σ p.2 → Den g H' ι' p.1 v → Nw fr' g (fun H1 ι1 => Le H ι H1 ι1 ∧ SR g H1 ι1 σ p.2) H' ι' p.1 v → Q v H') (XC g W H ι σ) :=
  q.mono (fun p hp v H' ι' l r d _ => hp v H' ι' l r d) fun _ _ _ z => z
theorem post_no {o : Out (D × S)} {Q : VK} (q : OutP o (fun p => ∀ v H' ι', Le H ι H' ι' → SR g H' ι' σ p.2 → Den g H' ι' p.1 v → Nw false g (fun H1 ι1 => Le H ι H1 ι1 ∧ SR g H1 ι1 σ p.2) H' ι' p.1 v → Q v H') (XC g W H ι σ)) :
    OutP o (fun p => ∀ v H' ι', Le H ι H' ι' → SR g H' ι' σ p.2 → Den g H' ι' p.1 v → Q v H') (XC g W H ι σ) :=
  q.mono (fun p hp v H' ι' l r d => hp v H' ι' l r d Nw.no) fun _ _ _ z => z
/-- -x -/
theorem neg_X (T : Fx X g W w CX k) : UnX X g W (unaryOp .USub) (negF w) := by
  intro pins s σ H ι x v vv st Q I sr dn rv q
  have own : ∀ (o : OutP (callM w x 2 [] st) (fun p => ∀ v H' ι', Le H ι H' ι' → SR g H' ι' σ p.2 → Den g H' ι' p.1 v → Q v H') (XC g W H ι σ)), wpAny (model X.prog X.w) X.A (unaryOp .USub vv) (EP X pins σ Q) X.xe s := by
    intro o
    obtain ⟨p, cl, f, dx, fs, rfl, ea, S, F, o⟩ := spc T (m := 2) (by omega) (by omega) sr.2 dn o
    cases rv
    obtain ⟨ox, od, J⟩ := Inv.inst I ea
    obtain ⟨m, hF⟩ := I.fr
    exact PySem.W.ksp_neg hF I.ok.mod.kin J S.at_ S.fi (wpAny_call (run_sp (us := [.ref p]) (vs := [.ref p]) F (T.room.mono (by omega)) T.px I sr (.cons rfl .nil) (DenL.cons dn DenL.nil) (post_off o)))
  cases x with
  | int n =>
    simp only [Den] at dn
    subst dn
    exact un_neg pins s σ H _ _ Q I rv ⟨n, rfl, q _ H ι (Le.refl _ _) sr (by simp only [Den])⟩
  | _ => exact own q
theorem ev_neg (T : Fx X g W w CX k) (ha : PE X a (tD g W fra (evE w a'))) : PE X (.UnaryOp .USub a pos) (tD g W false (evE w (.neg a'))) :=
  PE.imp (ev_unX (neg_X T) ha) fun σ H Q q => by simpa only [evE] using q
/-- x[y] -/
def IxX (X : Cx) (g : Cfg) (W : WX) (fr : Bool) (f : D → D → S → Out (D × S)) : Prop :=
  ∀ (value slice : Expr) (pins : List (Addr × Obj)) (s : Shared) (σ : L2.St) (H : Hp) (ι : Io) (x y : D) (v u : V) (vv uu : Value) (st : S) (Q : VK), Inv X pins σ H s → SR g H ι σ st → Den g H ι x v → Den g H ι y u → RelV v vv → RelV u uu →
    (∀ o i, subscripted slice false o i = operate [o, i] (getItem o i)) → (∀ o i, subscripted slice true o i = runValue (.builtin "lifetime.subscript" ⟨[o, i], []⟩)) →
    OutP (f x y st) (fun p => ∀ v H' ι', Le H ι H' ι' → SR g H' ι' σ p.2 → Den g H' ι' p.1 v → Nw fr g (fun H1 ι1 => Le H ι H1 ι1 ∧ SR g H1 ι1 σ p.2) H' ι' p.1 v → Q v H') (XC g W H ι σ) →
    wpAny (model X.prog X.w) X.A (subscriptTail value slice vv uu) (EP X pins σ Q) X.xe s
theorem subD_calm {m : List MO} {x y : D} : ∀ c d s, subD m x y ≠ .exc c d s := by
  intro c d s
  unfold subD
  split
  · exact calm_gd (fun c d s => calm_opt c d s) c d s
  · unfold subSq
    split
    · exact calm_gd (calm_bind fun _ => calm_bind fun _ _ _ _ z => by cases z) c d s
    · exact calm_bind (fun _ => calm_bind fun _ => calm_opt) c d s
    · intro z; cases z
theorem sub_X (G : Gd X g c) (T : Fx X g W w CX k) : IxX X g W false (subF w) := by
  intro value slice pins s σ H ι x y v u vv uu st Q I sr dx dy rv ru hs hl q
  unfold subF at q
  split at q
  · obtain ⟨p, cl, f, dxx, fs, rfl, ea, S, F, o⟩ := spc T (m := 4) (by omega) (by omega) sr.2 dx q
    cases rv
    obtain ⟨ox, od, J⟩ := Inv.inst I ea
    obtain ⟨m, hF⟩ := I.fr
    exact PySem.W.sub_K hF I.ok.mod.kin J S.at_ S.fn S.fi (wpAny_call (run_in1 (us := [.ref p, uu]) (vs := [.ref p, u]) F (T.room.mono (by omega)) T.px I sr (.cons rfl (.cons ru .nil)) (DenL.cons dx (DenL.cons dy DenL.nil)) (post_off (post_no o)))) (hl _ _)
  · have q := OutP.bnd q
    cases e : subD st.m x y with
    | bad => rw [e] at q; exact q.elim
    | exc c d t => exact absurd e (subD_calm _ _ _)
    | ok z =>
      rw [e] at q
      have hu := G.un
      exact sub_S (g := g) G.P G.ww G.K (by omega) value slice pins s σ H v u vv uu Q I rv ru ⟨ι, st.m, x, y, z, sr.2, dx, dy, e, fun w H' ι' l r d n => q w H' ι' l ⟨sr.1.le l, r⟩ d Nw.no⟩ (hs _ _)
theorem ev_sub (G : Gd X g c) (T : Fx X g W w CX k) (ha : PE X a (tD g W fra (evE w a'))) (hb : PE X b (tD g W frb (evE w b'))) (hs : ∀ o i, subscripted b false o i = operate [o, i] (getItem o i)) (hl : ∀ o i, subscripted b true o i = runValue (.builtin "lifetime.subscript" ⟨[o, i], []⟩)) :
    PE X (.Subscript a b pos) (tD g W false (evE w (.sub a' b'))) := by
  refine ⟨fun pins s σ H Q I q => ?_⟩
  obtain ⟨ι, st, sr, o⟩ := q
  simp only [evE] at o
  refine Subscript_ (runD ha I sr (OutP.bnd o) (fun _ _ _ z => z) fun v vv s1 H1 ι1 x st1 I1 r1 l1 sr1 d1 o1 => ?_)
  refine runD hb I1 sr1 (OutP.bnd o1) (fun _ _ _ z => z.mono l1) fun u uu s2 H2 ι2 y st2 I2 r2 l2 sr2 d2 o2 => ?_
  exact sub_X G T a b pins s2 σ H2 ι2 x y v u vv uu st2 Q I2 sr2 (d1.le l2) d2 r1 r2 hs hl (OutP.on (l1.trans l2) o2)
/-- len -/
theorem len_X (T : Fx X g W w CX k) : CaX X g W fr (fun us => call (.builtin "len") us) (bifF w .len) := by
  intro pins s σ H ι xs vs us st Q I sr dn r q
  rcases xs with _ | ⟨x, _ | ⟨y, t⟩⟩
  · exact bi_len pins s σ H ι [] vs us st Q I sr dn r q
  · have q : OutP (lenF w x st) _ _ := q
    unfold lenF at q
    split at q
    · have q := OutP.bnd q
      obtain ⟨v, rfl, dx⟩ := denL1 dn
      cases r with
      | cons rv rt =>
        cases rt
        obtain ⟨p, cl, f, dxx, fs, rfl, ea, S, F, o⟩ := spc T (m := 3) (by omega) (by omega) sr.2 dx q
        cases rv
        obtain ⟨ox, od, J⟩ := Inv.inst I ea
        obtain ⟨m, hF⟩ := I.fr
        refine PySem.W.len_K hF I.ok.mod.kin J S.at_ S.fi (wpAny_mono (wpAny_call (run_in1 (Q := fun v H' => ∃ n : Int, v = .int n ∧ (0 ≤ n ∧ n < 2 ^ 63) ∧ Q (.int n) H') (us := [.ref p]) (vs := [.ref p]) F (T.room.mono (by omega)) T.px I sr (.cons rfl .nil) (DenL.cons dx DenL.nil) (post_off (o.mono (fun pz hz v H' ι' l r d => ?_) fun _ _ _ z => z)))) (fun u s' hu => ?_) fun _ _ z => z)
        · obtain ⟨z, st'⟩ := pz
          dsimp only at hz r d
          cases z with
          | int n =>
            dsimp only at hz
            obtain ⟨h1, hz⟩ := OutP.gd.mp (OutP.bnd hz)
            have h1 := of_decide_eq_true h1
            simp only [Den] at d
            refine ⟨n, d, ⟨h1.1, by omega⟩, hz _ H' ι' l r (by simp only [Den]) (Nw.flat (by intro a; constructor <;> (intro z; cases z)))⟩
          | _ => exact hz.elim
        · obtain ⟨v, H', I', rv, n, rfl, hn, hq⟩ := hu
          obtain ⟨t, rfl⟩ := rv
          exact ⟨hn, ⟨.int n, H', I'.tok _, ⟨_, rfl⟩, hq⟩⟩
    · exact bi_len pins s σ H ι [x] vs us st Q I sr dn r q
  · exact bi_len pins s σ H ι (x :: y :: t) vs us st Q I sr dn r q
end
end SV
set_option linter.all false
set_option Elab.async false
set_option maxRecDepth 100000
set_option maxHeartbeats 4000000
namespace SV
open PySem PySem.Spec PyProof.Rows L2
section
variable {X : Cx} {g : Cfg} {c : Tc} {W : WX} {w : SV.W} {x : Str} {i : Nat} {pins : List (Addr × Obj)} {s : Shared} {σ : L2.St} {H : Hp} {ι : Io} {st : S} {CX : CXT} {k : Nat} {f : Addr}
variable {a b d e : Expr} {a' b' d' : Ex} {es rest : List Expr} {es' : Exs} {p pos : Pos} {fra frb frd fr : Bool} {fa fb fd : S → Out (D × S)}
def eqS2 (m : List MO) (x y : D) : Out D := match eqDct m x y with
  | some b => .ok (.bl b)
  | none => do .ok (.bl (← opt (eqX (rslv m x) (rslv m y))))
theorem eq_S2 (G : Gd X g c) : OpR X (compareOp .Eq) (rS g false eqS2) :=
  rS_or (eq_Sc (by have := G.un; omega)) (eq_Sx G.K (by have := G.un; omega)) fun m x y z h => by
      unfold eqS2 at h
      split at h
      · rename_i b hb
        left
        unfold eqSc
        rw [hb]
        exact h
      · rename_i hb
        right
        obtain ⟨b, h1, h⟩ := opt_ok h
        cases h
        unfold eqX at h1
        unfold eqSx
        split at h1
        · split at h1
          · rename_i h2
            clear h
            cases h1
            rename_i e1 e2
            try rw [e1, e2]
            try dsimp only
            rw [if_pos h2]
          · cases h1
        · split at h1
          · rename_i h2
            clear h
            cases h1
            rename_i e1 e2
            try rw [e1, e2]
            try dsimp only
            rw [if_pos h2]
          · cases h1
        · cases h1
theorem cmp_S (G : Gd X g c) : ∀ op, OpR X (compareOp op) (rS g false fun m x y => cmpD m op x y)
  | .Eq => rS_or (eq_Sd G.K (by have := G.un; omega)) (eq_S2 G) fun m x y z h => by
      have h : (match eqD (rslv m x) (rslv m y) with | some b => .ok (.bl b) | none => eqS2 m x y : Out D) = .ok z := h
      split at h
      · rename_i b hb
        cases h
        left
        unfold eqSd
        rw [hb]
        rfl
      · exact .inr h
  | .NotEq => rS_or (ne_Sd G.K (by have := G.un; omega)) (ne_Sc (by have := G.un; omega)) fun m x y z h => by
      have h : (match eqD (rslv m x) (rslv m y) with | some b => .ok (.bl (!b)) | none => neSc m x y : Out D) = .ok z := h
      split at h
      · rename_i b hb
        cases h
        left
        unfold neSd
        rw [hb]
        rfl
      · exact .inr h
  | .Lt => lt_S
  | .Gt => gt_S G.K (by have := G.un; omega)
  | .LtE => le_S
  | .GtE => ge_S
  | .Is => is_S
  | .IsNot => isnot_S
  | .In => in_S G.P G.ww G.K (by have := G.un; omega)
  | .NotIn => notIn_S G.P G.ww G.K (by have := G.un; omega)
theorem cmp_calm2 (op : CmpOp) : Calm2 (fun m x y => cmpD m op x y) := cmp_calm op
theorem cmp_X (G : Gd X g c) (op : CmpOp) : OpX X g W false (compareOp op) (cmpF w op) := by
  intro pins s σ H ι x y v u vv uu st Q I sr dx dy rv ru q
  unfold cmpF at q
  split at q
  · exact q.elim
  · exact opX_of (W := W) (cmp_S G op) (cmp_calm2 op) pins s σ H ι x y v u vv uu st Q I sr dx dy rv ru q
theorem ev_cmp {op : CmpOp} (G : Gd X g c) (ha : PE X a (tD g W fra (evE w a'))) (hb : PE X b (tD g W frb (evE w b'))) (hm : behindInMarks op b = false) : PE X (.Compare a [op] [b] pos) (tD g W false (evE w (.cmp op a' b'))) :=
  PE.imp (ev_cmpX (cmp_X (w := w) G op) ha hb hm) fun σ H Q q => by simpa only [evE] using q
theorem pt_cmp {op : CmpOp} (G : Gd X g c) (ha : PE X a (tD g W fra (evE w a'))) (hb : PE X b (tD g W frb (evE w b'))) (hm : behindInMarks op b = false) : PT X (.Compare a [op] [b] pos) (tDb g W (bE (evE w (.cmp op a' b')))) :=
  PT.imp (pt_cmpX (cmp_X (w := w) G op) ha hb hm) fun σ H Q q => by
    obtain ⟨ι, st, sr, o⟩ := q
    exact ⟨ι, st, sr, by simpa only [bE, evE] using o⟩
/-- within a chain of comparisons: by data alone -/
theorem cmpD_X (G : Gd X g c) (op : CmpOp) : OpX X g W false (compareOp op) (calmF fun m x y => cmpD m op x y) := opX_of (cmp_S G op) (cmp_calm2 op)
theorem chn_eq {o1 o2 : CmpOp} : evE w (.chn o1 o2 a' b' d') = chnF (calmF fun m x y => cmpD m o1 x y) (calmF fun m x y => cmpD m o2 x y) (evE w a') (evE w b') (evE w d') := by
  funext s
  simp only [evE, chnF, calmF]
  cases evE w a' s with
  | ok p =>
    obtain ⟨x, s1⟩ := p
    show (evE w b' s1 >>= _) = (evE w b' s1 >>= _)
    cases evE w b' s1 with
    | ok q =>
      obtain ⟨y, s2⟩ := q
      show (cmpD s2.m o1 x y >>= fun z => asBool z >>= _) = ((cmpD s2.m o1 x y >>= fun z => Out.ok (z, s2)) >>= _)
      cases cmpD s2.m o1 x y <;> rfl
    | exc c d t => rfl
    | bad => rfl
  | exc c d t => rfl
  | bad => rfl
theorem ev_chn {o1 o2 : CmpOp} (G : Gd X g c) (ha : PE X a (tD g W fra (evE w a'))) (hb : PE X b (tD g W frb (evE w b'))) (hd : PE X d (tD g W frd (evE w d'))) (hm : lastMarks [o1, o2] [b, d] = false) :
    PE X (.Compare a [o1, o2] [b, d] pos) (tD g W false (evE w (.chn o1 o2 a' b' d'))) := by
  rw [chn_eq]
  exact ev_chnX (cmpD_X G o1) (cmpD_X G o2) ha hb hd hm
theorem and_eq : evE w (.and a' b') = andF (evE w a') (evE w b') := by funext s; simp only [evE, andF]
theorem or_eq : evE w (.or a' b') = orF (evE w a') (evE w b') := by funext s; simp only [evE, orF]
theorem not_eq : evE w (.not a') = notF (evE w a') := by funext s; simp only [evE, notF]
theorem ite_eq : evE w (.ite a' b' d') = iteF (evE w a') (evE w b') (evE w d') := by funext s; simp only [evE, iteF]
theorem ev_and2 (ha : PE X a (tD g W fra (evE w a'))) (hb : PE X (.BoolOp .And (b :: rest) pos) (tD g W frb (evE w b'))) : PE X (.BoolOp .And (a :: b :: rest) pos) (tD g W false (evE w (.and a' b'))) := by
  rw [and_eq]; exact ev_and ha hb
theorem ev_bool1 {op : BoolOp} (ha : PE X a (tD g W fr fa)) : PE X (.BoolOp op [a] pos) (tD g W fr fa) := pe_one ha
theorem ev_not2 (ha : PE X a (tD g W fra (evE w a'))) : PE X (.UnaryOp .Not a pos) (tD g W false (evE w (.not a'))) := by
  rw [not_eq]; exact ev_not ha
theorem ev_ite2 (hc : PT X e (tDb g W (bE (evE w d')))) (ha : PE X a (tD g W fr (evE w a'))) (hb : PE X b (tD g W fr (evE w b'))) : PE X (.IfExp e a b pos) (tD g W fr (evE w (.ite d' a' b'))) := by
  rw [ite_eq]; exact ev_ite hc ha hb
theorem pw_and2 (ha : PT X a (tDb g W (bE (evE w a')))) (hb : PW X (.BoolOp .And (b :: rest) pos) (tDb g W (bE (evE w b')))) : PW X (.BoolOp .And (a :: b :: rest) pos) (tDb g W (bE (evE w (.and a' b')))) := by
  rw [and_eq]; exact pw_andD ha hb
theorem pw_or2 (ha : PT X a (tDb g W (bE (evE w a')))) (hb : PW X (.BoolOp .Or (b :: rest) pos) (tDb g W (bE (evE w b')))) : PW X (.BoolOp .Or (a :: b :: rest) pos) (tDb g W (bE (evE w (.or a' b')))) := by
  rw [or_eq]; exact pw_orD ha hb
theorem pw_and1D (ha : PT X a (tDb g W (bE fa))) : PW X (.BoolOp .And [a] pos) (tDb g W (bE fa)) := pw_and1 ha
theorem pw_or1D (ha : PT X a (tDb g W (bE fa))) : PW X (.BoolOp .Or [a] pos) (tDb g W (bE fa)) := pw_or1 ha
theorem pt_not2 (ha : PT X a (tDb g W (bE (evE w a')))) : PT X (.UnaryOp .Not a pos) (tDb g W (bE (evE w (.not a')))) := by
  rw [not_eq]; exact pt_notD ha
end
end SV
set_option linter.all false
set_option Elab.async false
set_option maxRecDepth 100000
set_option maxHeartbeats 4000000
namespace SV
open PySem PySem.Spec PyProof.Rows L2
section
variable {X : Cx} {g : Cfg} {c : Tc} {W : WX} {w : SV.W} {x : Str} {i : Nat} {pins : List (Addr × Obj)} {s : Shared} {σ : L2.St} {H : Hp} {ι : Io} {st : S} {CX : CXT} {k : Nat} {f : Nat}
variable {a b d e : Expr} {a' b' d' : Ex} {es rest : List Expr} {es' : Exs} {p pos sp_ : Pos} {fra frb frd fr frr : Bool} {fa fb fd : S → Out (D × S)} {ex : Option (Nat × SV.D)}
theorem Fx.blk {s : Shared} {H : Hp} {scope : Scope} {cenv : Env} {fp : List Addr} (T : Fx X g W w CX k) : Fx (X.blk s H scope cenv fp) g W0 w CX k where
  room := T.room
  px := fun pins σ H s E e s' I h q => T.pxF H s e s' (T.mono H s E _ e s' h q)
  tk := LamX.takes0
  calm := T.calm
  exn := T.exn
  exi := T.exi
  sbT := T.sbT
  pxF := T.pxF
  cls := T.cls
  fld := T.fld
  kcon := T.kcon
  fn := T.fn
  gfn := T.gfn
  gcl := T.gcl
  mono := T.mono
  own := PassesOwn.never
  mth := T.mth
  ins := T.ins
  isi := fun t ht => ⟨(T.isi t ht).mg, (T.isi t ht).kb, (T.isi t ht).ko⟩
  cI := T.cI
  cS := T.cS
  cv := T.cv
  blt := T.blt
  cm := T.cm
  sb := T.sb
  nq := T.nq
theorem CaX.wk {fr fr' : Bool} {h : List Value → Sem Value} {F : List D → S → Out (D × S)} (c : CaX X g W fr' h F) (k : fr = true → fr' = true) : CaX X g W fr h F := by
  intro pins s σ H ι xs vs us st Q I sr dn r q
  exact c pins s σ H ι xs vs us st Q I sr dn r (q.mono (fun p hp v H' ι' l r dn nw => hp v H' ι' l r dn (nw.wk k)) fun _ _ _ z => z)
/-- a def keeps its promise, also where SV makes nothing of it -/
theorem fn_all (T : Fx X g W w CX k) (i : Nat) : FnR X.prog X.w X.K X.mg X.base CX k (g.aF i) (spF g (freshB i) (w.call i)) := by
  rcases T.fn i with h | h
  · intro A outer s H us vs Q E _ _ _ q
    obtain ⟨ι, ds, M, _, _, o⟩ := q
    rw [h] at o
    exact o.elim
  · exact h
theorem ca_def (T : Fx X g W w CX k) (hfr : fr = true → freshB f = true) : CaX X g W fr (fun us => call (.ref (g.aF f)) us) (fun xs s => SV.inS s (w.call f xs s.m)) := (ca_fn (fn_all T f) (T.room.mono (by omega)) T.px).wk hfr
theorem cal_eq : evE w (.cal f es') = appF (evEs w es') (fun xs s => SV.inS s (w.call f xs s.m)) := by funext s; simp only [evE, appF]
theorem ctr_eq : evE w (.ctr f es') = appF (evEs w es') (makeD w f) := by funext s; simp only [evE, appF]
theorem bif_eq {b : Bi} : evE w (.bif b es') = appF (evEs w es') (bifF w b) := by funext s; simp only [evE, appF]
/-- f(..), a def of the text -/
theorem ev_cal (G : Gd X g c) (T : Fx X g W w CX k) (hx : isGlob c x = true) (hf : (x, f) ∈ g.fns) (hfr : fr = true → freshB f = true) (ha : PA X (a :: es) (tDs g W (evEs w es'))) (h1 : (a :: es).all noStar = true) :
    PE X (.Call (.Name x p) (a :: es) [] pos) (tD g W fr (evE w (.cal f es'))) := by
  rw [cal_eq]
  exact ev_call1 G hx (T.gfn x f hf).1 (T.gfn x f hf).2 (ca_def T hfr) ha h1
theorem ca_ctr (T : Fx X g W w CX k) (hf : (x, f) ∈ g.clss) : CaX X g W false (fun us => call (.ref (g.aC f)) us) (makeD w f) :=
  ca_cls (T.gcl x f hf).1 (T.gcl x f hf).2.2.2 (fn_all T _) (T.room.mono (by omega)) T.px
/-- C(..) -/
theorem ev_ctr (G : Gd X g c) (T : Fx X g W w CX k) (hx : isGlob c x = true) (hf : (x, f) ∈ g.clss) (ha : PA X (a :: es) (tDs g W (evEs w es'))) (h1 : (a :: es).all noStar = true) :
    PE X (.Call (.Name x p) (a :: es) [] pos) (tD g W false (evE w (.ctr f es'))) := by
  rw [ctr_eq]
  exact ev_call1 G hx (T.gcl x f hf).2.1 (T.gcl x f hf).2.2.1 (ca_ctr T hf) ha h1
theorem ev_ctr0 (G : Gd X g c) (T : Fx X g W w CX k) (hx : isGlob c x = true) (hf : (x, f) ∈ g.clss) :
    PE X (.Call (.Name x p) [] [] pos) (tD g W false (evE w (.ctr f .nil))) := by
  rw [ctr_eq]
  exact ev_call0 G hx (T.gcl x f hf).2.1 (T.gcl x f hf).2.2.1 (ca_ctr T hf)
/-- built-in functions, built-in types -/
theorem ev_bifB {b : Bi} {id : String} (G : Gd X g c) (hx : isGlob c x = true) (hm : X.mg x = none) (hv : bootBuiltins x = some (.builtin id)) (hC : CaX X g W fr (fun us => call (.builtin id) us) (bifF w b)) (ha : PA X (a :: es) (tDs g W (evEs w es'))) (h1 : (a :: es).all noStar = true) :
    PE X (.Call (.Name x p) (a :: es) [] pos) (tD g W fr (evE w (.bif b es'))) := by
  rw [bif_eq]
  exact ev_callB G hx hm hv hC ha h1
theorem ev_bifT {b : Bi} {id : String} (G : Gd X g c) (hx : isGlob c x = true) (hm : X.mg x = none) (hv : bootBuiltins x = some (.type id)) (hC : CaX X g W fr (fun us => call (.type id) us) (bifF w b)) (ha : PA X (a :: es) (tDs g W (evEs w es'))) (h1 : (a :: es).all noStar = true) :
    PE X (.Call (.Name x p) (a :: es) [] pos) (tD g W fr (evE w (.bif b es'))) := by
  rw [bif_eq]
  exact ev_callTy G hx hm hv hC ha h1
theorem bi_F {b : Bi} {h : List Value → Sem Value} (hb : b ≠ .len) (k : CaX X g W fr h (fun xs s => do let z ← biD s.m b xs; .ok (z, s))) : CaX X g W fr h (bifF w b) := by
  have e : bifF w b = (fun xs s => do let z ← biD s.m b xs; .ok (z, s)) := by
    funext xs s
    cases b <;> first | exact absurd rfl hb | rfl
  rw [e]
  exact k
/-- raise X("..") -/
theorem ps_rse {cl j : Nat} {m : Str} {p2 rp : Pos} (G : Gd X g c) (T : Fx X g W w CX k) (hx : isGlob c x = true) (hf : (x, cl) ∈ g.exs) :
    PS X (.Raise (some (.Call (.Name x p) [.Constant (.str m) j p2] [] pos)) none rp) (tS g W frr (exS w ex (.rse cl (.cst .non)))) := by
  obtain ⟨hg, ho⟩ := glob_ok G hx
  have E := T.exn x cl hf
  refine PS.imp (ps_raise T.calm T.tk (pmk_own (bmB := veMro) PySem.F.excBase_ValueError E.q E.mg E.kC (raises_own E.r1 E.r2) hg (okN_d ho).1)) fun D σ H q => ?_
  obtain ⟨ι, st, sr, o⟩ := q
  simp only [exS, evE] at o
  have o : XC g W H ι σ cl .non st := o
  exact o.2 _ none σ H ι (Le.refl _ _) sr ⟨rfl, .inl ⟨rfl, rfl⟩⟩
theorem ps_forE {tg it : Expr} {t : Tg} {i' : SV.It} {bd : List Stmt} {fb : List Sm} (G : Gd X g c) (T : Fx X g W w CX k) (hi : PI X tg it (iD g W (evI w i'))) (hg : PG X tg (gD g W (asg w t))) (hb : PSs X bd (tS g W frr (exSs w ex fb)))
    (hs : ∀ x, foldedSetIterable it X.env x = pure x) : PS X (.For tg it bd [] pos) (tS g W frr (exS w ex (.for t i' fb))) := ps_forD G T.calm T.own hi hg hb hs
end
end SV
set_option linter.all false
set_option Elab.async false
set_option maxRecDepth 100000
set_option maxHeartbeats 4000000
namespace SV
open PySem PySem.Spec PyProof.Rows L2
section
variable {X : Cx} {g : Cfg} {c : Tc} {W : WX} {w : SV.W} {x : Str} {i : Nat} {H : Hp} {ι : Io} {m : List MO} {fr : Bool} {k : Nat}
theorem natOf_digits : ∀ (l : List Nat) (a n : Nat), natOf l a = some n → NumText.AllDigits l ∧ l.foldl (fun n c => n * 10 + (c - 48)) a = n
  | [], a, n, h => by simp only [natOf, Option.some.injEq] at h; subst h; exact ⟨fun c hc => (List.not_mem_nil hc).elim, rfl⟩
  | c :: r, a, n, h => by
    simp only [natOf, digVal] at h
    split at h
    · rename_i k hk
      split at hk
      · rename_i hc
        simp only [Option.some.injEq] at hk
        subst hk
        obtain ⟨h1, h2⟩ := natOf_digits r _ n h
        refine ⟨fun d hd => ?_, h2⟩
        rcases List.mem_cons.mp hd with rfl | hd
        · exact hc
        · exact h1 d hd
      · cases hk
    · cases h
theorem intOf_text {s : Str} {n : Int} (hl : s.length ≤ 600) (h : intOf s = some n) : PySem.intText? s = some n := by
  unfold intOf at h
  split at h
  · cases h
  · rename_i r hr
    split at h
    · cases h
    · rename_i hne
      split at h
      · rename_i k h1
        cases h
        obtain ⟨h2, h3⟩ := natOf_digits _ _ _ h1
        rw [PySem.intText_neg hr h2 (by intro e; rw [e] at hne; exact hne rfl) (by omega)]
        rw [← h3]
        rfl
      · cases h
  · rename_i hne _
    split at h
    · rename_i k h1
      cases h
      obtain ⟨h2, h3⟩ := natOf_digits _ _ _ h1
      rw [PySem.intText_digits h2 (by intro e; exact hne e) (by omega)]
      rw [← h3]
      rfl
    · cases h
theorem bi_intS : CaX X g W fr (fun us => call (.type "int") us) (bifF w .int) :=
  bi_F (by intro z; cases z) (ca_of (f := fun m xs => biD m .int xs) (CallR.or call_int1 call_int_str) (fun H ι m xs vs z Q r dn e k => by
    have e : biInt xs = .ok z := e
    unfold biInt at e
    split at e
    · cases e
      obtain ⟨v, rfl, d⟩ := denL1 dn
      simp only [Den] at d
      subst d
      exact .inl (.inl ⟨_, rfl, qi r k rfl⟩)
    · cases e
      obtain ⟨v, rfl, d⟩ := denL1 dn
      simp only [Den] at d
      subst d
      exact .inl (.inr ⟨_, rfl, qi r k rfl⟩)
    · obtain ⟨h1, e⟩ := gd_ok e
      obtain ⟨n, h2, e⟩ := opt_ok e
      cases e
      have h1 := of_decide_eq_true h1
      obtain ⟨v, rfl, d⟩ := denL1 dn
      simp only [Den] at d
      subst d
      exact .inr ⟨_, n, rfl, intOf_text h1 h2, by omega, qi r k rfl⟩
    · cases e) (fun m xs c d s => by
    show biInt xs ≠ _
    unfold biInt
    split
    · intro z; cases z
    · intro z; cases z
    · exact calm_gd (calm_bind fun _ _ _ _ z => by cases z) c d s
    · intro z; cases z))
theorem log_lt {n k : Nat} (hk : 0 < k) (h : n < 2 ^ k) : n.log2 < k := by
  by_cases h0 : n = 0
  · subst h0; simpa using hk
  · exact (Nat.log2_lt h0).mpr h
theorem bi_str : CaX X g W fr (fun us => call (.type "str") us) (bifF w .str) :=
  bi_F (by intro z; cases z) (ca_of (f := fun m xs => biD m .str xs) call_str_int (fun H ι m xs vs z Q r dn e k => by
    have e : biStr xs = .ok z := e
    unfold biStr at e
    split at e
    · obtain ⟨h1, e⟩ := gd_ok e
      cases e
      have h1 := of_decide_eq_true h1
      obtain ⟨v, rfl, d⟩ := denL1 dn
      simp only [Den] at d
      subst d
      exact ⟨_, rfl, Nat.lt_of_lt_of_le (log_lt (by decide) h1) (by decide), qs r k rfl⟩
    · cases e) (fun m xs c d s => by
    show biStr xs ≠ _
    unfold biStr
    split
    · exact calm_gd (fun _ _ _ z => by cases z) c d s
    · intro z; cases z))
end
end SV
set_option linter.all false
set_option Elab.async false
set_option maxRecDepth 100000
set_option maxHeartbeats 4000000
namespace SV
open PySem PySem.Spec PyProof.Rows L2
/-- what a law's text has -/
structure Gt (g : Cfg) (fns : List (Str × Nat)) (clss : List (Str × Nat)) (asks : List Nat) (cnI : List (Str × Int)) (cnS : List (Str × Str)) (cms : List (Nat × Nat)) (exs : List (Str × Nat)) (exi : List (Str × Nat)) : Prop where
  fns : g.fns = fns
  clss : g.clss = clss
  asks : g.asks = asks
  cnI : g.cnI = cnI
  cnS : g.cnS = cnS
  cms : g.cms = cms
  exs : g.exs = exs
  exi : g.exi = exi
theorem mem_of {α : Type} [DecidableEq α] {l k : List α} {x : α} (e : l = k) (h : decide (x ∈ k) = true) : x ∈ l := by subst e; exact of_decide_eq_true h
/-- own names of a block by slot -/
def ownL (N : List Str) (sc : Scope) : List (Str × Nat) := sc.names.filterMap fun (n, k) => if k == .local || k == .cell then (ixIn n N).map fun i => (n, i) else none
section
variable {X : Cx} {g : Cfg} {c : Tc} {W : WX} {w : SV.W} {x : Str} {i : Nat} {pins : List (Addr × Obj)} {s : Shared} {σ : L2.St} {H : Hp} {ι : Io} {st : S} {CX : CXT} {k : Nat} {f : Nat}
variable {a b d e : Expr} {a' b' d' : Ex} {es rest : List Expr} {es' : Exs} {p pos sp_ : Pos} {fra frb frd fr frr : Bool} {fa fb fd : S → Out (D × S)} {ex : Option (Nat × SV.D)}
theorem loc_G (G : Gd X g c) (h : (c.sc.names.lookup x == some .local) = true) : X.env.scope.names.lookup x = some .local := by rw [G.sc]; exact eq_of_beq h
theorem Loc_G (G : Gd X g c) (h : (c.sc.names.lookup x == some .local || c.sc.names.lookup x == some .cell) = true) : L2.Loc X.env.scope x := by
  unfold L2.Loc
  rw [G.sc]
  rcases Bool.or_eq_true_iff.mp h with h | h
  · exact .inl (eq_of_beq h)
  · exact .inr (eq_of_beq h)
theorem blk_G {scope : Scope} {own : List (Str × Nat)} (G : Gd X g c) (h : blkC c.N c.sc scope own = true) : BlkOk X.N X.env.scope scope own := by
  rw [G.sc, G.N]
  exact blkOk_by h
theorem ev_fld2 {f : Nat} {m : Str} (G : Gd X g c) (T : Fx X g W w CX k) (hm : fname f = m) (hab : ab0 a = true) (ha : PE X a (tD g W fra (evE w a'))) : PE X (.Attribute a m pos) (tD g W false (evE w (.fld a' f))) :=
  PE.imp (ev_fld G T hm hab ha) fun σ H Q q => by simpa only [evE] using q
variable {elt tg iter tg1 iter1 : Expr} {ifs : List Expr} {scope : Scope} {own own1 : List Nat} {e' : Ex} {t t1 : Tg} {it' it1' : SV.It} {ifs' : Exs}
theorem blkI {P : Cx → Prop} (G : Gd X g c) (T : Fx X g W w CX k) (h : ∀ X', Gd X' g { c with sc := relS' scope c.sc } → Fx X' g W0 w CX k → (∀ x, X'.fn x = (scope.names.lookup x == some .cell)) → P X') :
    ∀ (s : Shared) (H : Hp) (C : Addr) (cl : List (Str × Addr)) (fp : List Addr), P (X.blk s H scope (compEnvC scope cl C X.env) fp) := fun _ _ _ _ _ => h _ G.blk T.blk (fun _ => rfl)
theorem ev_lcA (G : Gd X g c) (T : Fx X g W w CX k) (ho : ((ownL c.N scope).map (·.2) == own) = true) (hb : blkC c.N c.sc scope (ownL c.N scope) = true)
    (it : PI X tg iter (iD g W (evI w it'))) (hg : ∀ X' : Cx, Gd X' g { c with sc := relS' scope c.sc } → Fx X' g W0 w CX k → (∀ x, X'.fn x = (scope.names.lookup x == some .cell)) → PG X' tg (gW g own (asg w t)))
    (ts : ∀ X' : Cx, Gd X' g { c with sc := relS' scope c.sc } → Fx X' g W0 w CX k → (∀ x, X'.fn x = (scope.names.lookup x == some .cell)) → PTs X' ifs (tDb g W0 (evA w ifs')))
    (el : ∀ X' : Cx, Gd X' g { c with sc := relS' scope c.sc } → Fx X' g W0 w CX k → (∀ x, X'.fn x = (scope.names.lookup x == some .cell)) → PE X' elt (tD g W0 false (evE w e'))) (fs : ∀ x, foldedSetIterable iter X.env x = pure x) :
    PE X (.ListComp elt [⟨tg, iter, ifs, 0⟩] scope pos) (tD g W false (evE w (.lc e' own t it' ifs'))) := by
  have ho := eq_of_beq ho
  subst ho
  exact ev_lc G T.calm ⟨it, blk_G G hb, blkI G T hg, blkI G T ts, blkI G T el, fs⟩
end
end SV
set_option linter.all false
namespace SV
open PySem
def F0 : Fn := ⟨3, 3, false, false, [
  .ret (.and (.isi (.var 0) .int) (.and (.not (.isi (.var 0) .bool)) (.chn .LtE .LtE (.var 1) (.var 0) (.var 2))))]⟩
def F1 : Fn := ⟨3, 3, false, false, [
  .ifs (.not (.cal 0 (.cons (.var 0) (.cons (.var 1) (.cons (.var 2) .nil))))) [
    .rse 21 (.cst .non)] []]⟩
def F2 : Fn := ⟨2, 4, false, false, [
  .ifs (.not (.isi (.var 0) .list)) [
    .rse 24 (.cst (.int 0))] [],
  .for (.tup (.cons (.name 2) (.cons (.name 3) .nil))) (.enm (.var 0)) [
    .ifs (.or (.cmp .Eq (.var 2) (.var 1)) (.not (.cal 0 (.cons (.var 3) (.cons (.bin .Sub (.cst (.int 0)) (.cst (.int 1000000000))) (.cons (.cst (.int 1000000000)) .nil)))))) [
      .rse 24 (.var 2)] []]]⟩
def F3 : Fn := ⟨1, 1, false, true, [
  .asg (.att (.var 0) 0) (.kcn (.var 0) 0)]⟩
def F4 : Fn := ⟨3, 3, false, false, [
  .ret (.tup (.cons (.var 1) (.cons (.var 2) .nil)))]⟩
def F5 : Fn := ⟨2, 2, false, false, [
  .ret (.and (.isi (.var 1) (.own 0)) (.cmp .Eq (.fld (.var 0) 0) (.fld (.var 1) 0)))]⟩
def F6 : Fn := ⟨1, 1, false, false, [
  .ret (.ctr 0 .nil)]⟩
def F7 : Fn := ⟨1, 1, false, false, [
  .ret (.fld (.var 0) 0)]⟩
def F8 : Fn := ⟨3, 3, false, false, [
  .ret (.tup (.cons (.var 2) (.cons (.var 1) .nil)))]⟩
def F9 : Fn := ⟨1, 1, false, false, [
  .ret (.ctr 1 .nil)]⟩
def F10 : Fn := ⟨3, 3, false, false, [
  .ret (.tup (.cons (.bif .min2 (.cons (.var 1) (.cons (.var 2) .nil))) (.cons (.bif .max2 (.cons (.var 1) (.cons (.var 2) .nil))) .nil)))]⟩
def F11 : Fn := ⟨1, 1, false, false, [
  .ret (.ctr 3 .nil)]⟩
def F12 : Fn := ⟨3, 3, false, false, [
  .ret (.tup (.cons (.bif .max2 (.cons (.var 1) (.cons (.var 2) .nil))) (.cons (.bif .min2 (.cons (.var 1) (.cons (.var 2) .nil))) .nil)))]⟩
def F13 : Fn := ⟨1, 1, false, false, [
  .ret (.ctr 2 .nil)]⟩
def F14 : Fn := ⟨2, 3, false, true, [
  .exp (.mth (.var 0) 6 .nil),
  .exp (.cal 1 (.cons (.var 1) (.cons (.bin .Sub (.cst (.int 0)) (.cst (.int 1000000000))) (.cons (.cst (.int 1000000000)) .nil)))),
  .asg (.att (.var 0) 1) (.var 1),
  .asg (.att (.var 0) 0) (.fst (.var 1))]⟩
def F15 : Fn := ⟨3, 3, false, false, [
  .ret (.ite (.cmp .Lt (.bif .abs (.cons (.bin .Sub (.var 2) (.fld (.var 0) 1)) .nil)) (.bif .abs (.cons (.bin .Sub (.var 1) (.fld (.var 0) 1)) .nil))) (.tup (.cons (.var 2) (.cons (.var 1) .nil))) (.tup (.cons (.var 1) (.cons (.var 2) .nil))))]⟩
def F16 : Fn := ⟨1, 1, false, false, [
  .ret (.ctr 4 (.cons (.bin .Sub (.cst (.int 0)) (.fld (.var 0) 1)) .nil))]⟩
def F17 : Fn := ⟨0, 0, false, false, [
  .ret (.frz (.dsp (.cons (.cst (.str "first")) (.cons (.ctr 0 .nil) (.cons (.cst (.str "last")) (.cons (.ctr 1 .nil) (.cons (.cst (.str "less")) (.cons (.ctr 2 .nil) (.cons (.cst (.str "greater")) (.cons (.ctr 3 .nil) .nil))))))))))]⟩
def F18 : Fn := ⟨1, 5, false, false, [
  .asg (.name 1) (.bmt .split (.var 0) (.cons (.cst (.str ":")) .nil)),
  .ifs (.or (.cmp .NotEq (.bif .len (.cons (.var 1) .nil)) (.cst (.int 2))) (.cmp .NotEq (.sub (.var 1) (.cst (.int 0))) (.cst (.str "near")))) [
    .ret (.cst .non)] [],
  .asg (.name 2) (.ite (.cmp .Eq (.slc (.sub (.var 1) (.cst (.int 1))) .none (.some (.cst (.int 1)))) (.cst (.str "-"))) (.slc (.sub (.var 1) (.cst (.int 1))) (.some (.cst (.int 1))) .none) (.sub (.var 1) (.cst (.int 1)))),
  .ifs (.or (.not (.chn .LtE .LtE (.cst (.int 1)) (.bif .len (.cons (.var 2) .nil)) (.cst (.int 10)))) (.not (.bif .all (.cons (.frz (.lc (.cmp .In (.var 4) (.cst (.str "0123456789"))) [3, 4] (.name 4) (.val (.var 2)) .nil)) .nil)))) [
    .ret (.cst .non)] [],
  .ifs (.or (.and (.cmp .Eq (.sub (.var 2) (.cst (.int 0))) (.cst (.str "0"))) (.cmp .NotEq (.sub (.var 1) (.cst (.int 1))) (.cst (.str "0")))) (.cmp .Gt (.bif .int (.cons (.var 2) .nil)) (.cst (.int 1000000000)))) [
    .ret (.cst .non)] [],
  .ret (.ite (.cmp .NotEq (.sub (.var 1) (.cst (.int 1))) (.var 2)) (.bin .Sub (.cst (.int 0)) (.bif .int (.cons (.var 2) .nil))) (.bif .int (.cons (.var 2) .nil)))]⟩
def F19 : Fn := ⟨3, 6, false, false, [
  .asg (.name 3) (.new (.lst .nil)),
  .for (.tup (.cons (.name 4) (.cons (.name 5) .nil))) (.zip (.var 0) (.var 1)) [
    .ifs (.or (.cmp .Is (.var 2) (.cst .non)) (.cmp .Is (.var 5) (.cst .non))) [
      .exp (.bmt .append (.var 3) (.cons (.ite (.cmp .Is (.var 5) (.cst .non)) (.var 2) (.var 5)) .nil)),
      .asg (.name 2) (.cst .non)] [
      .asg (.tup (.cons (.name 5) (.cons (.name 2) .nil))) (.app (.var 4) (.cons (.var 5) (.cons (.var 2) .nil))),
      .exp (.bmt .append (.var 3) (.cons (.var 5) .nil))]],
  .ret (.tup (.cons (.bif .tuple (.cons (.var 3) .nil)) (.cons (.var 2) .nil)))]⟩
def F20 : Fn := ⟨2, 4, true, true, [
  .ifs (.cmp .Eq (.var 1) (.tup .nil)) [
    .rse 22 (.cst (.int 0))] [],
  .for (.tup (.cons (.name 2) (.cons (.name 3) .nil))) (.enm (.var 1)) [
    .ifs (.or (.cmp .Eq (.var 2) (.cst (.int 8))) (.not (.isi (.var 3) (.own 0)))) [
      .rse 22 (.var 2)] []],
  .asg (.att (.var 0) 2) (.var 1)]⟩
def F21 : Fn := ⟨2, 7, false, false, [
  .par (.cons (.name 2) (.cons (.name 3) .nil)) (.cons (.new (.lst .nil)) (.cons (.cal 17 .nil) .nil)),
  .for (.tup (.cons (.name 4) (.cons (.name 5) .nil))) (.enm (.bmt .split (.var 1) (.cons (.cst (.str " ")) .nil))) [
    .asg (.name 6) (.cal 18 (.cons (.var 5) .nil)),
    .ifs (.or (.cmp .Eq (.var 4) (.cst (.int 8))) (.and (.cmp .Is (.var 6) (.cst .non)) (.cmp .NotIn (.var 5) (.var 3)))) [
      .rse 25 (.var 4)] [],
    .exp (.bmt .append (.var 2) (.cons (.ite (.cmp .Is (.var 6) (.cst .non)) (.sub (.var 3) (.var 5)) (.ctr 4 (.cons (.var 6) .nil))) .nil))],
  .ret (.ctv 0 5 (.star (.var 2) .nil))]⟩
def F22 : Fn := ⟨1, 3, false, false, [
  .ret (.bmt .join (.cst (.str " ")) (.cons (.frz (.lc (.prp (.var 2) 10) [1, 2] (.name 2) (.val (.fld (.var 0) 2)) .nil)) .nil))]⟩
def F23 : Fn := ⟨1, 1, false, false, [
  .ret (.bin .Mult (.tup (.cons (.cst .non) .nil)) (.bif .len (.cons (.fld (.var 0) 2) .nil)))]⟩
def F26 : Fn := ⟨2, 2, false, false, [
  .ret (.and (.isi (.var 1) (.own 5)) (.oeq false (.fld (.var 0) 2) (.fld (.var 1) 2)))]⟩
def F28 : Fn := ⟨1, 4, false, false, [
  .asg (.name 1) (.frz (.lc (.neg (.var 3)) [2, 3] (.name 3) (.val (.fld (.var 0) 2)) .nil)),
  .ret (.ctr 5 (.star (.var 1) .nil))]⟩
def F29 : Fn := ⟨2, 6, false, false, [
  .exp (.cal 2 (.cons (.var 1) (.cons (.cst (.int 1000)) .nil))),
  .par (.cons (.name 2) (.cons (.name 3) .nil)) (.cons (.new (.lst .nil)) (.cons (.prp (.var 0) 12) .nil)),
  .for (.name 4) (.val (.var 1)) [
    .asg (.tup (.cons (.name 3) (.cons (.name 5) .nil))) (.cal 19 (.cons (.fld (.var 0) 2) (.cons (.var 3) (.cons (.var 4) .nil)))),
    .exp (.bmt .append (.var 2) (.cons (.var 5) .nil))],
  .ret (.tup (.cons (.frz (.var 2)) (.cons (.var 3) .nil)))]⟩
def F46 : Fn := ⟨2, 10, false, false, [
  .exp (.cal 2 (.cons (.var 0) (.cons (.cst (.int 1000)) .nil))),
  .ifs (.not (.isi (.var 1) .list)) [
    .rse 24 (.cst (.int 0))] [],
  .asg (.name 2) (.bif .len (.cons (.frz (.lc (.var 7) [6, 7] (.name 7) (.val (.var 1)) (.cons (.cmp .Is (.var 7) (.cst .non)) .nil))) .nil)),
  .ifs (.cmp .Gt (.var 2) (.cst (.int 5))) [
    .rse 26 (.cst .non)] [],
  .ifs (.cmp .Eq (.var 2) (.cst (.int 0))) [
    .ret (.cst .non)] [],
  .asg (.name 3) (.lst (.cons (.tup .nil) .nil)),
  .for (.name 4) (.rng (.cons (.var 2) .nil)) [
    .asg (.name 3) (.frz (.lc2 (.bin .Add (.var 8) (.tup (.cons (.var 9) .nil))) [6, 8, 9] [9] (.name 8) (.val (.var 3)) (.name 9) (.val (.tup (.cons (.ctr 0 .nil) (.cons (.ctr 3 .nil) (.cons (.ctr 1 .nil) (.cons (.ctr 2 .nil) .nil))))))))],
  .for (.name 5) (.val (.var 3)) [
    .ifs (.cmp .Eq (.sub (.app (.ctr 5 (.star (.var 5) .nil)) (.cons (.var 0) .nil)) (.cst (.int 0))) (.var 1)) [
      .ret (.ctr 5 (.star (.var 5) .nil))] []],
  .ret (.cst .non)]⟩
def F100 : Fn := ⟨2, 5, false, true, [
  .asg (.name 2) (.var 1),
  .for (.name 3) (.val (.var 0)) [
    .asg (.name 2) (.bin .Mod (.bin .Add (.bin .Mult (.var 2) (.cst (.int 31))) (.bif .abs (.cons (.var 3) .nil))) (.cst (.int 2147483647)))],
  .ret (.bin .Add (.lst (.cons (.var 2) (.cons (.cst (.int 0)) .nil))) (.frz (.lc (.var 3) [4, 3] (.name 3) (.val (.var 0)) (.cons (.cmp .GtE (.var 3) (.bin .Pow (.cst (.int 10)) (.cst (.int 18)))) .nil))))]⟩
def F101 : Fn := ⟨2, 3, false, false, [
  .ifs (.and (.cmp .Eq (.sub (.var 0) (.cst (.int 1))) (.cst (.int 0))) (.cmp .Gt (.bif .len (.cons (.var 0) .nil)) (.cst (.int 2)))) [
    .asg (.sub (.var 0) (.cst (.int 1))) (.bmt .pop1 (.var 0) (.cons (.cst (.int 2)) .nil))] [],
  .ifs (.cmp .Gt (.sub (.var 0) (.cst (.int 1))) (.cst (.int 0))) [
    .asg (.name 2) (.bin .Mod (.sub (.var 0) (.cst (.int 1))) (.var 1)),
    .asg (.sub (.var 0) (.cst (.int 1))) (.bin .FloorDiv (.sub (.var 0) (.cst (.int 1))) (.var 1)),
    .ret (.var 2)] [],
  .asg (.sub (.var 0) (.cst (.int 0))) (.bin .Mod (.bin .Add (.bin .Mult (.sub (.var 0) (.cst (.int 0))) (.cst (.int 48271))) (.cst (.int 11))) (.cst (.int 2147483647))),
  .ret (.bin .Mod (.bin .FloorDiv (.sub (.var 0) (.cst (.int 0))) (.cst (.int 64))) (.var 1))]⟩
def F103 : Fn := ⟨2, 5, false, false, [
  .asg (.name 2) (.sub (.lst (.cons (.cst (.int 3)) (.cons (.cst (.int 9)) (.cons (.bin .Pow (.cst (.int 10)) (.cst (.int 9))) .nil)))) (.cal 101 (.cons (.var 0) (.cons (.cst (.int 3)) .nil)))),
  .ret (.frz (.lc (.bin .Sub (.cal 101 (.cons (.var 0) (.cons (.bin .Add (.bin .Mult (.cst (.int 2)) (.var 2)) (.cst (.int 1))) .nil))) (.var 2)) [3, 4] (.name 4) (.rng (.cons (.cal 101 (.cons (.var 0) (.cons (.bin .Add (.var 1) (.cst (.int 1))) .nil))) .nil)) .nil))]⟩
def F105 : Fn := ⟨3, 4, false, false, [
  .ifs (.cmp .Eq (.var 0) (.cst (.str "last"))) [
    .ret (.tup (.cons (.var 2) (.cons (.var 1) .nil)))] [],
  .ifs (.cmp .Eq (.var 0) (.cst (.str "less"))) [
    .ret (.tup (.cons (.bif .min1 (.cons (.lst (.cons (.var 1) (.cons (.var 2) .nil))) .nil)) (.cons (.bif .max1 (.cons (.lst (.cons (.var 1) (.cons (.var 2) .nil))) .nil)) .nil)))] [],
  .ifs (.cmp .Eq (.var 0) (.cst (.str "greater"))) [
    .ret (.tup (.cons (.bif .max1 (.cons (.lst (.cons (.var 1) (.cons (.var 2) .nil))) .nil)) (.cons (.bif .min1 (.cons (.lst (.cons (.var 1) (.cons (.var 2) .nil))) .nil)) .nil)))] [],
  .ifs (.cmp .NotEq (.var 0) (.cst (.str "first"))) [
    .asg (.name 3) (.bif .int (.cons (.slc (.var 0) (.some (.cst (.int 5))) .none) .nil)),
    .ifs (.cmp .Lt (.bif .abs (.cons (.bin .Sub (.var 2) (.var 3)) .nil)) (.bif .abs (.cons (.bin .Sub (.var 1) (.var 3)) .nil))) [
      .ret (.tup (.cons (.var 2) (.cons (.var 1) .nil)))] []] [],
  .ret (.tup (.cons (.var 1) (.cons (.var 2) .nil)))]⟩
def F108 : Fn := ⟨2, 4, false, false, [
  .ifs (.cmp .Is (.var 1) (.cst .non)) [
    .ret (.cmp .Is (.var 0) (.cst .non))] [],
  .ifs (.isi (.var 1) .bool) [
    .ret (.and (.isi (.var 0) .bool) (.cmp .Eq (.var 0) (.var 1)))] [],
  .ifs (.isi (.var 1) .int) [
    .ret (.and (.isi (.var 0) .int) (.and (.not (.isi (.var 0) .bool)) (.cmp .Eq (.var 0) (.var 1))))] [],
  .ifs (.isi (.var 1) .str) [
    .ret (.and (.isi (.var 0) .str) (.cmp .Eq (.var 0) (.var 1)))] [],
  .ifs (.cmp .NotEq (.isi (.var 1) .tuple) (.isi (.var 0) .tuple)) [
    .ret (.cst (.bl false))] [],
  .ifs (.cmp .NotEq (.isi (.var 1) .list) (.isi (.var 0) .list)) [
    .ret (.cst (.bl false))] [],
  .ifs (.cmp .NotEq (.bif .len (.cons (.var 0) .nil)) (.bif .len (.cons (.var 1) .nil))) [
    .ret (.cst (.bl false))] [],
  .ret (.bif .all (.cons (.frz (.lc (.cal 108 (.cons (.sub (.var 0) (.var 3)) (.cons (.sub (.var 1) (.var 3)) .nil))) [2, 3] (.name 3) (.rng (.cons (.bif .len (.cons (.var 1) .nil)) .nil)) .nil)) .nil))]⟩
end SV
set_option linter.all false
set_option Elab.async false
set_option maxRecDepth 100000
set_option maxHeartbeats 4000000
namespace SV
open PySem PySem.Spec PyProof.Rows L2
section
variable {X : Cx} {g : Cfg} {c : Tc} {W : WX} {w : SV.W} {x y : Str} {i : Nat} {CX : CXT} {k : Nat} {f : Nat}
variable {a b d e : Expr} {a' b' d' : Ex} {es rest : List Expr} {es' : Exs} {p q tp pos apos sp_ : Pos} {fr frr : Bool} {ex : Option (Nat × SV.D)}
/-- a rule whose value is new, where that is not asked -/
theorem x_any {x' : Ex} (h : PE X e (tD g W true (evE w x'))) : PE X e (tD g W fr (evE w x')) := PE.fr (fun _ => rfl) h
theorem x_bin {op : Operator} (G : Gd X g c) (hop : op ≠ .RShift) (ha : PE X a (tD g W false (evE w a'))) (hb : PE X b (tD g W false (evE w b'))) : PE X (.BinOp a op b pos) (tD g W fr (evE w (.bin op a' b'))) := x_any (ev_bin G hop ha hb)
theorem x_neg (T : Fx X g W w CX k) (ha : PE X a (tD g W false (evE w a'))) : PE X (.UnaryOp .USub a pos) (tD g W false (evE w (.neg a'))) := ev_neg T ha
theorem x_cmp {op : CmpOp} (G : Gd X g c) (ha : PE X a (tD g W false (evE w a'))) (hb : PE X b (tD g W false (evE w b'))) (hm : behindInMarks op b = false) : PE X (.Compare a [op] [b] pos) (tD g W false (evE w (.cmp op a' b'))) := ev_cmp G ha hb hm
theorem t_cmp {op : CmpOp} (G : Gd X g c) (ha : PE X a (tD g W false (evE w a'))) (hb : PE X b (tD g W false (evE w b'))) (hm : behindInMarks op b = false) : PT X (.Compare a [op] [b] pos) (tDb g W (bE (evE w (.cmp op a' b')))) := pt_cmp G ha hb hm
theorem x_chn {o1 o2 : CmpOp} (G : Gd X g c) (ha : PE X a (tD g W false (evE w a'))) (hb : PE X b (tD g W false (evE w b'))) (hd : PE X d (tD g W false (evE w d'))) (hm : lastMarks [o1, o2] [b, d] = false) :
    PE X (.Compare a [o1, o2] [b, d] pos) (tD g W false (evE w (.chn o1 o2 a' b' d'))) := ev_chn G ha hb hd hm
theorem x_and (ha : PE X a (tD g W false (evE w a'))) (hb : PE X (.BoolOp .And (b :: rest) pos) (tD g W false (evE w b'))) : PE X (.BoolOp .And (a :: b :: rest) pos) (tD g W false (evE w (.and a' b'))) := ev_and2 ha hb
theorem x_b1 {op : BoolOp} (ha : PE X a (tD g W fr (evE w a'))) : PE X (.BoolOp op [a] pos) (tD g W fr (evE w a')) := ev_bool1 ha
theorem x_not (ha : PE X a (tD g W false (evE w a'))) : PE X (.UnaryOp .Not a pos) (tD g W false (evE w (.not a'))) := ev_not2 ha
theorem t_val (h : PE X e (tD g W false (evE w a'))) (he : ∀ whole, isTrue e X.env whole = (do let v ← whole; standAt e.pos; holding [v] (truthy v))) : PT X e (tDb g W (bE (evE w a'))) := pt_of h he
theorem t_and (ha : PT X a (tDb g W (bE (evE w a')))) (hb : PW X (.BoolOp .And (b :: rest) pos) (tDb g W (bE (evE w b')))) : PT X (.BoolOp .And (a :: b :: rest) pos) (tDb g W (bE (evE w (.and a' b')))) := (pw_and2 ha hb).pt
theorem t_or (ha : PT X a (tDb g W (bE (evE w a')))) (hb : PW X (.BoolOp .Or (b :: rest) pos) (tDb g W (bE (evE w b')))) : PT X (.BoolOp .Or (a :: b :: rest) pos) (tDb g W (bE (evE w (.or a' b')))) := (pw_or2 ha hb).pt
theorem w_and1 (ha : PT X a (tDb g W (bE (evE w a')))) : PW X (.BoolOp .And [a] pos) (tDb g W (bE (evE w a'))) := pw_and1D ha
theorem w_or1 (ha : PT X a (tDb g W (bE (evE w a')))) : PW X (.BoolOp .Or [a] pos) (tDb g W (bE (evE w a'))) := pw_or1D ha
theorem x_lst (h : PA X es (tDs g W (evEs w es'))) : PE X (.List es pos) (tD g W fr (evE w (.lst es'))) := x_any (ev_lst h)
theorem x_new (ha : PE X a (tD g W true (evE w a'))) : PE X a (tD g W false (evE w (.new a'))) := ev_new ha
theorem x_frz (ha : PE X a (tD g W false (evE w a'))) : PE X a (tD g W false (evE w (.frz a'))) := ev_frz ha
theorem o_some (ha : PE X a (tD g W false (evE w a'))) : PO X (some a) (tO g W (evO w (.some a'))) := po_someD ha
theorem x_slc {lo hi : Option Expr} {fl fh : Exo} (ha : PE X a (tD g W false (evE w a'))) (hl : PO X lo (tO g W (evO w fl))) (hh : PO X hi (tO g W (evO w fh))) : PE X (.Subscript a (.Slice lo hi none q) pos) (tD g W fr (evE w (.slc a' fl fh))) := x_any (ev_slc ha hl hh)
theorem x_sub (G : Gd X g c) (T : Fx X g W w CX k) (ha : PE X a (tD g W false (evE w a'))) (hb : PE X b (tD g W false (evE w b'))) (hs : ∀ o i, subscripted b false o i = operate [o, i] (getItem o i)) (hl : ∀ o i, subscripted b true o i = runValue (.builtin "lifetime.subscript" ⟨[o, i], []⟩)) :
    PE X (.Subscript a b pos) (tD g W false (evE w (.sub a' b'))) := ev_sub G T ha hb hs hl
theorem a_cons (ha : PE X a (tD g W false (evE w a'))) (hr : PA X es (tDs g W (evEs w es'))) (hs : noStar a = true) : PA X (a :: es) (tDs g W (evEs w (.cons a' es'))) := pa_consD ha hr hs
theorem x_isiO {n : Nat} (G : Gd X g c) (T : Fx X g W w CX k) (hx : isGlob c "isinstance" = true) (ha : PE X a (tD g W false (evE w a'))) (h1 : noStar a = true) (hy : isGlob c y = true) (hn : n ∈ g.asks) (hy2 : tGet tCls y = some n) :
    PE X (.Call (.Name "isinstance" p) [a, .Name y tp] [] pos) (tD g W fr (evE w (.isi a' (.own n)))) := ev_isiO G T hx ha h1 hy hn hy2
theorem bn_int : bltNames.contains "int" = true := by decide +kernel
theorem bn_bool : bltNames.contains "bool" = true := by decide +kernel
theorem bn_str : bltNames.contains "str" = true := by decide +kernel
theorem bn_tuple : bltNames.contains "tuple" = true := by decide +kernel
theorem bn_list : bltNames.contains "list" = true := by decide +kernel
theorem bv_int : bootBuiltins "int" = some (.type "int") := by decide +kernel
theorem bv_bool : bootBuiltins "bool" = some (.type "bool") := by decide +kernel
theorem bv_str : bootBuiltins "str" = some (.type "str") := by decide +kernel
theorem bv_tuple : bootBuiltins "tuple" = some (.type "tuple") := by decide +kernel
theorem bv_list : bootBuiltins "list" = some (.type "list") := by decide +kernel
/-- isinstance of a built-in type: its name, its kind -/
def isiTy (y : Str) (t : Ty) : Prop := bltNames.contains y = true ∧ (∀ n, t ≠ .own n) ∧ bootBuiltins y = some (.type (tyN (some t)))
theorem ity_int : isiTy "int" .int := ⟨bn_int, (by intro n z; cases z), bv_int⟩
theorem ity_bool : isiTy "bool" .bool := ⟨bn_bool, (by intro n z; cases z), bv_bool⟩
theorem ity_str : isiTy "str" .str := ⟨bn_str, (by intro n z; cases z), bv_str⟩
theorem ity_tuple : isiTy "tuple" .tuple := ⟨bn_tuple, (by intro n z; cases z), bv_tuple⟩
theorem ity_list : isiTy "list" .list := ⟨bn_list, (by intro n z; cases z), bv_list⟩
theorem x_isiB {t : Ty} (G : Gd X g c) (T : Fx X g W w CX k) (hx : isGlob c "isinstance" = true) (ha : PE X a (tD g W false (evE w a'))) (h1 : noStar a = true) (hy : isGlob c y = true) (ht : isiTy y t) :
    PE X (.Call (.Name "isinstance" p) [a, .Name y tp] [] pos) (tD g W fr (evE w (.isi a' t))) := ev_isiB G T hx ha h1 hy (T.blt y ht.1) ht.2.1 ht.2.2
theorem x_fld {f : Nat} {m : Str} (G : Gd X g c) (T : Fx X g W w CX k) (hm : fname f = m) (hab : ab0 a = true) (ha : PE X a (tD g W false (evE w a'))) : PE X (.Attribute a m pos) (tD g W false (evE w (.fld a' f))) := ev_fld2 G T hm hab ha
theorem x_prp {m : Nat} {nm : Str} (T : Fx X g W w CX k) (hm : mname m = nm) (h10 : 10 ≤ m) (h30 : m < 30) (hab : ab0 a = true) (ha : PE X a (tD g W false (evE w a'))) : PE X (.Attribute a nm pos) (tD g W false (evE w (.prp a' m))) := ev_prp T hm h10 h30 hab (fun h => nomatch h) ha
theorem x_kcn (G : Gd X g c) (T : Fx X g W w CX k) (hab : ab0 a = true) (ha : PE X a (tD g W false (evE w a'))) : PE X (.Attribute a "KIND" pos) (tD g W false (evE w (.kcn a' 0))) := ev_kcn G T hab ha
theorem x_app (T : Fx X g W w CX k) (ha : PE X a (tD g W false (evE w a'))) (hes : PA X (b :: es) (tDs g W (evEs w es'))) (h1 : (b :: es).all noStar = true)
    (ht : eval (.Call a (b :: es) [] pos) X.env = (do callWith pos (← eval a X.env) [] (backTo pos (starEach (b :: es) X.env)) (backToKw pos (keywordEach [] X.env)))) :
    PE X (.Call a (b :: es) [] pos) (tD g W false (evE w (.app a' es'))) := ev_app T ha hes h1 ht
theorem x_Blen (G : Gd X g c) (T : Fx X g W w CX k) (hx : isGlob c "len" = true) (ha : PA X (a :: es) (tDs g W (evEs w es'))) (h1 : (a :: es).all noStar = true) : PE X (.Call (.Name "len" p) (a :: es) [] pos) (tD g W fr (evE w (.bif .len es'))) :=
  ev_bifB G hx (T.blt _ (by decide +kernel)) (by decide +kernel) (len_X T) ha h1
theorem x_Babs (G : Gd X g c) (T : Fx X g W w CX k) (hx : isGlob c "abs" = true) (ha : PA X (a :: es) (tDs g W (evEs w es'))) (h1 : (a :: es).all noStar = true) : PE X (.Call (.Name "abs" p) (a :: es) [] pos) (tD g W fr (evE w (.bif .abs es'))) :=
  ev_bifB G hx (T.blt _ (by decide +kernel)) (by decide +kernel) (bi_F (by intro z; cases z) bi_abs) ha h1
theorem x_Bmin2 (G : Gd X g c) (T : Fx X g W w CX k) (hx : isGlob c "min" = true) (ha : PA X (a :: es) (tDs g W (evEs w es'))) (h1 : (a :: es).all noStar = true) : PE X (.Call (.Name "min" p) (a :: es) [] pos) (tD g W fr (evE w (.bif .min2 es'))) :=
  ev_bifB G hx (T.blt _ (by decide +kernel)) (by decide +kernel) (bi_F (by intro z; cases z) (bi_min2 T.calm)) ha h1
theorem x_Bmax2 (G : Gd X g c) (T : Fx X g W w CX k) (hx : isGlob c "max" = true) (ha : PA X (a :: es) (tDs g W (evEs w es'))) (h1 : (a :: es).all noStar = true) : PE X (.Call (.Name "max" p) (a :: es) [] pos) (tD g W fr (evE w (.bif .max2 es'))) :=
  ev_bifB G hx (T.blt _ (by decide +kernel)) (by decide +kernel) (bi_F (by intro z; cases z) (bi_max2 T.calm)) ha h1
theorem x_Bmin1 (G : Gd X g c) (T : Fx X g W w CX k) (hx : isGlob c "min" = true) (ha : PA X (a :: es) (tDs g W (evEs w es'))) (h1 : (a :: es).all noStar = true) : PE X (.Call (.Name "min" p) (a :: es) [] pos) (tD g W false (evE w (.bif .min1 es'))) :=
  ev_bifB G hx (T.blt _ (by decide +kernel)) (by decide +kernel) (bi_F (by intro z; cases z) (bi_min1 G.K T.calm (by have := G.un; omega))) ha h1
theorem x_Bmax1 (G : Gd X g c) (T : Fx X g W w CX k) (hx : isGlob c "max" = true) (ha : PA X (a :: es) (tDs g W (evEs w es'))) (h1 : (a :: es).all noStar = true) : PE X (.Call (.Name "max" p) (a :: es) [] pos) (tD g W fr (evE w (.bif .max1 es'))) :=
  ev_bifB G hx (T.blt _ (by decide +kernel)) (by decide +kernel) (bi_F (by intro z; cases z) (bi_max1 G.K T.calm)) ha h1
theorem x_Bint (G : Gd X g c) (T : Fx X g W w CX k) (hx : isGlob c "int" = true) (ha : PA X (a :: es) (tDs g W (evEs w es'))) (h1 : (a :: es).all noStar = true) : PE X (.Call (.Name "int" p) (a :: es) [] pos) (tD g W fr (evE w (.bif .int es'))) :=
  ev_bifT G hx (T.blt _ (by decide +kernel)) bv_int bi_intS ha h1
theorem x_Bstr (G : Gd X g c) (T : Fx X g W w CX k) (hx : isGlob c "str" = true) (ha : PA X (a :: es) (tDs g W (evEs w es'))) (h1 : (a :: es).all noStar = true) : PE X (.Call (.Name "str" p) (a :: es) [] pos) (tD g W fr (evE w (.bif .str es'))) :=
  ev_bifT G hx (T.blt _ (by decide +kernel)) bv_str bi_str ha h1
variable {o : Expr} {o' : Ex}
theorem x_Mpop1 (G : Gd X g c) (hab : ab0 o = true) (ho : PE X o (tD g W false (evE w o'))) (hes : PA X (e :: es) (tDs g W (evEs w es'))) (h1 : (e :: es).all noStar = true) (hl : (e :: es).length < 29) (hline : (apos.endLine == pos.line) = true) : PE X (.Call (.Attribute o "pop" apos) (e :: es) [] pos) (tD g W false (evE w (.bmt .pop1 o' es'))) :=
  ev_bmt G PySem.F.plainAttrs_list PySem.F.slot_list_pop PySem.F.type_list_pop mt_popAt mt_D_pop1 calm_pop1 hab ho hes h1 hl hline
theorem x_Mcount (G : Gd X g c) (hab : ab0 o = true) (ho : PE X o (tD g W false (evE w o'))) (hes : PA X (e :: es) (tDs g W (evEs w es'))) (h1 : (e :: es).all noStar = true) (hl : (e :: es).length < 29) (hline : (apos.endLine == pos.line) = true) : PE X (.Call (.Attribute o "count" apos) (e :: es) [] pos) (tD g W fr (evE w (.bmt .count o' es'))) :=
  ev_bmt G PySem.F.plainAttrs_list PySem.F.slot_list_count PySem.F.type_list_count (mt_countD (by have := G.un; omega)) (mt_D_count G.K) calm_count hab ho hes h1 hl hline
theorem x_Mindex (G : Gd X g c) (hab : ab0 o = true) (ho : PE X o (tD g W false (evE w o'))) (hes : PA X (e :: es) (tDs g W (evEs w es'))) (h1 : (e :: es).all noStar = true) (hl : (e :: es).length < 29) (hline : (apos.endLine == pos.line) = true) : PE X (.Call (.Attribute o "index" apos) (e :: es) [] pos) (tD g W fr (evE w (.bmt .index o' es'))) :=
  ev_bmt G PySem.F.plainAttrs_list PySem.F.slot_list_index PySem.F.type_list_index (mt_indexD (by have := G.un; omega)) (mt_D_index G.K) calm_index hab ho hes h1 hl hline
theorem i_val {tg : Expr} (G : Gd X g c) (ha : PE X a (tD g W false (evE w a'))) : PI X tg a (iD g W (evI w (.val a'))) := pi_valD G.K ha
theorem i_rng1 {tg : Expr} (G : Gd X g c) (T : Fx X g W w CX k) (hg : isGlob c "range" = true) (ha : PE X a (tD g W false (evE w a'))) (h1 : noStar a = true) : PI X tg (.Call (.Name "range" p) [a] [] pos) (iD g W (evI w (.rng (.cons a' .nil)))) :=
  pi_rng1 hg G (T.blt _ (by decide +kernel)) ha h1
theorem s_exp {e' : Ex} (he : PE X e (tD g W false (evE w e'))) (hs : swapsWith e none pos.line X.env = pure false) : PS X (.Expr e pos) (tS g W frr (exS w ex (.exp e'))) := ps_exp he hs
theorem s_asg {tg : Expr} {e' : Ex} {t : Tg} (he : PE X e (tD g W false (evE w e'))) (hg : PG X tg (gD g W (asg w t))) (hs : swapsWithSole [tg] e pos.line X.env = pure false) (hw : swappedStores [tg] e X.env = pure none) (h1 : noStar tg = true) : PS X (.Assign [tg] e pos) (tS g W frr (exS w ex (.asg t e'))) := ps_asgD he hg hs hw h1
theorem s_fld {e' : Ex} {nm : Str} (G : Gd X g c) (T : Fx X g W w CX k) (hm : fname f = nm) (ho : PE X o (tD g W false (evE w o'))) (he : PE X e (tD g W false (evE w e'))) (hs : swapsWith e (some (.Attribute o nm q)) pos.line X.env = pure false) :
    PS X (.Assign [.Attribute o nm q] e pos) (tS g W frr (exS w ex (.asg (.att o' f) e'))) := ps_fldD T hm ho he G.K hs
theorem s_par {j : Nat} {px py pt : Pos} {kt k2 pt2} (G : Gd X g c) (T : Fx X g W w CX k) (hx : slotOf c x = some i) (hy : slotOf c y = some j) (hij : i ≠ j) (lx : (c.sc.names.lookup x == some .local) = true) (ly : (c.sc.names.lookup y == some .local) = true)
    (ha : PE X a (tD g W false (evE w a'))) (hb : PE X b (tD g W false (evE w b'))) (na : noStar a = true) (nb : noStar b = true)
    (hw : swappedStores [.Tuple [.Name x px, .Name y py] kt pt] (.Tuple [a, b] k2 pt2) X.env = pure (some [x, y])) :
    PS X (.Assign [.Tuple [.Name x px, .Name y py] kt pt] (.Tuple [a, b] k2 pt2) pos) (tS g W frr (exS w ex (.par (.cons (.name i) (.cons (.name j) .nil)) (.cons a' (.cons b' .nil))))) := ps_parD G T.calm hx hy hij (loc_G G lx) (loc_G G ly) ha hb na nb hw
theorem g_name (G : Gd X g c) (h : slotOf c x = some i) (hx : (c.sc.names.lookup x == some .local || c.sc.names.lookup x == some .cell) = true) (hf : X.fn x = true) : PG X (.Name x pos) (gD g W (asg w (.name i))) := pg_nameD G h (Loc_G G hx) (.inl hf)
theorem g_sub (G : Gd X g c) (ha : PE X a (tD g W false (evE w a'))) (hb : PE X b (tD g W false (evE w b'))) (hs : noSlice b = true) : PG X (.Subscript a b pos) (gD g W (asg w (.sub a' b'))) := pg_subD G.P G.ww (by have := G.un; omega) ha hb hs
theorem w_name {own : List Nat} (G : Gd X g c) (h : slotOf c x = some i) (hi : (own.contains i) = true) (hx : (c.sc.names.lookup x == some .local) = true) : PG X (.Name x pos) (gW g own (asg w (.name i))) :=
  pg_nameW G h (by simpa using hi) (Loc_G G (by rw [hx]; rfl)) (.inr (loc_G G hx))
end
end SV
set_option linter.all false
set_option Elab.async false
set_option maxRecDepth 100000
set_option maxHeartbeats 4000000
namespace SV
open PySem PySem.Spec PyProof.Rows L2
theorem clsIn_some {K : PySem.W.Frag} {C : Addr} (hd : PySem.W.hasDictIn K C = true) : (PySem.W.clsIn K C).isSome = true := by
  obtain ⟨cd, hc, _⟩ := PySem.W.any_some hd
  rw [hc]
  rfl
theorem kit_cb {K : PySem.W.Frag} {C : Addr} {T : String} {b : Bool} (h : PySem.W.subIn K (.ref C) (.type T) = some b) (hT : PySem.W.kitMeta T = true) : PySem.W.kitOne K (.ref C) (.type T) = some b := by
  unfold PySem.W.kitOne
  rw [if_neg (by intro z; cases eq_of_beq z)]
  show (if PySem.W.kitMeta T = true then PySem.W.subIn K (.ref C) (.type T) else none) = some b
  rw [if_pos hT, h]
theorem kit_bc {K : PySem.W.Frag} {C : Addr} {T : String} {b : Bool} (hd : PySem.W.hasDictIn K C = true) (ty : PySem.W.typeIn K (.ref C) = some (.type "type")) (h : PySem.W.subIn K (.type T) (.ref C) = some b) : PySem.W.kitOne K (.type T) (.ref C) = some b := by
  unfold PySem.W.kitOne
  rw [if_neg (by intro z; cases eq_of_beq z)]
  show (if ((PySem.W.clsIn K C).isSome && PySem.W.typeIn K (.ref C) == some (.type "type")) = true then PySem.W.subIn K (.type T) (.ref C) else none) = some b
  rw [if_pos (by rw [clsIn_some hd, ty]; rfl), h]
theorem kit_cc {K : PySem.W.Frag} {C E : Addr} {b : Bool} (hd : PySem.W.hasDictIn K C = true) (ty : PySem.W.typeIn K (.ref C) = some (.type "type")) (self : PySem.W.subIn K (.ref C) (.ref C) = some true) (h : PySem.W.subIn K (.ref E) (.ref C) = some b) : PySem.W.kitOne K (.ref E) (.ref C) = some b := by
  unfold PySem.W.kitOne
  split
  · rename_i z
    have := eq_of_beq z
    cases this
    rw [self] at h
    exact h
  · show (if ((PySem.W.clsIn K C).isSome && PySem.W.typeIn K (.ref C) == some (.type "type")) = true then PySem.W.subIn K (.ref E) (.ref C) else none) = some b
    rw [if_pos (by rw [clsIn_some hd, ty]; rfl), h]
theorem tGet_mem {α : Type} : ∀ {t : Tab α} {x : Str} {a : α}, tGet t x = some a → (x, a) ∈ t
  | [], x, a, h => by cases h
  | (y, b) :: r, x, a, h => by
    simp only [tGet] at h
    split at h
    · rename_i e
      cases h
      subst e
      exact List.mem_cons_self
    · exact List.mem_cons_of_mem _ (tGet_mem h)
theorem tcl0 {x : Str} (h : tGet tCls x = some 0) : x = "Cell" := by
  have h := tGet_mem h
  simp only [tCls, List.mem_cons, Prod.mk.injEq, List.not_mem_nil, or_false] at h
  rcases h with h | h | h | h | h | h | h | h | h
  · exact h.1
  all_goals exact absurd h.2 (by decide)
/-- a class asked for by isinstance, by the text's facts -/
structure IsiK (K : PySem.W.Frag) (mg : Str → Option Value) (aC : Nat → Addr) (t : Nat) : Prop where
  mg : ∀ x, tGet tCls x = some t → mg x = some (.ref (aC t))
  kb : ∀ a : Option Ty, (∀ c, a ≠ some (.own c)) → PySem.W.kitOne K (.type (tyN a)) (.ref (aC t)) = some false
  ko : ∀ c, c < 9 → ((t = 0 ∧ c ≤ 4) ∨ (t = 5 ∧ c ≤ 5)) → PySem.W.kitOne K (.ref (aC c)) (.ref (aC t)) = some (isSub c t)
/-- what is known of the text -/
structure Tx (K : PySem.W.Frag) (mg : Str → Option Value) (g : Cfg) (meth : Nat → Nat → Option Nat) (init : Nat → Option Nat) (kcon : Nat → Nat → Option D) : Prop where
  cls : ∀ cl, cl < 9 → Cls K (g.aC cl)
  fld : ∀ cl f, hasF cl f = true → NoAttr K (g.aC cl) (fname f)
  kcon : ∀ cl j d, kcon cl j = some d → cl < 9 ∧ j = 0 ∧ ∃ z u, d = .str z ∧ Con K (g.aC cl) "KIND" (.str z) u
  gfn : ∀ x i, (x, i) ∈ g.fns → mg x = some (.ref (g.aF i)) ∧ PySem.W.keepIn K (.ref (g.aF i)) = true
  gcl : ∀ x cl, (x, cl) ∈ g.clss → init cl = some (initN cl) ∧ mg x = some (.ref (g.aC cl)) ∧ PySem.W.keepIn K (.ref (g.aC cl)) = true ∧ Mk K (g.aC cl) (g.aF (initN cl))
  mth : ∀ cl m i, meth cl m = some i → cl < 9 ∧ (30 ≤ m → Meth K (g.aC cl) (mname m) (g.aF i)) ∧ (10 ≤ m → m < 30 → ∃ p, PropOf K (g.aC cl) (mname m) p (g.aF i)) ∧ (m = 0 → StX.CallO K (g.aC cl) (g.aF i)) ∧ (1 ≤ m → m ≤ 5 → SpcIn K (g.aC cl) m (g.aF i))
  ins : ∀ cl, cl < 9 → InsT K (g.aC cl)
  isi : ∀ t, t ∈ g.asks → IsiK K mg g.aC t
  cI : ∀ x n, (x, n) ∈ g.cnI → ∃ t, mg x = some (.int n t)
  cS : ∀ x z, (x, z) ∈ g.cnS → ∃ t, mg x = some (.str z t)
  cv : (("Chain" : Str), 5) ∈ g.clss → ∃ mc u, ClX.CRead K (g.aC 5) mc ∧ ClX.CVal K (g.aC 5) mc "MAX_CELLS" (.int 8) u
  blt : ∀ x, bltNames.contains x = true → mg x = none
  cm : ∀ cl i, (cl, i) ∈ g.cms → ∃ mc p, ClX.CRead K (g.aC cl) mc ∧ ClX.CMet K (g.aC cl) mc (cmN i) p (g.aF i)
  sb : (∃ c i, c < 5 ∧ meth c 1 = some i) → ∀ c e, c < 5 → e < 5 → c ≠ e → PySem.W.subIn K (.ref (g.aC e)) (.ref (g.aC c)) = some (decide (c = 0))
  nq : ∀ c i, meth c 1 = some i → PySem.W.findIn K (.ref (g.aC c)) "__ne__" = some (some (.builtin "object.__ne__"))
  sbT : ∀ c i, meth c 1 = some i → PySem.W.subIn K (.type "str") (.ref (g.aC c)) = some false
  exn : ∀ x cl, (x, cl) ∈ g.exs → ExK K mg x (g.aC cl)
  exi : ∀ x cl, (x, cl) ∈ g.exi → ([22, 24, 25, 30] : List Nat).contains cl = true ∧ ∀ (P : Program) (wd : World) (base : Heap) (CX : CXT), ExI P wd K mg base CX x (g.aC cl) (fname (exFld cl))
theorem px_of {X : Cx} {E : XK} (tk : Takes X (WE E)) : PassX (L2.CX X.prog X.w) X (WE E) := fun pins σ H s E' e s' I h hW => tk e s' (XE.of_call I hW h)
theorem cx_no {P : Program} {w : World} {outer : List Env} : ∀ (H : Hp) (s : Shared) (e : Value) (s' : Shared), ¬ L2.CX P w outer H s (fun _ _ _ => False) e s' := by
  rintro H s e s' ⟨_, _, _, _, _, _, _, _, _, _, _, _, z⟩
  exact z
theorem cx_mono {P : Program} {w : World} {outer : List Env} : ∀ (H : Hp) (s : Shared) (E E' : XK) (e : Value) (s' : Shared), L2.CX P w outer H s E e s' → (∀ c d H, E c d H → E' c d H) → L2.CX P w outer H s E' e s' := by
  rintro H s E E' e s' ⟨a, B, H', cls, d, h1, h2, h3, h4, h5, h6, h7, h8⟩ k
  exact ⟨a, B, H', cls, d, h1, h2, h3, h4, h5, h6, h7, k _ _ _ h8⟩
/-- all defs keep their promises at level k -/
def AllK (P : Program) (wd : World) (K : PySem.W.Frag) (mg : Str → Option Value) (base : Heap) (g : Cfg) (k : Nat) (call : Nat → List D → List MO → Out (D × List MO)) : Prop :=
  ∀ i, noCall (call i) ∨ FnR P wd K mg base (L2.CX P wd) k (g.aF i) (spF g (freshB i) (call i))
section
variable {P : Program} {wd : World} {K : PySem.W.Frag} {mg : Str → Option Value} {base : Heap} {g : Cfg} {p : Pg} {w : SV.W} {k : Nat} {N ps : List Str} {q qual nm : Str} {sc : Scope} {f : Addr} {cd : Value} {A : Around} {outer : List Env} {s : Shared} {H : Hp} {E : XK}
theorem fx_of (tx : Tx K mg g p.meth p.init p.kcon) (hm : w.meth = p.meth) (hi : w.init = p.init) (hk : w.kcon = p.kcon) (fn : AllK P wd K mg base g k w.call) (room : Room (k + 2) (A.deeper (envOfC q sc s.heap.objs.size f cd))) :
    Fx (cxOf (L2.CX P wd) P wd K mg base N q sc f cd A outer s H E) g (WE E) w (L2.CX P wd) k where
  room := room
  px := px_of (takes_of rfl rfl rfl rfl)
  calm := rfl
  tk := takes_of rfl rfl rfl rfl
  exn := tx.exn
  exi := fun x cl h => ⟨(tx.exi x cl h).1, (tx.exi x cl h).2 _ _ _ _⟩
  sbT := hm ▸ tx.sbT
  pxF := cx_no
  cls := tx.cls
  fld := tx.fld
  kcon := hk ▸ tx.kcon
  fn := fn
  gfn := tx.gfn
  gcl := hi ▸ tx.gcl
  mono := cx_mono
  own := passes_of rfl
  mth := hm ▸ tx.mth
  ins := tx.ins
  isi := fun t ht => ⟨(tx.isi t ht).mg, (tx.isi t ht).kb, (tx.isi t ht).ko⟩
  cI := tx.cI
  cS := tx.cS
  cv := tx.cv
  blt := tx.blt
  cm := tx.cm
  sb := hm ▸ tx.sb
  nq := hm ▸ tx.nq
theorem gd_of (hP : g.P = P) (hw : g.w = wd) (hK : g.K = K) (nd : N.Nodup) (room : Room k (A.deeper (envOfC q sc s.heap.objs.size f cd))) :
    Gd (cxOf (L2.CX P wd) P wd K mg base N q sc f cd A outer s H E) g ⟨N, sc, [], [], 0, false⟩ where
  P := hP
  ww := hw
  K := hK
  N := rfl
  nd := nd
  sc := rfl
  un := by
    have := room.un
    show (A.deeper (envOfC q sc s.heap.objs.size f cd)).units + 66 < cLine
    omega
/-- a def's body keeps the promise whatever its level -/
def BodyOk (st : Stmt) (N : List Str) (fn : Fn) (frr : Bool) (P : Program) (wd : World) (K : PySem.W.Frag) (mg : Str → Option Value) (base : Heap) (g : Cfg) (w : SV.W) (k : Nat) : Prop :=
  ∀ (q : Str) (f : Addr) (cd : Value) (A : Around) (outer : List Env) (s : Shared) (H : Hp) (E : XK), Gd (cxOf (L2.CX P wd) P wd K mg base N q (defScope st) f cd A outer s H E) g ⟨N, defScope st, [], [], 0, false⟩ →
    Fx (cxOf (L2.CX P wd) P wd K mg base N q (defScope st) f cd A outer s H E) g (WE E) w (L2.CX P wd) k → PSs (cxOf (L2.CX P wd) P wd K mg base N q (defScope st) f cd A outer s H E) (defBody st) (tS g (WE E) frr (exSs w none fn.body))
/-- the facts of a def -/
def DefIn (K : PySem.W.Frag) (nm qual : Str) (st : Stmt) (f : Addr) : Prop := ∃ fd, Fun K nm qual st f fd
/-- how its arguments are bound -/
def BindOk (nm qual : Str) (st : Stmt) (ps : List Str) : Prop := ∀ (kV doc pm : Value) (an : Option Addr) (cdv ct : Value) (us : List Value), us.length = ps.length → bindArgs (PySem.W.fnOf nm qual (defArgs st) (defBody st) (defScope st) .none kV doc pm an cdv ct) ⟨us, []⟩ = pure (ps.zip us)
theorem step_D {st : Stmt} {fn : Fn} {i : Nat} (F : DefIn K nm qual st (g.aF i)) (hP : g.P = P) (hw : g.w = wd) (hK : g.K = K) (tx : Tx K mg g p.meth p.init p.kcon) (hm : w.meth = p.meth) (hi : w.init = p.init) (hk : w.kcon = p.kcon) (fns : AllK P wd K mg base g k w.call)
    (S : FnScope N ps (defScope st)) (hns : N.length = fn.ns) (hnp : ps.length = fn.np) (hst : fn.star = false) (hb : BindOk nm qual st ps) (B : BodyOk st N fn (freshB i) P wd K mg base g w k) :
    FnR P wd K mg base (L2.CX P wd) (k + 3) (g.aF i) (spF g (freshB i) (fun ds M => runF w fn ds M)) := by
  obtain ⟨fd, F⟩ := F
  obtain ⟨oc, od, kV, doc, pm, an, cdv, ct, osl, rfl, lk, hcd⟩ := F.ex
  exact fn_D lk hcd S hns hnp hst (hb _ _ _ _ _ _) fun A outer s H E hr => B _ _ _ A outer s H E (gd_of hP hw hK S.nd hr) (fx_of tx hm hi hk fns hr)
/-- the defs, one level above -/
def StepOk (P : Program) (wd : World) (K : PySem.W.Frag) (mg : Str → Option Value) (base : Heap) (g : Cfg) (p : Pg) : Prop :=
  ∀ (w : SV.W) (k : Nat), w.meth = p.meth → w.init = p.init → w.kcon = p.kcon → AllK P wd K mg base g k w.call → ∀ i fn, p.fn i = some fn → FnR P wd K mg base (L2.CX P wd) (k + 3) (g.aF i) (spF g (freshB i) (fun ds M => runF w fn ds M))
theorem knot (h : StepOk P wd K mg base g p) : ∀ n, AllK P wd K mg base g (3 * n) (callF p n).1
  | 0 => fun i => .inl rfl
  | n + 1 => fun i => by
    cases e : p.fn i with
    | none =>
      left
      funext xs m
      show (match p.fn i with | some f => runF _ f xs m | none => .bad) = .bad
      rw [e]
    | some fn =>
      right
      have e2 : (callF p (n + 1)).1 i = fun xs m => runF (wAt p (callF p n).1 (callF p n).2) fn xs m := by
        funext xs m
        show (match p.fn i with | some f => runF _ f xs m | none => .bad) = _
        rw [e]
      rw [e2]
      exact h (wAt p (callF p n).1 (callF p n).2) (3 * n) rfl rfl rfl (knot h n) i fn e
/-- the tables that the text asks -/
def LawB (base : Heap) (mg : Str → Option Value) (cs : List (Addr × Addr)) : Prop := ∀ p ∈ cs, LamX.TabB base mg p.1 p.2
/-- the law's body keeps the promise: its code object is known -/
def LawOk (st : Stmt) (N : List Str) (fn : Fn) (P : Program) (wd : World) (K : PySem.W.Frag) (mg : Str → Option Value) (base : Heap) (g : Cfg) (w : SV.W) (k : Nat) (nm qual : Str) (fa : Addr) (cs : List (Addr × Addr)) : Prop := LawB base mg cs →
  ∀ (oc : Value) (od : Option Addr) (kV doc pm : Value) (an : Option Addr) (cdv ct : Value) (osl : Array (Option Value)), K.lookup fa = some ⟨oc, od, .func (PySem.W.fnOf nm qual (defArgs st) (defBody st) (defScope st) .none kV doc pm an cdv ct), osl⟩ →
  ∀ (A : Around) (outer : List Env) (s : Shared) (H : Hp) (E : XK), Gd (cxOf (L2.CX P wd) P wd K mg base N qual (defScope st) fa cdv A outer s H E) g ⟨N, defScope st, [], [], 0, false⟩ →
    Fx (cxOf (L2.CX P wd) P wd K mg base N qual (defScope st) fa cdv A outer s H E) g (WE E) w (L2.CX P wd) k → PSs (cxOf (L2.CX P wd) P wd K mg base N qual (defScope st) fa cdv A outer s H E) (defBody st) (tS g (WE E) false (exSs w none fn.body))
/-- what the law is asked to do: the tables are empty at first -/
def spLaw (K : PySem.W.Frag) (tabs : List (Addr × Str)) : Sp := fun vs H Q _ => ∃ (a : Addr) (ns : List Int), vs = [.ref a] ∧ SqL K H a (ns.map V.int) ∧ ns.length ≤ 63 ∧ (∀ p ∈ tabs, H p.1 = some (.tbl #[])) ∧ ∀ H', Q (.bl true) H'
theorem law_D {st : Stmt} {fn : Fn} {fa : Addr} {cs : List (Addr × Addr)} (F : DefIn K nm qual st fa) (hP : g.P = P) (hw : g.w = wd) (hK : g.K = K) (tx : Tx K mg g p.meth p.init p.kcon) (n : Nat) (h : ∀ base, StepOk P wd K mg base g p)
    (S : FnScope N ["_law_script"] (defScope st)) (hns : N.length = fn.ns) (hnp : fn.np = 1) (hst : fn.star = false) (B : ∀ base, LawOk st N fn P wd K mg base g (wAt p (callF p n).1 (callF p n).2) (3 * n) nm qual fa cs)
    (hb : BindOk nm qual st ["_law_script"]) (hrun : ∀ ns : List Int, ns.length ≤ 63 → ∃ m, runF (wAt p (callF p n).1 (callF p n).2) fn [.scr ns] [] = .ok (.bl true, m)) :
    ∃ fd : FuncData, (∀ (s : Shared) (u : Value), BindsTo s fd ⟨[u], []⟩ [("_law_script", u)]) ∧ ∀ base : Heap, LawB base mg cs → FnOk P wd K mg base (L2.CX P wd) (3 * n + 3) fa fd ["_law_script"] (spLaw K g.tabs) := by
  obtain ⟨fd, F⟩ := F
  obtain ⟨oc, od, kV, doc, pm, an, cdv, ct, osl, rfl, lk, hcd⟩ := F.ex
  refine ⟨_, fun s u => .of_eq (hb kV doc pm an cdv ct [u] rfl), fun base hB => ?_⟩
  refine (fn_of (sp := spF g false (fun ds M => runF (wAt p (callF p n).1 (callF p n).2) fn ds M)) lk hcd S (fun vs H Q E hs => ?_) fun A outer s H vs Q E hr hs => ⟨_, B base hB _ _ _ _ _ _ _ _ _ lk A outer s H E (gd_of hP hw hK S.nd hr) (fx_of tx rfl rfl rfl (knot (h base) n) hr), ?_⟩).imp fun vs H Q E hs => ?_
  · obtain ⟨ι, ds, M, r, dn, o⟩ := hs
    unfold runF argsOf at o
    rw [hst] at o
    simp only [Bool.false_eq_true, if_false] at o
    by_cases hl : ds.length = fn.np
    · rw [← dn.length, hl, hnp]; rfl
    · rw [if_neg hl] at o; exact o.elim
  · obtain ⟨ι, ds, M, r, dn, o⟩ := hs
    unfold runF argsOf at o
    rw [hst] at o
    simp only [Bool.false_eq_true, if_false] at o
    by_cases hl : ds.length = fn.np
    · rw [if_pos hl] at o
      exact ⟨ι, ⟨ds.map some ++ List.replicate (fn.ns - ds.length) none, M⟩, ⟨start_den dn hns, r⟩, leave_end (M := M) r o _⟩
    · rw [if_neg hl] at o; exact o.elim
  · obtain ⟨a, ns, rfl, hS, hl, hO, k⟩ := hs
    obtain ⟨m, hm⟩ := hrun ns hl
    refine ⟨[], [.scr ns], [], ⟨rfl, fun k mo e => by simp at e, fun j k a e => by simp at e, fun p hp => LamX.TabS.nil (hO p hp)⟩, DenL.cons ?_ DenL.nil, ?_⟩
    · simp only [Den]
      refine ⟨a, rfl, ?_⟩
      rcases hS with hS | hS
      · exact .inl ⟨hS, by simp⟩
      · exact .inr (hK ▸ hS)
    · show OutP (runF (wAt p (callF p n).1 (callF p n).2) fn [D.scr ns] []) _ _
      rw [hm]
      intro v H' ι' l r d _
      simp only [Den] at d
      subst d
      exact k H'
theorem walkEnd {l : PySem.W.OpenLaw} {q : Program} {loose : List Str} {XP : (Str → Option Value) → Heap → Prop} {YP : World → Heap → Prop} {d : DefRec} {K : Params → PySem.W.Frag} {n : Nat} (hn : l.most = some 63) (hdf : d.params.defaults = []) (hr : Room (3 * n + 3) callerA)
    (hrec : ((recsOf q).any fun e => e.name == d.name) = true) (hY : ∀ (w : World) (h : Heap), YP w h → (K w.params).In h)
    (F : ∀ (w : World) (mg : Str → Option Value) (fa : Addr) (h : Heap), (K w.params).In h → h.Ns mainGlobals mg → mg d.name = some (.ref fa) → LamX.OwnTab (K w.params) fa h →
      ∃ (cs : List (Addr × Addr)) (tabs : List (Addr × Str)) (fd : FuncData), (∀ p ∈ cs, h.get? p.2 = some { cls := .none, data := .fields #[] }) ∧ (∀ p ∈ cs, (K w.params).lookup p.2 = none) ∧ (∀ p ∈ cs, PySem.W.CodeHd h p.1 p.2) ∧ (∀ t ∈ tabs, ∃ p ∈ cs, p.2 = t.1) ∧
        (∀ (s : Shared) (u : Value), BindsTo s fd ⟨[u], []⟩ [("_law_script", u)]) ∧
        ∀ base : Heap, (K w.params).In base → base.Ns mainGlobals mg → (∀ p ∈ cs, LamX.TabB base mg p.1 p.2) → FnOk l.prog w (K w.params) mg base (L2.CX l.prog w) (3 * n + 3) fa fd ["_law_script"] (spLaw (K w.params) tabs)) :
    PySem.W.WalkO q loose XP YP l.row.toRowW d [] (fun f vs => PySem.call f vs) := by
  refine LamX.walk_ofOwn (n := 63) (k := 3 * n + 3) (x := "_law_script") (CX := fun w => L2.CX l.prog w) hn (by decide) hdf hr hrec hY (fun w mg fa h Y KX G hmg own => ?_) fun w H s e s' z => cx_no H s e s' z
  obtain ⟨cs, tabs, fd, h1, h2, h3, h4, h5, h6⟩ := F w mg fa h KX G hmg own
  refine ⟨fd, cs, spLaw (K w.params) tabs, h1, h2, h3, h5, fun H a ns hl _ hT hS => ⟨a, ns, rfl, hS, hl, fun t ht => ?_, fun _ => rfl⟩, h6⟩
  obtain ⟨p, hp, e⟩ := h4 t ht
  rw [← e]
  exact hT p hp
end
end SV
set_option linter.all false
set_option Elab.async false
set_option maxRecDepth 100000
set_option maxHeartbeats 4000000
namespace SV
open PySem PySem.Spec PyProof.Rows L2
section
variable {X : Cx} {g : Cfg} {c : Tc} {W : WX} {w : SV.W} {H : Hp} {ι : Io} {m : List MO} {fr : Bool}
theorem boolL_den : ∀ {ys : List D} {is : List Bool} {vs : List V}, boolL ys = some is → DenL g H ι ys vs → vs = is.map V.bl
  | [], is, vs, h, dn => by simp [boolL] at h; subst h; simp only [DenL] at dn; subst dn; rfl
  | y :: r, is, vs, h, dn => by
    simp only [DenL] at dn
    obtain ⟨v, t, rfl, a, b⟩ := dn
    cases y with
    | bl i =>
      simp only [boolL] at h
      cases e : boolL r with
      | none => rw [e] at h; cases h
      | some js =>
        rw [e] at h
        cases h
        simp only [Den] at a
        subst a
        rw [boolL_den e b]
        rfl
    | _ => simp [boolL] at h
theorem blsOf_den {x : D} {v : V} {is : List Bool} (r : Rel g H ι m) (d : Den g H ι x v) (e : blsOf m x = some is) : ∃ a, v = .ref a ∧ SqL g.K H a (is.map V.bl) := by
  unfold blsOf at e
  split at e
  · rename_i ys hy
    obtain ⟨a, vs, rfl, ha, dn⟩ := d.list r hy
    rw [boolL_den e dn] at ha
    exact ⟨a, rfl, SqL.of ha⟩
  · cases e
theorem bi_all (hK : g.K = X.K) (hc : X.calm = true) : CaX X g W fr (fun us => call (.builtin "all") us) (fun xs s => do let z ← biD s.m .all xs; .ok (z, s)) :=
  ca_of (f := fun m xs => biD m .all xs) (cr_all hc) (fun H ι m xs vs z Q r dn e k => by
    have e : biAll m xs = .ok z := e
    unfold biAll at e
    split at e
    · rename_i x
      obtain ⟨v, rfl, d⟩ := denL1 dn
      obtain ⟨is, h, e⟩ := opt_ok e
      cases e
      obtain ⟨a, rfl, ha⟩ := blsOf_den r d h
      rw [hK] at ha
      exact ⟨a, is, rfl, ha, k _ _ ι (Le.refl _ _) r (by simp only [Den]) (Nw.flat (by intro a; constructor <;> (intro z; cases z)))⟩
    · cases e) (fun m xs c d s => by
    show biAll m xs ≠ _
    unfold biAll
    split
    · exact calm_bind (fun _ _ _ _ z => by cases z) c d s
    · intro z; cases z)
end
section
variable {X : Cx} {g : Cfg} {c : Tc} {W : WX} {w : SV.W} {x y : Str} {i : Nat} {CX : CXT} {k : Nat} {f : Nat}
variable {a b d e o : Expr} {a' b' d' o' : Ex} {es rest : List Expr} {es' : Exs} {p q tp pos apos sp_ : Pos} {fr frr : Bool} {ex : Option (Nat × SV.D)}
theorem x_Ball (G : Gd X g c) (T : Fx X g W w CX k) (hx : isGlob c "all" = true) (ha : PA X (a :: es) (tDs g W (evEs w es'))) (h1 : (a :: es).all noStar = true) : PE X (.Call (.Name "all" p) (a :: es) [] pos) (tD g W fr (evE w (.bif .all es'))) :=
  ev_bifB G hx (T.blt _ (by decide +kernel)) (by decide +kernel) (bi_F (by intro z; cases z) (bi_all G.K T.calm)) ha h1
end
structure PD (X : Cx) (g : Cfg) (W : WX) (w : SV.W) (pos : Pos) (keys : List (Option Expr)) (values : List Expr) (es' : Exs) : Prop where
  ex : ∃ trs, PPs X pos keys values trs ∧ ∀ (σ : L2.St) (H : Hp) (ι : Io) (s : S) (acc : List D) (accs : List (Key × V)) (Q : List (V × V) → Hp → Prop), SR g H ι σ s → DenE g H ι acc accs →
    OutP (evDs w es' s acc) (fun p => ∀ (kvs : List (Key × V)) H' ι', Le H ι H' ι' → SR g H' ι' σ p.2 → DenE g H' ι' p.1 (mergeK accs kvs) → kvs.length = keys.length → Q (kvs.map fun kv => (kV kv.1, kv.2)) H') (XC g W H ι σ) → tPairs trs σ H Q
  len : keys.length = values.length
  all : keys.all (·.isSome) = true
section
variable {X : Cx} {g : Cfg} {c : Tc} {W : WX} {w : SV.W} {pos : Pos} {fr fk fv : Bool} {k v : Expr} {k' v' : Ex} {ks : List (Option Expr)} {vs : List Expr} {r' : Exs}
theorem ev_fst {a : Expr} {a' : Ex} {j : Nat} {p1 p2 : Pos} (ha : PE X a (tD g W false (evE w a'))) : PE X (.JoinedStr [.Constant (.str "near:") j p1, .FormattedValue a (-1) none p2] pos) (tD g W fr (evE w (.fst a'))) :=
  PE.imp (pe_joined (.cons (ev_cstr (g := g) (W := W) (w := w) (fr := false)) (.cons (pe_fmt ha) .nil))) fun σ H Q q => by
    obtain ⟨ι, st, sr, o⟩ := q
    simp only [evE] at o
    show tD g W false (evE w (.cst (.str "near:"))) σ H (fun x H1 => ∃ y : Str, x = .str y ∧ (Str.empty ++ y).length ≤ sizeLine ∧ tFmt (tD g W false (evE w a')) σ H1 fun x H2 => ∃ y2 : Str, x = .str y2 ∧ (Str.empty ++ y ++ y2).length ≤ sizeLine ∧ Q (.str (Str.empty ++ y ++ y2)) H2)
    refine ⟨ι, st, sr, ?_⟩
    simp only [evE]
    refine OutP.ok.mpr ?_
    intro v H1 ι1 l1 sr1 d1 _
    simp only [Den] at d1
    subst d1
    have e0 : (Str.empty ++ Str.ofString "near:" : Str) = Str.ofString "near:" := by decide +kernel
    refine ⟨_, rfl, ?_, ?_⟩
    · rw [e0, sizeLine_eq]
      have : (Str.ofString "near:").length = 5 := by decide +kernel
      omega
    rw [e0]
    show tD g W false (evE w a') σ H1 _
    refine tD.then sr1 (OutP.bnd o) (fun _ _ _ z => z.mono l1) fun x s1 v2 H2 ι2 o1 l2 sr2 d2 nw => ?_
    clear nw
    cases x <;> try exact o1.elim
    rename_i i
    obtain ⟨hg, o2⟩ := OutP.gd.mp (OutP.bnd o1)
    have hg := of_decide_eq_true hg
    simp only [Den] at d2
    subst d2
    have hlog : i.natAbs.log2 < 1900 := log_lt (by decide) hg
    refine .inr ⟨i, rfl, Nat.lt_of_lt_of_le hlog (by decide), _, rfl, ?_, ?_⟩
    · have h1 := int_text_length_le (k := 1900) (by decide) hlog
      show (Str.ofString "near:" ++ Str.ofString (toString i)).length ≤ _
      have h2 : (Str.ofString "near:" ++ Str.ofString (toString i)).length = (Str.ofString "near:").length + (Str.ofString (toString i)).length := by
        show ((Str.ofString "near:").cps ++ (Str.ofString (toString i)).cps).size = _
        rw [Array.size_append]
        rfl
      have h3 : (Str.ofString "near:").length = 5 := by decide +kernel
      rw [h2, h3, PySem.ofString_length, sizeLine_eq]
      omega
    · exact o2 _ H2 ι2 (l1.trans l2) sr2 (by simp only [Den]; rfl) (Nw.flat (by intro a; constructor <;> (intro z; cases z)))
theorem DenL.rev {H : Hp} {ι : Io} : ∀ {xs : List D} {vs : List V}, DenL g H ι xs vs → DenL g H ι xs.reverse vs.reverse
  | [], vs, h => by simp only [DenL] at h; subst h; simp [DenL]
  | x :: r, vs, h => by
    simp only [DenL] at h
    obtain ⟨v, t, rfl, d, h⟩ := h
    rw [List.reverse_cons, List.reverse_cons]
    exact DenL.append (DenL.rev h) (by simp only [DenL]; exact ⟨v, [], rfl, d, rfl⟩)
end
end SV
set_option linter.all false
set_option Elab.async false
set_option maxRecDepth 100000
set_option maxHeartbeats 4000000
namespace SV
open PySem PySem.Spec PyProof.Rows L2
/-- the function as a record -/
def supNF (nm qual : Str) (st : Stmt) (cda cc : Addr) : NdefX.NF := ⟨nm, qual, defArgs st, defBody st, defScope st, [("__class__", cc)], cda⟩
abbrev cxSup (CX : CXT) (P : Program) (wd : World) (K : PySem.W.Frag) (mg : Str → Option Value) (base : Heap) (N : List Str) (nm qual : Str) (st : Stmt) (cda cc f : Addr) (A : Around) (outer : List Env) (s : Shared) (H : Hp) (E : XK) : Cx :=
  NdefX.ncx CX P wd K mg base N (supNF nm qual st cda cc) f A outer s H E
/-- what the text says of such a def -/
structure SupIn (P : Program) (K : PySem.W.Frag) (nm qual : Str) (st : Stmt) (f C g3 : Addr) (cda cc : Addr) : Prop where
  at_ : ∃ (oc : Value) (od : Option Addr) (kV doc pm : Value) (an : Option Addr) (ct : Value) (osl : Array (Option Value)),
    K.lookup f = some ⟨oc, od, .func (PySem.W.ksFn nm qual (defArgs st) (defBody st) (defScope st) .none kV doc pm an (.ref cda) ct cc), osl⟩
  code : PySem.W.codeIn K (.ref cda) qual = true
  file : ∃ (ccl : Value) (cdd : Option Addr) (vs : Array Value) (ccs : Array (Option Value)) (fl : Str) (tf : Tok), K.lookup cda = some ⟨ccl, cdd, .fields vs, ccs⟩ ∧ vs[2]? = some (.str fl tf) ∧ ((P.main.file : Str) == fl) = true
  cell : ∃ (cl : Value) (cld : Option Addr) (csl : Array (Option Value)), K.lookup cc = some ⟨cl, cld, .cell (some (.ref C)), csl⟩
  clsd : (PySem.W.clsIn K C).isSome = true
  mro : PySem.W.mroIn K C (.ref C) = some true
  nxt : PySem.W.ks_superIn K C C "__init__" = some (some (.ref g3))
  fty : PySem.W.typeIn K (.ref g3) = some (.type "function")
  ffn : PySem.W.fnIn K g3 = true
  thd : PySem.W.nsIn K PySem.cStatics "thirdparty.any" = some none
section
variable {X : Cx} {pins : List (Addr × Obj)} {σ : L2.St} {H : Hp} {s : Shared} {nm qual : Str} {st : Stmt} {f C g3 cda cc x L : Addr} {K : PySem.W.Frag} {A : Around}
theorem sup_node {p0 p1 : Pos} {whole : Sem Value} {ar : Arg} {Q : Value → Shared → Prop} {E : Value → Shared → Prop} {i : Nat} {dx : Addr} {fs : List (Str × V)} {body : List Stmt}
    (hK : X.K = K) (T : SupIn X.prog K nm qual st f C g3 cda cc) (I : Inv X pins σ H s) (hX : X.env = NdefX.envF (supNF nm qual st cda cc) f L) (hp : ((defArgs st).posonlyargs ++ (defArgs st).args).head? = some ar) (hN : X.N[i]? = some ar.arg)
    (hs : σ[i]? = some (some (.ref x))) (hx : H x = some (.ins C dx fs)) (hsu : X.mg "super" = none)
    (hks : (defScope st).names.lookup ("super" : Str) = some .globalImplicit) (hkc : (defScope st).names.lookup ("__class__" : Str) = some .free) (hka : (defScope st).names.lookup ar.arg = some .local) (hk : (defScope st).kind = .function)
    (htop : (X.prog.main.scope.names.lookup ("super" : Str)).isSome = false)
    (h : ∀ so s', Inv X ((so, PySem.W.ks_superObj C x C) :: pins) σ H s' → X.base.get? so = none → Q (.ref so) s') :
    _root_.PySem.wpAt (model X.prog X.w) A (.func body X.env) (attributeBase (.Call (.Name "super" p0) [] [] p1) "__init__" X.env whole) Q E s := by
  subst hK
  obtain ⟨oc, od, kV, doc, pm, an, ct, osl, lk⟩ := T.at_
  obtain ⟨ccl, cdd, vs, ccs, fl, tf, hcode, hvs, hfile⟩ := T.file
  obtain ⟨cl, cld, csl, hcell⟩ := T.cell
  obtain ⟨cdD, hD⟩ := Option.isSome_iff_exists.mp T.clsd
  have KX : X.K.In s.heap := I.kIn
  obtain ⟨oD, hD1, hD2⟩ : ∃ oD, s.heap.get? C = some oD ∧ oD.data = .cls cdD := by
    unfold PySem.W.clsIn at hD
    split at hD
    · rename_i c d cd' sl ho
      cases hD
      exact ⟨_, KX _ _ ho, rfl⟩
    · cases hD
  have hkind : X.env.scope.kind = .function := by rw [hX]; exact hk
  have e1 : X.env.kindOf "super" = some .globalImplicit := by rw [hX]; exact hks
  have e2 : X.env.kindOf "__class__" = some .free := by rw [hX]; exact hkc
  have e3 : X.env.kindOf ar.arg = some .local := by rw [hX]; exact hka
  have eg : X.env.globals = mainGlobals := I.ok.glob
  obtain ⟨mb, b1, b2⟩ := I.mod.blt
  obtain ⟨mA, O, rr, _, _, _⟩ := ins_get I.hok hx
  obtain ⟨od', J, hl⟩ := O.look
  obtain ⟨hp0, g0, d0, t0, os0⟩ := s
  refine PySem.ks_wpAt_super_base (f := f) (of := ⟨oc, od, .func (PySem.W.ksFn nm qual (defArgs st) (defBody st) (defScope st) .none kV doc pm an (.ref cda) ct cc), osl⟩) (cc := cda) (oc := ⟨ccl, cdd, .fields vs, ccs⟩) e1 e2 rfl (by rw [hX]) (KX _ _ lk) rfl hp (by rw [hX]; rfl) (KX _ _ hcode) rfl hvs hfile htop ?_
  refine PySem.W.ks_loadName_global hkind e1 (Calls.loadGlobal_builtin (by rw [eg]; exact I.mod.glob.keeps I.bk) hsu (by rw [I.ok.blt]; exact b1.keeps I.bk) ((b2 _ (by decide)).trans (by decide +kernel : bootBuiltins "super" = some (.type "super"))) ⟨rfl, ?_⟩)
  refine wpAny_loadName_free hkind e2 (c := cc) (by rw [hX]; rfl) ⟨_, KX _ _ hcell, rfl⟩ ?_
  obtain ⟨m, hn, hlk⟩ := I.loc
  obtain ⟨u, ru, lk2⟩ := hlk i ar.arg (.ref x) hN hs (.inl (by rw [hX]; exact hka))
  obtain rfl : u = Value.ref x := ru
  rcases lk2 with ⟨q1, q2⟩ | ⟨q1, _⟩
  case inr => rcases q1 with q1 | q1 <;> rw [e3] at q1 <;> cases q1
  refine wpAny_loadName_local hkind e3 hn q2 ?_
  refine PySem.ks_wpAny_isType_cls hD1 hD2 ⟨rfl, ?_⟩
  refine PySem.ks_wpAny_call_super hD1 hD2 J.at_ J.cls (fun c e => ?_) (PySem.W.looks_mroIn KX T.mro) (fun h' e k => ?_)
  · have := J.no
    unfold PySem.W.notCls at this
    rw [e] at this
    exact Bool.noConfusion this
  · refine h _ _ (ClX.pin_new (t' := t0) I (fun b u e => k b u e) (Nat.le_refl _) e (fun v z => nomatch z)) ?_
    exact ClX.base_none I (Nat.le_refl _)
theorem sup_meth {so : Addr} {pl : Sem Bool} {Q : Value × List Value → Shared → Prop} {E : Value → Shared → Prop} {dx : Addr} {fs : List (Str × V)} (T : SupIn X.prog X.K nm qual st f C g3 cda cc) (I : Inv X ((so, PySem.W.ks_superObj C x C) :: pins) σ H s) (hx : H x = some (.ins C dx fs))
    (h : ∀ q s', Inv X ((q, PySem.W.methodObj (.ref g3) (.ref x)) :: (so, PySem.W.ks_superObj C x C) :: pins) σ H s' → Q (.ref q, []) s') : wpAny (model X.prog X.w) A (getMethod (.ref so) "__init__" pl) Q E s := by
  have KX : X.K.In s.heap := I.kIn
  obtain ⟨mA, O, rr, _, _, _⟩ := ins_get I.hok hx
  obtain ⟨od', J, hl⟩ := O.look
  have hso := ClX.pin_at I
  have hm := T.nxt
  have ht := T.fty
  cases hc : PySem.W.clsIn X.K C with
  | none => have := T.clsd; rw [hc] at this; cases this
  | some cd =>
    unfold PySem.W.ks_superIn at hm
    rw [hc] at hm
    obtain ⟨of, hof, hofc⟩ : ∃ of, s.heap.get? g3 = some of ∧ of.cls = .type "function" := by
      have ht' : (X.K.lookup g3).map (·.cls) = some (.type "function") := ht
      cases z : X.K.lookup g3 with
      | none => rw [z] at ht'; cases ht'
      | some of => rw [z] at ht'; exact ⟨of, KX _ _ z, Option.some.inj ht'⟩
    have J2 : PySem.W.InstAt s.heap x _ C (some od') := J
    have hne := PySem.W.ks_ne KX J2 hc
    obtain ⟨hp0, g0, d0, t0, os0⟩ := s
    refine PySem.ks_wpAny_getMethod_super hso (PySem.W.looks_opaque KX T.thd) (l₀ := cd.mro) ?_ rfl KX hm hof hofc hne (by decide) ?_
    · exact fun A Q E s k q => wpAny_bind ((PySem.W.looks_clsIn KX hc) A _ E s k (wpAny_pure q))
    · exact h _ _ (ClX.pin_new (t' := t0 + 1) I (fun b o e => Heap.get?_push_of_some _ e) (Nat.le_refl _) (Heap.get?_push_at rfl rfl) (fun v z => nomatch z))
end
section
variable {prog : Program} {wd : World} {A : Around} {c : Code} {E : Value → Shared → Prop} {s : Shared} {env : Env}
theorem sup_call {o : Expr} {nm : Str} {apos pos : Pos} {Q : Value → Shared → Prop} (hline : (apos.endLine == pos.line) = true)
    (h : _root_.PySem.wpAt (model prog wd) A c (attributeBase o nm env (eval o env)) (fun ov s₁ => wpAny (model prog wd) A (getMethod ov nm (do return (← importBound o env).getD true)) (fun fx s₂ =>
      wpAny (model prog wd) A (callWith pos fx.1 fx.2 (backTo pos (starEach [] env)) (backToKw pos (keywordEach [] env))) Q E s₂) E s₁) E s) :
    _root_.PySem.wpAt (model prog wd) A c (eval (.Call (.Attribute o nm apos) [] [] pos) env) Q E s := by
  rw [arm_eval_Call]
  refine _root_.PySem.wpAt_bind (PySem.ks_wpAt_mono h (fun ov s₁ h₁ => wpAt_of_wpAny ?_) fun _ _ e => e)
  refine wpAny_bind (wpAny_standAt ?_)
  have hpos : methodCallPos true o env apos pos = pure pos := by unfold methodCallPos; simp [hline]
  unfold methodCall
  rw [few_ok (es := []) rfl (by decide)]
  refine wpAny_bind (wpAny_holding ?_)
  show wpAny _ _ (getMethod ov nm (do return (← importBound o env).getD true)) _ _ _
  refine wpAny_mono h₁ (fun fx s₂ h₂ => ?_) fun _ _ e => e
  exact wpAny_bind (wpAny_of_eq hpos h₂)
end
section
variable {CX : CXT} {P : Program} {wd : World} {K : PySem.W.Frag} {mg : Str → Option Value} {base : Heap} {g : Cfg} {w : SV.W} {k : Nat} {N ps : List Str} {nm qual : Str} {st : Stmt} {fn : Fn} {frr : Bool} {f C g3 cda cc : Addr}
/-- its promise -/
theorem fn_sup {p0 p1 : Pos} {p2 p3 p4 : Pos} {rest : List Stmt} {rest' : List Sm} (hP : g.P = P) (hw : g.w = wd) (hK : g.K = K) (T : SupIn P K nm qual st f C g3 cda cc) (hC : g.aC 4 = C) (hsu : mg "super" = none)
    (Sc : NdefX.NScope N (("self" : Str) :: ps) ["__class__"] (defScope st)) (hns : N.length = fn.ns) (hnp : ps.length + 1 = fn.np) (hst : fn.star = false)
    (hb : ∀ (kV doc pm : Value) (an : Option Addr) (ct : Value) (us : List Value), us.length = ps.length + 1 → bindArgs (PySem.W.ksFn nm qual (defArgs st) (defBody st) (defScope st) .none kV doc pm an (.ref cda) ct cc) ⟨us, []⟩ = pure ((("self" : Str) :: ps).zip us))
    (hpa : ∃ ar : Arg, ((defArgs st).posonlyargs ++ (defArgs st).args).head? = some ar ∧ ar.arg = "self")
    (hbody : defBody st = .Expr (.Call (.Attribute (.Call (.Name "super" p0) [] [] p1) "__init__" p2) [] [] p3) p4 :: rest) (hfn : fn.body = .exp (.mth (.var 0) 6 .nil) :: rest')
    (hline : (p2.endLine == p3.line) = true)
    (hks : (defScope st).names.lookup ("super" : Str) = some .globalImplicit) (htop : (P.main.scope.names.lookup ("super" : Str)).isSome = false)
    (h6 : ∀ c j, w.meth c 6 = some j → c = 4 ∧ j = 3) (F3 : noCall (w.call 3) ∨ FnR P wd K mg base CX k g3 (spF g false (w.call 3)))
    (px : ∀ (A : Around) (outer : List Env) (s : Shared) (H : Hp) (E : XK), PassX CX (cxSup CX P wd K mg base N nm qual st cda cc f A outer s H E) (WE E))
    (B : ∀ (A : Around) (outer : List Env) (s : Shared) (H : Hp) (E : XK), Room (k + 2) (A.deeper (NdefX.envF (supNF nm qual st cda cc) f s.heap.objs.size)) → PSs (cxSup CX P wd K mg base N nm qual st cda cc f A outer s H E) rest (tS g (WE E) frr (exSs w none rest'))) :
    FnR P wd K mg base CX (k + 3) f (spF g frr (fun ds M => runF w fn ds M)) := by
  intro A outer s H us vs Q E hr e0 r hs
  obtain ⟨ι, ds, M, rel, dn, o⟩ := hs
  unfold runF argsOf at o
  rw [hst] at o
  simp only [Bool.false_eq_true, if_false] at o
  by_cases hl : ds.length = fn.np
  case neg => rw [if_neg hl] at o; exact o.elim
  rw [if_pos hl] at o
  have hvl : vs.length = (("self" : Str) :: ps).length := by rw [← dn.length, hl, ← hnp]; rfl
  have hul : us.length = ps.length + 1 := by rw [← r.length, hvl]; rfl
  have KX : K.In s.heap := e0.mod.kin.keeps fun b o e => (e0.bs b o e).1
  have lim : s.heap.NoLimit := e0.mod.nolimit.keeps fun b o e => (e0.bs b o e).1
  obtain ⟨oc, od, kV, doc, pm, an, ct, osl, lk⟩ := T.at_
  obtain ⟨cl, cld, csl, hcell⟩ := T.cell
  obtain ⟨ar, ha1, ha2⟩ := hpa
  have hcf : H cc = none := by
    have : base.get? cc = some _ := e0.mod.kin _ _ hcell
    exact (e0.bs _ _ this).2
  have hlk1 : ∀ y c, (supNF nm qual st cda cc).cl.lookup y = some c → y = "__class__" ∧ c = cc := fun y c e => by
    have e : List.lookup y [(("__class__" : Str), cc)] = some c := e
    simp only [List.lookup] at e
    split at e
    · rename_i z
      exact ⟨eq_of_beq z, (Option.some.inj e).symm⟩
    · cases e
  have CA : NdefX.CellsAt (supNF nm qual st cda cc).cl ["__class__"] [none] s.heap H := by
    refine ⟨rfl, fun y c e => ?_, fun x y c e1 e2 => ?_, fun i y e => ?_⟩
    · obtain ⟨rfl, rfl⟩ := hlk1 y c e
      exact ⟨hcf, _, _, KX _ _ hcell, rfl⟩
    · rw [(hlk1 x c e1).1, (hlk1 y c e2).1]
    · cases i with
      | zero => cases e; exact ⟨cc, by show List.lookup _ [(("__class__" : Str), cc)] = _; simp [List.lookup], fun v z => by cases z⟩
      | succ i => cases e
  refine codeAny_call_function hr.depth (KX _ _ lk) rfl Sc.co Sc.gen rfl (PySem.W.codeRec_of KX T.code) ?_
  rw [hb kV doc pm an ct us hul]
  refine wpAny_pure (wpAny_newFunctionEnv Sc.nocell (fun ⟨n, _⟩ hy => Sc.par n (List.of_mem_zip hy).1) (fun h₁ hns' hsb => ⟨lim.fresh _ hsb, ?_⟩) Sc.kind)
  show codeAny _ _ (.func (defBody st) (NdefX.envF (supNF nm qual st cda cc) f s.heap.objs.size)) _ _
  refine PySem.ks_codeAny_funcAt ?_
  have kp : ∀ b o, s.heap.get? b = some o → h₁.get? b = some o := fun b o e => hsb.extBut b o (Nat.ne_of_lt (Heap.lt_size e)) (Heap.get?_push_of_some _ e)
  have I : Inv (cxSup CX P wd K mg base N nm qual st cda cc f A outer s H E) [] (NdefX.startF N vs [none]) H { s with heap := h₁, toks := s.toks + ((("self" : Str) :: ps).zip us).length } := NdefX.inv_startN Sc hr.hd e0 hvl r CA hns' kp
  have hroom := hr.deeper (NdefX.envF (supNF nm qual st cda cc) f s.heap.objs.size)
  have fin : ∀ {σ' : L2.St} {H' : Hp} {v : V} {u : Value} {s'}, Inv (cxSup CX P wd K mg base N nm qual st cda cc f A outer s H E) [] σ' H' s' → L2.RelV v u → Q v H' → CE outer P wd H s Q u s' :=
    fun {σ' H' v u s'} J rv q => ⟨v, H', J.os, J.bare, J.base, J.hok, rv, q⟩
  rw [hbody]
  have hc0 : (defScope st).names.lookup ("__class__" : Str) = some .free := Sc.frk _ (by simp)
  have hself : (defScope st).names.lookup (ar.arg : Str) = some .local := by rw [ha2]; exact Sc.par _ (by simp)
  -- SV's start
  have henv : EnvDen g H ι (NdefX.startF N vs [none]) (ds.map some ++ List.replicate (fn.ns - ds.length) none) := by
    have h0 := start_den (N := N) dn hns
    have e : NdefX.startF N vs [none] = L2.start N vs := by
      have hN : vs.length + 1 ≤ N.length := by
        have := congrArg List.length Sc.pre
        rw [List.length_take] at this
        simp at this
        rw [hvl]; simp; omega
      unfold NdefX.startF L2.start
      congr 1
      have : N.length - vs.length = (N.length - vs.length - 1) + 1 := by omega
      rw [this, List.replicate_succ]
      simp
    rw [e]
    exact h0
  have oe := leave_end (frr := frr) (Q := Q) (E := E) (o := exSs w none fn.body ⟨ds.map some ++ List.replicate (fn.ns - ds.length) none, M⟩) rel o (NdefX.startF N vs [none])
  rw [hfn] at oe
  generalize hs0 : (⟨ds.map some ++ List.replicate (fn.ns - ds.length) none, M⟩ : SV.S) = s0 at oe
  have sr0 : SR g H ι (NdefX.startF N vs [none]) s0 := by rw [← hs0]; exact ⟨henv, rel⟩
  obtain ⟨d0, hd0⟩ : ∃ d0, s0.e[0]? = some (some d0) := by
    cases ds with
    | nil => simp at hl; omega
    | cons d0 dr => exact ⟨d0, by rw [← hs0]; rfl⟩
  have hev : exSs w none (.exp (.mth (.var 0) 6 .nil) :: rest') s0 = (match exS w none (.exp (.mth (.var 0) 6 .nil)) s0 with
      | .ok (.nx, s') => exSs w none rest' s'
      | .ok (c, s') => .ok (c, s')
      | .exc c d s' => .exc c d s'
      | .bad => .bad) := by simp only [exSs] <;> rfl
  have hex : exS w none (.exp (.mth (.var 0) 6 .nil)) s0 = (do
      let (_, s) ← (match clsOf s0.m d0 with
        | some c => match w.meth c 6 with
          | some f => inS s0 (w.call f (d0 :: []) s0.m)
          | none => .bad
        | none => .bad : Out (SV.D × SV.S))
      .ok (.nx, s)) := by
    simp only [exS, evE, hd0, evEs]
    rfl
  rw [hev, hex] at oe
  cases hcl : clsOf s0.m d0 with
  | none => rw [hcl] at oe; exact oe.elim
  | some c =>
    rw [hcl] at oe
    dsimp only at oe
    cases hm6 : w.meth c 6 with
    | none => rw [hm6] at oe; exact oe.elim
    | some j =>
      rw [hm6] at oe
      dsimp only at oe
      obtain ⟨rfl, rfl⟩ := h6 c j hm6
      obtain ⟨v0, hv0, dv0⟩ := sr0.1.2 0 d0 hd0
      obtain ⟨x, rfl, dx, fs, hx⟩ := Den.insAt sr0.2 dv0 hcl
      rw [hC] at hx
      have F3' : FnR P wd K mg base CX k g3 (spF g false (w.call 3)) := by
        rcases F3 with z | z
        · rw [show w.call 3 = _ from z] at oe
          exact oe.elim
        · exact z
      have hN0 : N[0]? = some (ar.arg : Str) := by
        rw [ha2]
        have e := congrArg (fun l => l[0]?) Sc.pre
        simp only [List.length_cons, List.cons_append, List.getElem?_cons_zero] at e
        rw [List.getElem?_take_of_lt (by omega)] at e
        exact e
      refine PySem.ks_wpAt_execs_cons (PySem.ks_wpAt_Expr_any (sup_call hline (sup_node (i := 0) (K := K) rfl T I rfl ha1 hN0 hv0 hx hsu hks hc0 hself Sc.kind htop fun so s1 I1 hb1 => ?_)) (by unfold interactive; rw [show (NdefX.envF (supNF nm qual st cda cc) f s.heap.objs.size).scope.kind = .function from Sc.kind]; rfl) (by rfl))
      refine sup_meth T I1 hx fun q s2 I2 => ?_
      refine PySem.W.callWith_M0 (K := K) ⟨ClX.pin_at I2, I2.kIn⟩ T.ffn ?_
      refine wpAny_call (PySem.W.method_call (ClX.pin_at I2) ?_)
      have I3 := ClX.unpin (ClX.unpin I2)
      refine codeAny_mono (run_sp (W := WE E) (Q := fun v H' => tS g (WE E) frr (exSs w none rest') { nx := fun _ H' => Q .non H', rt := Q } (NdefX.startF N vs [none]) H') (st := s0) (ι := ι) (ds := [d0]) F3' (hroom.mono (by omega)) (px A outer s H E) I3 sr0 (us := [.ref x]) (vs := [.ref x]) (.cons rfl .nil) (DenL.cons dv0 DenL.nil) ?_) fun rr s3 hq => ?_
      · have oe2 : OutP (inS s0 (w.call 3 [d0] s0.m)) (fun p => OutP (exSs w none rest' p.2) (EndP g frr { nx := fun _ H' => Q .non H', rt := Q } H ι) (XC g (WE E) H ι (NdefX.startF N vs [none]))) (XC g (WE E) H ι (NdefX.startF N vs [none])) := by
          cases hr3 : (inS s0 (w.call 3 [d0] s0.m) : Out (SV.D × SV.S)) with
          | ok p => rw [hr3] at oe; exact oe
          | exc c d s' => rw [hr3] at oe; exact oe
          | bad => rw [hr3] at oe; exact oe
        exact oe2.mono (fun p hp v H' ι' l sr' _ _ => tS.on l sr' hp) fun _ _ _ z => z
      · cases rr with
        | error e => exact hq
        | ok fl =>
          cases fl with
          | ret u =>
            obtain ⟨v, H', I4, rv, q4⟩ := hq
            refine wpAt_of_wpAny (wpAny_mono ((B A outer s H E hroom).run [] s3 (NdefX.startF N vs [none]) H' _ I4 q4) (fun fl s' hs => ?_) fun e s' hs => hs)
            cases fl with
            | ret u =>
              obtain ⟨v, σ', H', J, rv, q⟩ := hs
              exact fin J rv q
            | next =>
              obtain ⟨σ', H', J, q⟩ := hs
              exact fin (v := V.non) (u := Value.none) J rfl q
            | brk =>
              obtain ⟨_, _, _, q⟩ := hs
              exact False.elim q
            | cont =>
              obtain ⟨_, _, _, q⟩ := hs
              exact False.elim q
          | next => exact False.elim hq
          | brk => exact False.elim hq
          | cont => exact False.elim hq
end
end SV
namespace SV
open PySem PySem.Spec PyProof.Rows L2
section
variable {P : Program} {wd : World} {K : PySem.W.Frag} {mg : Str → Option Value} {base : Heap} {g : Cfg} {p : Pg} {w : SV.W} {k : Nat} {N : List Str} {nm qual : Str} {st : Stmt} {f cda cc : Addr} {A : Around} {outer : List Env} {s : Shared} {H : Hp} {E : XK}
theorem fx_ofS (tx : Tx K mg g p.meth p.init p.kcon) (hm : w.meth = p.meth) (hi : w.init = p.init) (hk : w.kcon = p.kcon) (fn : AllK P wd K mg base g k w.call) (room : Room (k + 2) (A.deeper (NdefX.envF (supNF nm qual st cda cc) f s.heap.objs.size))) :
    Fx (cxSup (L2.CX P wd) P wd K mg base N nm qual st cda cc f A outer s H E) g (WE E) w (L2.CX P wd) k where
  room := room
  px := px_of (takes_of rfl rfl rfl rfl)
  calm := rfl
  tk := takes_of rfl rfl rfl rfl
  exn := tx.exn
  exi := fun x cl h => ⟨(tx.exi x cl h).1, (tx.exi x cl h).2 _ _ _ _⟩
  sbT := hm ▸ tx.sbT
  pxF := cx_no
  cls := tx.cls
  fld := tx.fld
  kcon := hk ▸ tx.kcon
  fn := fn
  gfn := tx.gfn
  gcl := hi ▸ tx.gcl
  mono := cx_mono
  own := passes_of rfl
  mth := hm ▸ tx.mth
  ins := tx.ins
  isi := fun t ht => ⟨(tx.isi t ht).mg, (tx.isi t ht).kb, (tx.isi t ht).ko⟩
  cI := tx.cI
  cS := tx.cS
  cv := tx.cv
  blt := tx.blt
  cm := tx.cm
  sb := hm ▸ tx.sb
  nq := hm ▸ tx.nq
theorem gd_ofS (hP : g.P = P) (hw : g.w = wd) (hK : g.K = K) (nd : N.Nodup) (room : Room k (A.deeper (NdefX.envF (supNF nm qual st cda cc) f s.heap.objs.size))) :
    Gd (cxSup (L2.CX P wd) P wd K mg base N nm qual st cda cc f A outer s H E) g ⟨N, defScope st, [], [], 0, false⟩ where
  P := hP
  ww := hw
  K := hK
  N := rfl
  nd := nd
  sc := rfl
  un := by
    have := room.un
    show (A.deeper (NdefX.envF (supNF nm qual st cda cc) f s.heap.objs.size)).units + 66 < cLine
    omega
end
end SV
set_option linter.all false
set_option Elab.async false
set_option maxRecDepth 100000
set_option maxHeartbeats 4000000
namespace SV
open PySem PySem.Spec PyProof.Rows L2
section
variable {X : Cx} {g : Cfg} {c : Tc} {W : WX} {w : SV.W} {x y : Str} {i : Nat} {CX : CXT} {k : Nat} {f : Nat}
variable {a b d e : Expr} {a' b' d' : Ex} {es rest : List Expr} {es' : Exs} {p q tp pos apos sp_ : Pos} {fr frr fra : Bool} {ex : Option (Nat × SV.D)}
end
end SV
set_option linter.all false
set_option Elab.async false
set_option maxRecDepth 100000
set_option maxHeartbeats 4000000
namespace SV
open PySem PySem.SeqAt GQ
open AutoSeq1 (wpAny_loadPart')
open MeetsSeq MeetsSeq2 MeetsSeq3 SeqRoads2
section
variable {prog : Program} {w : World} {A : Around} {R : Result → Shared → Prop}
/-- == of two tuples: what the items' == say one after another -/
theorem tup_eqR (ta tb : Addr) (xs ys : Array Value) {ca cb : Nat} {da db : Option Addr} {va vb : Array (Option Value)} (I : Nat → Shared → Prop)
    (one : ∀ j (h1 : j < xs.size) (h2 : j < ys.size) u, I j u → wpAny (model prog w) A.in1 (eqBool xs[j] ys[j]) (fun r u' => if r = true then I (j + 1) u' else R (.ok (.ret (.bool false))) u') (fun e u' => R (.error e) u') u)
    (fin : ∀ u, I (min xs.size ys.size) u → R (.ok (.ret (.bool (xs.size == ys.size)))) u) {s : Shared}
    (ga : s.heap.get? ta = some { cls := .type "tuple", dict := da, data := .seq xs ca, slots := va }) (gb : s.heap.get? tb = some { cls := .type "tuple", dict := db, data := .seq ys cb, slots := vb }) (h : I 0 s) :
    wpAny (model prog w) A.in1 (Builtin.«tuple.__eq__» ⟨[.ref ta, .ref tb], []⟩) (FinOf prog w A R) (fun e u' => R (.error e) u') s := by
  have sb := AutoSeq1.sub_tuple_tuple
  have hz0 : (xs.toList.zip ys.toList).length = min xs.size ys.size := by simp
  have h0 := h
  obtain ⟨hp, g, d, tk, os⟩ := s
  wp_walk using wpAny_loadPart' ga, wpAny_loadPart' gb, wpAny_forIn_list _ (fun todo b u => b.1 = none ∧ ∃ j, todo = (xs.toList.zip ys.toList).drop j ∧ j ≤ min xs.size ys.size ∧ I j u) _
  case turn =>
    rintro ⟨p, q⟩ todo b u ⟨eb, j, ez, ej, hI⟩
    have hj : j < (xs.toList.zip ys.toList).length := by
      refine Nat.lt_of_not_ge fun hn => ?_
      rw [List.drop_of_length_le hn] at ez
      cases ez
    have h1 : j < xs.size := by omega
    have h2 : j < ys.size := by omega
    rw [List.drop_eq_getElem_cons hj] at ez
    obtain ⟨e1, e2⟩ := List.cons.inj ez
    have ep : p = xs[j] := by simpa using congrArg Prod.fst e1
    have eq : q = ys[j] := by simpa using congrArg Prod.snd e1
    subst ep eq
    refine wpAny_bind (wpAny_mono (one j h1 h2 u hI) (fun r u2 z => ?_) fun _ _ x => x)
    cases r with
    | true =>
      rw [if_pos rfl] at z
      wp_walk
      exact ⟨rfl, j + 1, e2, by omega, z⟩
    | false =>
      rw [if_neg (by simp)] at z
      wp_walk
      exact z
  case fin =>
    rintro ⟨b1, b2⟩ u ⟨eb, j, ez, ej, hI⟩
    dsimp only at eb
    subst eb
    have hj : (xs.toList.zip ys.toList).length ≤ j := by
      refine Nat.le_of_not_lt fun hn => ?_
      rw [List.drop_eq_getElem_cons hn] at ez
      cases ez
    have ej2 : j = min xs.size ys.size := by omega
    have z := fin u (ej2 ▸ hI)
    wp_walk
    exact z
  case h =>
    exact ⟨rfl, 0, rfl, Nat.zero_le _, h0⟩
/-- the same as a rich comparison -/
theorem tup_rcR {E : Value → Shared → Prop} {s : Shared} {ta tb : Addr} {xs ys : Array Value} {Q : Value → Shared → Prop} (hu : A.units < cLine) (I : Nat → Shared → Prop) (ha : s.heap.IsTuple ta xs) (hb : s.heap.IsTuple tb ys)
    (one : ∀ j (h1 : j < xs.size) (h2 : j < ys.size) u, I j u → wpAny (model prog w) A.in1 (eqBool xs[j] ys[j]) (fun r u' => if r = true then I (j + 1) u' else Q (.bool false) u') E u)
    (fin : ∀ u, I (min xs.size ys.size) u → Q (.bool (xs.size == ys.size)) u) (h : I 0 s) : wpAny (model prog w) A (richCompare .Eq (.ref ta) (.ref tb)) Q E s := by
  obtain ⟨⟨k1, d1, b1, v1⟩, g1, c1, n1, e1⟩ := id ha
  obtain ⟨⟨k2, d2, b2, v2⟩, g2, c2, n2, e2⟩ := id hb
  simp only at c1 e1 c2 e2
  subst c1 e1 c2 e2
  refine wpAny_richCompare_same_room (op := .Eq) ⟨_, g1, rfl⟩ ⟨_, g2, rfl⟩ F.slot_tuple_eq (call_here F.slot_tuple_eq ⟨_, g1, rfl⟩ F.entry_tuple_eq (F.args_tuple_eq_2 _ _) ?_) hu
  refine tup_eqR (R := wants (fun v u => v ≠ .notImplemented ∧ Q v u) E) ta tb xs ys I (fun j h1 h2 u hI => ?_) (fun u z => ⟨(fun x => nomatch x), fin u z⟩) g1 g2 h
  refine wpAny_mono (one j h1 h2 u hI) (fun r u2 z => ?_) fun _ _ x => x
  cases r with
  | true => rw [if_pos rfl] at z ⊢; exact z
  | false => rw [if_neg (by simp)] at z ⊢; exact ⟨(fun x => nomatch x), z⟩
end
section
open PySem.W PyProof.Rows
variable {prog : Program} {w : World} {A : Around} {E : Value → Shared → Prop} {s : Shared} {K : Frag} {x y C1 C2 L fa : Addr} {h0 : Heap} {mm : Str → Option Value} {ox oy : Obj} {ex ey : Option Obj}
/-- the right one's class is below the left one's: it is asked first -/
theorem cmp_low {op : CmpOp} {Q : Value → Shared → Prop} (hu : A.units < cLine) (Fm : Fr h0 L s.heap mm) (X0 : K.In h0) (I : InstAt s.heap x ox C1 ex) (J : InstAt s.heap y oy C2 ey) (hne : C2 ≠ C1) (hsub : subIn K (.ref C2) (.ref C1) = some true)
    (hs : findIn K (.ref C2) (cmpInfo op).2.2 = some (some (.ref fa))) (hf : isFn K (.ref fa) = true)
    (h : wpAny (model prog w) A (call (.ref fa) [.ref y, .ref x]) (PySem.W.CmpBack Q) E s) : wpAny (model prog w) A (richCompare op (.ref x) (.ref y)) Q E s := by
  have X := X0.keeps Fm.keep
  unfold richCompare
  simp only [oneThing_ref]
  refine wpAny_holding (wpAny_bind (wpAny_cRoomFor hu ?_))
  refine wpAny_bind (I.type.here (wpAny_bind (J.type.here ?_)))
  have hd : ((Value.ref C1 != Value.ref C2) = true) := by simp; exact fun e => hne e.symm
  rw [if_pos hd]
  refine wpAny_bind ((looks_subIn X hsub).here ?_)
  simp only [if_true]
  unfold tryCompare
  refine wpAny_bind (wpAny_bind (ifBound_K X J hs hf (wpAny_mono h (fun v u z => ?_) fun _ _ e => e)))
  cases v <;> first | exact z.elim | (refine wpAny_pure ?_; wp_walk; exact z)
/-- a slot of object for an own instance -/
theorem chk_obj {id n : String} {rest : List Value} {Q : Unit → Shared → Prop} (X : K.In s.heap) (I : InstAt s.heap x ox C1 ex) (hm : mroIn K C1 (.type "object") = some true) (hk : builtinKind id = some .slot) (hs : splitId id = some ("object", n))
    (ha : argsOk id ⟨.ref x :: rest, []⟩) (q : Q () s) : wpAny (model prog w) A (checkBuiltinCall id ⟨.ref x :: rest, []⟩) Q E s := by
  simp only [checkBuiltinCall, hk, hs]
  refine wpAny_bind ?_
  unfold isInstance
  refine wpAny_bind (I.type.here ((looks_subIn (t := .ref C1) X hm).here ?_))
  cases hsig : Manifest.signature? id with
  | none => exact wpAny_pure q
  | some sig =>
    simp only [argsOk, hsig] at ha
    have h2 : Bind.checkArgs id sig ⟨.ref x :: rest, []⟩ = pure () := ha
    show wpAny (model prog w) A (Bind.checkArgs id sig ⟨.ref x :: rest, []⟩) Q E s
    rw [h2]
    exact wpAny_pure q
/-- a special method that object gives -/
theorem ifBound_o {id : String} {name : Str} {args : List Value} {Q : Option Value → Shared → Prop} (X : K.In s.heap) (I : InstAt s.heap x ox C1 ex) (hs : findIn K (.ref C1) name = some (some (.builtin id)))
    (hb : ∀ self, bindSpecial (.builtin id) self = pure (.builtin id, [self])) (h : wpAny (model prog w) A (call (.builtin id) (.ref x :: args)) (fun v u => Q (some v) u) E s) : wpAny (model prog w) A (callSpecialIfBound? (.ref x) name args) Q E s := by
  simp only [callSpecialIfBound?, bindSpecialIfBound?]
  refine wpAny_holding (wpAny_bind (wpAny_bind (wpAny_bind (I.type.here ((looks_findIn X hs).here ?_)))))
  refine wpAny_bind (wpAny_askSetting (wpAny_ite ?_))
  simp only [hb]
  have fin : wpAny (model prog w) A (call (.builtin id) ([.ref x] ++ args) >>= fun v => pure (some v)) Q E s := wpAny_bind (wpAny_mono h (fun v u z => wpAny_pure z) fun _ _ e => e)
  split
  · exact wpAny_bind (wpAny_pure (wpAny_pure fin))
  · exact wpAny_tryCatch (wpAny_bind (wpAny_pure (wpAny_pure fin)))
/-- != of two of one class whose == is its own -/
theorem cmp_ne {Q : Value → Shared → Prop} (hu : A.units + 1 < cLine) (Fm : Fr h0 L s.heap mm) (X0 : K.In h0) (I : InstAt s.heap x ox C1 ex) (J : InstAt s.heap y oy C1 ey) (hm : mroIn K C1 (.type "object") = some true)
    (hn : findIn K (.ref C1) "__ne__" = some (some (.builtin "object.__ne__"))) (hs : findIn K (.ref C1) "__eq__" = some (some (.ref fa))) (hf : isFn K (.ref fa) = true)
    (h : codeAny (model prog w) A.in1 (.call (.ref fa) ⟨[.ref x, .ref y], []⟩) (fun r u => match r with | .ok (.ret v) => ∃ r : Bool, v = .bool r ∧ Q (.bool (!r)) u | .ok _ => False | .error e => E e u) s) : wpAny (model prog w) A (richCompare .NotEq (.ref x) (.ref y)) Q E s := by
  have X := X0.keeps Fm.keep
  unfold richCompare
  simp only [oneThing_ref]
  refine wpAny_holding (wpAny_bind (wpAny_cRoomFor (by omega) ?_))
  refine wpAny_bind (I.type.here (wpAny_bind (J.type.here ?_)))
  have hd : ¬ ((Value.ref C1 != Value.ref C1) = true) := by simp
  rw [if_neg hd]
  refine wpAny_bind (wpAny_pure ?_)
  simp only [Bool.false_eq_true, if_false]
  unfold tryCompare
  refine wpAny_bind (wpAny_bind (ifBound_o X I hn F.cmp_object.ne.bind (wpAny_call (codeAny_call_builtin F.cmp_object.ne.plain F.cmpEntry_ne (chk_obj X I hm F.cmpKind_ne F.cmpSplit_ne (F.cmpArgs_ne _ _) ?_)))))
  have hu1 : A.in1.units < cLine := by
    have : A.in1.units = A.units + 1 := rfl
    omega
  unfold Builtin.«object.__ne__»
  repeat (first | with_reducible refine wpAny_cRoomFor hu1 ?_ | with_reducible refine ifBound_K X I hs hf ?_ | wp_step)
  refine codeAny_mono h fun r u z => ?_
  cases r with
  | error e => exact z
  | ok fl =>
    cases fl with
    | ret v =>
      obtain ⟨b, rfl, z⟩ := z
      wp_walk
      exact z
    | next => exact False.elim z
    | brk => exact False.elim z
    | cont => exact False.elim z
end
end SV
set_option linter.all false
set_option Elab.async false
set_option maxRecDepth 100000
set_option maxHeartbeats 4000000
namespace SV
open PySem PySem.Spec PyProof.Rows L2
section
variable {X : Cx} {g : Cfg} {c : Tc} {W : WX} {w : SV.W} {pins : List (Addr × Obj)} {s : Shared} {σ : L2.St} {H : Hp} {ι : Io} {st : S} {CX : CXT} {k : Nat}
variable {a b : Expr} {a' b' : Ex} {pos : Pos} {fra frb : Bool}
/-- a def runs within A -/
def RunA (X : Cx) (g : Cfg) (W : WX) (CX : CXT) (k : Nat) (A : Around) : Prop :=
  ∀ {f : Addr} {fr : Bool} {cal : List D → List MO → Out (D × List MO)} {pins : List (Addr × Obj)} {s : Shared} {σ : L2.St} {H : Hp} {ι : Io} {st : S} {us : List Value} {vs : List V} {ds : List D} {Q : VK},
    FnR X.prog X.w X.K X.mg X.base CX k f (spF g fr cal) → Inv X pins σ H s → SR g H ι σ st → Vals vs us → DenL g H ι ds vs →
    OutP (SV.inS st (cal ds st.m)) (fun p => ∀ v H' ι', Le H ι H' ι' → SR g H' ι' σ p.2 → Den g H' ι' p.1 v → Nw fr g (fun H1 ι1 => Le H ι H1 ι1 ∧ SR g H1 ι1 σ p.2) H' ι' p.1 v → Q v H') (XC g W H ι σ) →
    codeAny (model X.prog X.w) A (.call (.ref f) ⟨us, []⟩) (fun r s' => match r with | .ok (.ret v) => EP X pins σ Q v s' | .ok _ => False | .error e => X.xe e s') s
theorem runA0 (T : Fx X g W w CX k) : RunA X g W CX k X.A := fun F I sr r dn q => run_sp F (T.room.mono (by omega)) T.px I sr r dn q
theorem runA1 (T : Fx X g W w CX k) : RunA X g W CX k X.A.in1 := fun F I sr r dn q => run_in1 F (T.room.mono (by omega)) T.px I sr r dn q
/-- what stands behind an own == -/
def EqPost (X : Cx) (g : Cfg) (pins : List (Addr × Obj)) (σ : L2.St) (H : Hp) (ι : Io) (st : S) (r : Bool) (s' : Shared) : Prop := ∃ H' ι', Inv X pins σ H' s' ∧ Le H ι H' ι' ∧ SR g H' ι' σ st
theorem ownEq_in {x y : D} {r : Bool} (q : ownEq w st.m x y = some r) : ∃ c e i, clsOf st.m x = some c ∧ clsOf st.m y = some e ∧ ownOk c e = true ∧ w.meth (if ownFst c e then e else c) 1 = some i ∧ w.call i (if ownFst c e then [y, x] else [x, y]) st.m = .ok (.bl r, st.m) := by
  unfold ownEq at q
  split at q
  · rename_i c e h1 h2
    split at q
    · rename_i h3
      split at q
      · rename_i i h4
        split at q
        · rename_i r' m' h5
          split at q
          · rename_i h6
            cases q
            subst h6
            exact ⟨c, e, i, h1, h2, h3, h4, h5⟩
          · cases q
        · cases q
      · cases q
    · cases q
  · cases q
/-- the text's own == runs -/
theorem own_run {A : Around} (T : Fx X g W w CX k) (R : RunA X g W CX k A) (I : Inv X pins σ H s) (sr : SR g H ι σ st) {i : Nat} {x y : D} {p : Addr} {vq : V} {uq : Value} {r : Bool} (dx : Den g H ι x (.ref p)) (dy : Den g H ι y vq) (rq : RelV vq uq)
    (e : w.call i [x, y] st.m = .ok (.bl r, st.m)) :
    codeAny (model X.prog X.w) A (.call (.ref (g.aF i)) ⟨[.ref p, uq], []⟩) (fun z s' => match z with | .ok (.ret v) => v = .bool r ∧ EqPost X g pins σ H ι st r s' | .ok _ => False | .error e => X.xe e s') s := by
  have o : OutP (SV.inS st (w.call i [x, y] st.m)) (fun z => z.1 = .bl r ∧ z.2 = st) (fun _ _ _ => False) := by
    rw [e]
    exact ⟨rfl, rfl⟩
  have F := fn_or T o
  refine codeAny_mono (R (Q := fun v H' => v = .bl r ∧ ∃ ι', Le H ι H' ι' ∧ SR g H' ι' σ st) F I sr (us := [.ref p, uq]) (vs := [.ref p, vq]) (.cons rfl (.cons rq .nil)) (DenL.cons dx (DenL.cons dy DenL.nil)) (o.mono (fun z hz v H' ι' l r1 d _ => ?_) fun _ _ _ z => z.elim)) fun z s' hz => ?_
  · obtain ⟨h1, h2⟩ := hz
    rw [h1] at d
    rw [h2] at r1
    simp only [Den] at d
    exact ⟨d, ι', l, r1⟩
  · cases z with
    | error e => exact hz
    | ok fl =>
      cases fl with
      | ret v =>
        obtain ⟨v', H', I', rv, h1, ι', l, r1⟩ := hz
        subst h1
        cases rv
        exact ⟨rfl, H', ι', I', l, r1⟩
      | next => exact hz
      | brk => exact hz
      | cont => exact hz
theorem cls_lt {cl i : Nat} (T : Fx X g W w CX k) (h : w.meth cl 1 = some i) : cl < 9 ∧ SpcIn X.K (g.aC cl) 1 (g.aF i) := ⟨(T.mth cl 1 i h).1, (T.mth cl 1 i h).2.2.2.2 (Nat.le_refl _) (by omega)⟩
/-- own == of two, whatever comes out -/
theorem own_rc {A : Around} (hu : A.units < cLine) (T : Fx X g W w CX k) (R : RunA X g W CX k A) (I : Inv X pins σ H s) (sr : SR g H ι σ st) {x y : D} {u v : V} {r : Bool} (dx : Den g H ι x u) (dy : Den g H ι y v) (q : ownEq w st.m x y = some r) :
    ∃ p q', u = .ref p ∧ v = .ref q' ∧ wpAny (model X.prog X.w) A (richCompare .Eq (.ref p) (.ref q')) (fun z s' => z = .bool r ∧ EqPost X g pins σ H ι st r s') X.xe s := by
  obtain ⟨c, e, i, h1, h2, h3, h4, h5⟩ := ownEq_in q
  obtain ⟨p, rfl, d1, f1, e1⟩ := dx.insAt sr.2 h1
  obtain ⟨p2, rfl, d2, f2, e2⟩ := dy.insAt sr.2 h2
  refine ⟨p, p2, rfl, rfl, ?_⟩
  obtain ⟨o1, od1, J1⟩ := Inv.inst I e1
  obtain ⟨o2, od2, J2⟩ := Inv.inst I e2
  obtain ⟨m, hF⟩ := I.fr
  have fin : ∀ {z : Value} {s' : Shared}, (z = .bool r ∧ EqPost X g pins σ H ι st r s') → PySem.W.CmpBack (fun z s' => z = .bool r ∧ EqPost X g pins σ H ι st r s') z s' := by
    rintro z s' ⟨rfl, h⟩
    exact ⟨rfl, h⟩
  have done : ∀ {pa pb : Addr} {xa ya : D}, Den g H ι xa (.ref pa) → Den g H ι ya (.ref pb) → w.call i [xa, ya] st.m = .ok (.bl r, st.m) →
      wpAny (model X.prog X.w) A (call (.ref (g.aF i)) [.ref pa, .ref pb]) (PySem.W.CmpBack (fun z s' => z = .bool r ∧ EqPost X g pins σ H ι st r s')) X.xe s := fun da db hc =>
    wpAny_call (codeAny_mono (own_run T R I sr da db rfl hc) fun z s' hz => by
      cases z with
      | error e => exact hz
      | ok fl =>
        cases fl with
        | ret v => exact fin hz
        | next => exact hz
        | brk => exact hz
        | cont => exact hz)
  cases hfst : ownFst c e with
  | true =>
    rw [hfst] at h4 h5
    simp only [if_true] at h4 h5
    obtain ⟨h9, S⟩ := cls_lt T h4
    simp only [ownFst, Bool.and_eq_true, beq_iff_eq, decide_eq_true_eq] at hfst
    obtain ⟨⟨rfl, he1⟩, he4⟩ := hfst
    have sb := T.sb ⟨e, i, by omega, h4⟩
    have s1 := sb 0 e (by omega) (by omega) (by omega)
    have s2 := sb e 0 (by omega) (by omega) (by omega)
    refine cmp_low (op := .Eq) hu hF I.ok.mod.kin J1 J2 (fun z => ?_) s1 S.at_ S.fi (done dy dx h5)
    rw [z] at s1 s2
    rw [s1] at s2
    simp at s2
    omega
  | false =>
    rw [hfst] at h4 h5
    simp only [Bool.false_eq_true, if_false] at h4 h5
    obtain ⟨h9, S⟩ := cls_lt T h4
    have hn : PySem.W.notFirst X.K (g.aC c) (.ref (g.aC e)) = true := by
      unfold PySem.W.notFirst
      by_cases hce : c = e
      · subst hce; simp
      · simp only [ownOk, Bool.or_eq_true, Bool.and_eq_true, decide_eq_true_eq, beq_iff_eq] at h3
        have hc5 : c < 5 := by omega
        have he5 : e < 5 := by omega
        have sb := T.sb ⟨c, i, hc5, h4⟩ c e hc5 he5 hce
        have hc0 : c ≠ 0 := by
          rintro rfl
          simp [ownFst] at hfst
          omega
        rw [sb]
        simp [hc0]
    exact PySem.W.cmp_K (op := .Eq) hu hF I.ok.mod.kin J1 J2.type hn S.at_ S.fi (done dx dy h5)
/-- own == asked of a text -/
theorem own_rs {A : Around} (hu : A.units < cLine) (T : Fx X g W w CX k) (R : RunA X g W CX k A) (I : Inv X pins σ H s) (sr : SR g H ι σ st) {c : Nat} {xs : List D} {z : Str} {u v : V} {uv : Value} {r : Bool} (dx : Den g H ι (.ins c xs) u) (dy : Den g H ι (.str z) v) (rv : RelV v uv) (q : ownEqS w st.m c (.ins c xs) (.str z) = some r) :
    ∃ p, u = .ref p ∧ wpAny (model X.prog X.w) A (richCompare .Eq (.ref p) uv) (fun z s' => z = .bool r ∧ EqPost X g pins σ H ι st r s') X.xe s := by
  unfold ownEqS at q
  split at q
  · rename_i i h4
    split at q
    · rename_i r' m' h5
      split at q
      · rename_i h6
        cases q
        subst h6
        obtain ⟨p, rfl, d1, f1, e1⟩ := dx.insAt sr.2 (show clsOf st.m (.ins c xs) = some c from rfl)
        refine ⟨p, rfl, ?_⟩
        obtain ⟨o1, od1, J1⟩ := Inv.inst I e1
        obtain ⟨m, hF⟩ := I.fr
        obtain ⟨h9, S⟩ := cls_lt T h4
        have ev : ∃ t, uv = .str z t := by
          simp only [Den] at dy
          subst dy
          exact rv
        obtain ⟨t, rfl⟩ := ev
        have hn : PySem.W.notFirst X.K (g.aC c) (.type "str") = true := by
          unfold PySem.W.notFirst
          rw [T.sbT c i h4]
          simp
        exact PySem.W.cmp_K (op := .Eq) hu hF I.ok.mod.kin J1 (tb := .type "str") (show PySem.W.Looks (model X.prog X.w) s.heap (typeOf (.str z t)) (.type "str") from .now) hn S.at_ S.fi (wpAny_call (codeAny_mono (own_run T R I sr dx dy rv h5) fun y s' hz => by
          cases y with
          | error e => exact hz
          | ok fl =>
            cases fl with
            | ret v => obtain ⟨rfl, h⟩ := hz; exact ⟨rfl, h⟩
            | next => exact hz
            | brk => exact hz
            | cont => exact hz))
      · cases q
    · cases q
  · cases q
theorem itmEq_in {m : List MO} {x y : D} {r : Bool} (q : itmEq w m x y = some r) : ∃ c e a b t u, x = .ins c (.str a :: t) ∧ y = .ins e (.str b :: u) ∧ ownEq w m x y = some r ∧ (a = b → r = true) := by
  unfold itmEq at q
  split at q
  · rename_i c a t e b u
    split at q
    · split at q
      · rename_i r' h1
        split at q
        · rename_i h2
          cases q
          exact ⟨c, e, a, b, t, u, rfl, rfl, h1, h2⟩
        · cases q
      · cases q
    · cases q
  · cases q
theorem den_fst {c : Nat} {a : Str} {t : List D} {p : Addr} (d : Den g H ι (.ins c (.str a :: t)) (.ref p)) : ∃ C dx n fs, H p = some (.ins C dx ((n, V.str a) :: fs)) := by
  simp only [Den, DenL] at d
  obtain ⟨p', dx, vs, ns, e, ⟨h, _⟩, _, hl, v, t', rfl, rfl, _⟩ := d
  cases e
  cases ns with
  | nil => simp at hl
  | cons n r => exact ⟨_, _, fname n, _, h⟩
/-- == of two items inside a built-in -/
theorem itm_eqB (hu : X.A.in1.units < cLine) (T : Fx X g W w CX k) (I : Inv X pins σ H s) (sr : SR g H ι σ st) {x y : D} {u v : V} {uu vv : Value} {r : Bool} (dx : Den g H ι x u) (dy : Den g H ι y v) (ru : RelV u uu) (rv : RelV v vv) (q : itmEq w st.m x y = some r) :
    wpAny (model X.prog X.w) X.A.in1 (eqBool uu vv) (fun z s' => z = r ∧ EqPost X g pins σ H ι st r s') X.xe s := by
  obtain ⟨c, e, a, b, t, t2, rfl, rfl, h1, h2⟩ := itmEq_in q
  obtain ⟨p, p2, rfl, rfl, h3⟩ := own_rc hu T (runA1 T) I sr dx dy h1
  cases ru
  cases rv
  by_cases hp : p = p2
  · subst hp
    obtain ⟨C, d1, n, fs, e1⟩ := den_fst dx
    obtain ⟨C', d2, n', fs', e2⟩ := den_fst dy
    rw [e1] at e2
    have hab : a = b := by
      injection e2 with e2
      injection e2 with _ _ e2
      injection e2 with e2 _
      injection e2 with _ e2
      injection e2
    have hr := h2 hab
    subst hr
    exact SeqAt.EqAt.same (A := X.A.in1) (s := s) (.ref p) X.prog X.w X.xe _ ⟨rfl, H, ι, I, Le.refl _ _, sr⟩
  · refine GQ.eqBool_refG hp (wpAny_mono h3 (fun z s' hz => ?_) fun _ _ x => x)
    exact ⟨r, hz.1, rfl, hz.2⟩
theorem DenL.at_ {xs : List D} {vs : List V} (d : DenL g H ι xs vs) : xs.length = vs.length ∧ ∀ (j : Nat) (x : D), xs[j]? = some x → ∃ v, vs[j]? = some v ∧ Den g H ι x v := by
  induction xs generalizing vs with
  | nil => simp only [DenL] at d; subst d; exact ⟨rfl, fun j x h => by simp at h⟩
  | cons a r ih =>
    simp only [DenL] at d
    obtain ⟨v, t, rfl, d1, d2⟩ := d
    obtain ⟨h1, h2⟩ := ih d2
    refine ⟨by simp [h1], fun j x h => ?_⟩
    cases j with
    | zero => simp at h; subst h; exact ⟨v, rfl, d1⟩
    | succ j => simpa using h2 j x (by simpa using h)
/-- == of two tuples of own instances -/
theorem tup_rc (hu : X.A.units + 1 < cLine) (T : Fx X g W w CX k) (I : Inv X pins σ H s) (sr : SR g H ι σ st) {xs ys : List D} {u v : V} {r : Bool} (dx : Den g H ι (.tup xs) u) (dy : Den g H ι (.tup ys) v) (q : tupEq w st.m xs ys = some r) :
    ∃ p q', u = .ref p ∧ v = .ref q' ∧ wpAny (model X.prog X.w) X.A (richCompare .Eq (.ref p) (.ref q')) (fun z s' => z = .bool r ∧ EqPost X g pins σ H ι st r s') X.xe s := by
  simp only [Den] at dx dy
  obtain ⟨p, us, rfl, ⟨h1, _⟩, d1⟩ := dx
  obtain ⟨p2, vs, rfl, ⟨h2, _⟩, d2⟩ := dy
  refine ⟨p, p2, rfl, rfl, ?_⟩
  obtain ⟨its, r1, e1, _⟩ := I.tuple (.inl (.inl h1))
  obtain ⟨its2, r2, e2, _⟩ := I.tuple (.inl (.inl h2))
  obtain ⟨l1, a1⟩ := d1.at_
  obtain ⟨l2, a2⟩ := d2.at_
  have z1 : its.toArray.size = xs.length := by rw [List.size_toArray, ← r1.length, ← l1]
  have z2 : its2.toArray.size = ys.length := by rw [List.size_toArray, ← r2.length, ← l2]
  have hu1 : X.A.in1.units < cLine := by
    have : X.A.in1.units = X.A.units + 1 := rfl
    omega
  refine tup_rcR (by omega) (fun j u' => tupEq w st.m (xs.drop j) (ys.drop j) = some r ∧ EqPost X g pins σ H ι st r u') e1 e2 (fun j k1 k2 u' hI => ?_) (fun u' hI => ?_) ⟨q, H, ι, I, Le.refl _ _, sr⟩
  · obtain ⟨hq, H', ι', I', le, sr'⟩ := hI
    have j1 : j < xs.length := z1 ▸ k1
    have j2 : j < ys.length := z2 ▸ k2
    rw [List.drop_eq_getElem_cons j1, List.drop_eq_getElem_cons j2] at hq
    obtain ⟨w1, g1, b1⟩ := a1 j _ (List.getElem?_eq_getElem j1)
    obtain ⟨w2, g2, b2⟩ := a2 j _ (List.getElem?_eq_getElem j2)
    obtain ⟨y1, f1, q1⟩ := r1.get g1
    obtain ⟨y2, f2, q2⟩ := r2.get g2
    have i1 : its.toArray[j] = y1 := by
      have hh : j < its.length := by simpa using k1
      have := f1
      rw [List.getElem?_eq_getElem hh] at this
      simpa using this
    have i2 : its2.toArray[j] = y2 := by
      have hh : j < its2.length := by simpa using k2
      have := f2
      rw [List.getElem?_eq_getElem hh] at this
      simpa using this
    rw [i1, i2]
    simp only [tupEq] at hq
    split at hq
    · rename_i hb
      refine wpAny_mono (itm_eqB hu1 T I' sr' (b1.le le) (b2.le le) q1 q2 hb) (fun z s' hz => ?_) fun _ _ x => x
      obtain ⟨rfl, H2, ι2, I2, le2, sr2⟩ := hz
      rw [if_pos rfl]
      exact ⟨hq, H2, ι2, I2, le.trans le2, sr2⟩
    · rename_i hb
      cases hq
      refine wpAny_mono (itm_eqB hu1 T I' sr' (b1.le le) (b2.le le) q1 q2 hb) (fun z s' hz => ?_) fun _ _ x => x
      obtain ⟨rfl, H2, ι2, I2, le2, sr2⟩ := hz
      rw [if_neg (by simp)]
      exact ⟨rfl, H2, ι2, I2, le.trans le2, sr2⟩
    · cases hq
  · obtain ⟨hq, hp⟩ := hI
    refine ⟨?_, hp⟩
    rw [z1, z2] at hq ⊢
    by_cases hxy : xs.length = ys.length
    · rw [List.drop_of_length_le (by omega), List.drop_of_length_le (by omega)] at hq
      simp only [tupEq] at hq
      cases hq
      simp [hxy]
    · have : r = false := by
        rcases Nat.lt_or_ge xs.length ys.length with h | h
        · rw [Nat.min_eq_left (by omega), List.drop_length, List.drop_eq_getElem_cons h] at hq
          simp only [tupEq] at hq
          cases hq; rfl
        · have h' : ys.length < xs.length := by omega
          rw [Nat.min_eq_right (by omega), List.drop_length, List.drop_eq_getElem_cons h'] at hq
          simp only [tupEq] at hq
          cases hq; rfl
      subst this
      simp [hxy]
/-- != of two of one class -/
theorem own_rn (hu : X.A.units + 1 < cLine) (T : Fx X g W w CX k) (I : Inv X pins σ H s) (sr : SR g H ι σ st) {cl : Nat} {xs ys : List D} {u v : V} {r : Bool} (dx : Den g H ι (.ins cl xs) u) (dy : Den g H ι (.ins cl ys) v) (q : ownEq w st.m (.ins cl xs) (.ins cl ys) = some r) :
    ∃ p q', u = .ref p ∧ v = .ref q' ∧ wpAny (model X.prog X.w) X.A (richCompare .NotEq (.ref p) (.ref q')) (fun z s' => z = .bool (!r) ∧ EqPost X g pins σ H ι st r s') X.xe s := by
  obtain ⟨c, e, i, h1, h2, h3, h4, h5⟩ := ownEq_in q
  obtain ⟨p, rfl, d1, f1, e1⟩ := dx.insAt sr.2 h1
  obtain ⟨p2, rfl, d2, f2, e2⟩ := dy.insAt sr.2 h2
  cases h1
  cases h2
  refine ⟨p, p2, rfl, rfl, ?_⟩
  have hfst : ownFst cl cl = false := by
    cases cl with
    | zero => rfl
    | succ n => rfl
  rw [hfst] at h4 h5
  simp only [Bool.false_eq_true, if_false] at h4 h5
  obtain ⟨h9, S⟩ := cls_lt T h4
  obtain ⟨o1, od1, J1⟩ := Inv.inst I e1
  obtain ⟨o2, od2, J2⟩ := Inv.inst I e2
  obtain ⟨m, hF⟩ := I.fr
  refine cmp_ne hu hF I.ok.mod.kin J1 J2 (T.ins cl h9).hm (T.nq cl i h4) S.at_ S.fi (codeAny_mono (own_run T (runA1 T) I sr dx dy rfl h5) fun z s' hz => ?_)
  cases z with
  | error e => exact hz
  | ok fl =>
    cases fl with
    | ret v => exact ⟨r, hz.1, rfl, hz.2⟩
    | next => exact hz
    | brk => exact hz
    | cont => exact hz
def oeqF (w : SV.W) (ne : Bool) (x y : D) (s : S) : Out (D × S) := do
  let r ← opt (oeqD w s.m ne x y)
  .ok (.bl (r != ne), s)
theorem oeq_E (T : Fx X g W w CX k) : OpX X g W false (compareOp .Eq) (oeqF w false) := by
  intro pins s σ H ι x y v u vv uu st Q I sr dx dy rv ru q
  obtain ⟨r, hr, q⟩ := OutP.opt.mp (OutP.bnd q)
  have hu : X.A.units + 1 < cLine := by have := T.room.units; omega
  have key : ∀ {p q' : Addr}, v = .ref p → u = .ref q' → wpAny (model X.prog X.w) X.A (richCompare .Eq (.ref p) (.ref q')) (fun z s' => z = .bool r ∧ EqPost X g pins σ H ι st r s') X.xe s → wpAny (model X.prog X.w) X.A (compareOp .Eq vv uu) (EP X pins σ Q) X.xe s := by
    rintro p q' rfl rfl h
    cases rv
    cases ru
    show wpAny (model X.prog X.w) X.A (richCompare .Eq (.ref p) (.ref q')) _ _ _
    refine wpAny_mono h (fun z s' hz => ?_) fun _ _ x => x
    obtain ⟨rfl, H', ι', I', le, sr'⟩ := hz
    refine ⟨.bl r, H', I', rfl, ?_⟩
    have := q (.bl (r != false)) H' ι' le sr' (by simp only [Den]) Nw.no
    simpa using this
  have key2 : ∀ {p : Addr}, v = .ref p → wpAny (model X.prog X.w) X.A (richCompare .Eq (.ref p) uu) (fun z s' => z = .bool r ∧ EqPost X g pins σ H ι st r s') X.xe s → wpAny (model X.prog X.w) X.A (compareOp .Eq vv uu) (EP X pins σ Q) X.xe s := by
    rintro p rfl h
    cases rv
    show wpAny (model X.prog X.w) X.A (richCompare .Eq (.ref p) uu) _ _ _
    refine wpAny_mono h (fun z s' hz => ?_) fun _ _ x => x
    obtain ⟨rfl, H', ι', I', le, sr'⟩ := hz
    refine ⟨.bl r, H', I', rfl, ?_⟩
    have := q (.bl (r != false)) H' ι' le sr' (by simp only [Den]) Nw.no
    simpa using this
  unfold oeqD at hr
  split at hr
  · simp only [Bool.false_eq_true, if_false] at hr
    obtain ⟨p, q', e1, e2, h⟩ := tup_rc hu T I sr dx dy hr
    exact key e1 e2 h
  · simp only [Bool.false_eq_true, false_and, if_false] at hr
    obtain ⟨p, q', e1, e2, h⟩ := own_rc (by omega) T (runA0 T) I sr dx dy hr
    exact key e1 e2 h
  · simp only [Bool.false_eq_true, if_false] at hr
    obtain ⟨p, e1, h⟩ := own_rs (by omega) T (runA0 T) I sr dx dy ru hr
    exact key2 e1 h
  · cases hr
theorem oeq_N (T : Fx X g W w CX k) : OpX X g W false (compareOp .NotEq) (oeqF w true) := by
  intro pins s σ H ι x y v u vv uu st Q I sr dx dy rv ru q
  obtain ⟨r, hr, q2⟩ := OutP.opt.mp (OutP.bnd q)
  have hu : X.A.units + 1 < cLine := by have := T.room.units; omega
  unfold oeqD at hr
  split at hr
  · cases hr
  · split at hr
    · cases hr
    · rename_i c xs e ys hce
      have hce' : c = e := Classical.byContradiction fun z => hce ⟨rfl, z⟩
      subst hce'
      obtain ⟨p, q', rfl, rfl, h⟩ := own_rn hu T I sr dx dy hr
      cases rv
      cases ru
      show wpAny (model X.prog X.w) X.A (richCompare .NotEq (.ref p) (.ref q')) _ _ _
      refine wpAny_mono h (fun z s' hz => ?_) fun _ _ x => x
      obtain ⟨rfl, H', ι', I', le, sr'⟩ := hz
      refine ⟨.bl (!r), H', I', rfl, ?_⟩
      have := q2 (.bl (r != true)) H' ι' le sr' (by simp only [Den]) Nw.no
      simpa using this
  · cases hr
  · cases hr
theorem x_oeqE (T : Fx X g W w CX k) (ha : PE X a (tD g W false (evE w a'))) (hb : PE X b (tD g W false (evE w b'))) (hm : behindInMarks .Eq b = false) : PE X (.Compare a [.Eq] [b] pos) (tD g W false (evE w (.oeq false a' b'))) :=
  PE.imp (ev_cmpX (oeq_E T) ha hb hm) fun σ H Q q => by simpa only [evE, oeqF] using q
theorem t_oeqE (T : Fx X g W w CX k) (ha : PE X a (tD g W false (evE w a'))) (hb : PE X b (tD g W false (evE w b'))) (hm : behindInMarks .Eq b = false) : PT X (.Compare a [.Eq] [b] pos) (tDb g W (bE (evE w (.oeq false a' b')))) :=
  PT.imp (pt_cmpX (oeq_E T) ha hb hm) fun σ H Q q => by
    obtain ⟨ι, st, sr, o⟩ := q
    exact ⟨ι, st, sr, by simpa only [bE, evE, oeqF] using o⟩
theorem t_oeqN (T : Fx X g W w CX k) (ha : PE X a (tD g W false (evE w a'))) (hb : PE X b (tD g W false (evE w b'))) (hm : behindInMarks .NotEq b = false) : PT X (.Compare a [.NotEq] [b] pos) (tDb g W (bE (evE w (.oeq true a' b')))) :=
  PT.imp (pt_cmpX (oeq_N T) ha hb hm) fun σ H Q q => by
    obtain ⟨ι, st, sr, o⟩ := q
    exact ⟨ι, st, sr, by simpa only [bE, evE, oeqF] using o⟩
end
end SV
set_option linter.all false
set_option Elab.async false
set_option maxRecDepth 100000
set_option maxHeartbeats 4000000
namespace SV
open PySem PySem.Spec PyProof.Rows L2
section
variable {g : Cfg} {H H' : Hp} {ι ι' : Io} {m m' : List MO}
theorem DctAt.lx {a : Addr} {es : List D} (l : Lx H ι H' ι') (hk : ∀ u, H a = some u → H' a = some u) (h : DctAt g H ι a es) : DctAt g H' ι' a es := by
  rcases h with ⟨kvs, q, r⟩ | ⟨xs, q, ne, r⟩
  · exact .inl ⟨kvs, hk _ q, DenE.lx l _ _ r⟩
  · exact .inr ⟨xs, hk _ q, ne, DenG.lx l _ _ r⟩
theorem MDen.lx {a : Addr} {mo : MO} (l : Lx H ι H' ι') (hk : ∀ u, H a = some u → H' a = some u) (h : MDen g H ι a mo) : MDen g H' ι' a mo := by
  cases mo with
  | lst xs => obtain ⟨vs, q, r⟩ := h; exact ⟨vs, hk _ q, DenL.lx l _ _ r⟩
  | dct es => exact DctAt.lx l hk h
  | obj c fs => obtain ⟨dx, fs', q, r, z⟩ := h; exact ⟨dx, fs', hk _ q, DenF.lx l _ _ r, z⟩
  | dead => exact h
  | lkl xs => obtain ⟨o, vs, q, r⟩ := h; exact ⟨o, vs, hk _ q, DenL.lx l _ _ r⟩
  | lkd es =>
    rcases h with ⟨o, kvs, q, r⟩ | ⟨o, xs, q, ne, r⟩
    · exact .inl ⟨o, kvs, hk _ q, DenE.lx l _ _ r⟩
    · exact .inr ⟨o, xs, hk _ q, ne, DenG.lx l _ _ r⟩
theorem EnvDen.lx {σ : L2.St} {e : List (Option D)} (l : Lx H ι H' ι') (h : EnvDen g H ι σ e) : EnvDen g H' ι' σ e :=
  ⟨h.1, fun i d q => by
    obtain ⟨v, a, b⟩ := h.2 i d q
    exact ⟨v, a, Den.lx l d v b⟩⟩
/-- one place's address is written, whatever stands there -/
theorem Lx.at_ {k : Nat} {p : Addr} {o : HO} (e : ι[k]? = some (some p)) : Lx H ι (upd H p o) ι :=
  ⟨fun a u h n _ => ⟨by rw [upd_ne (fun z => n (by subst z; exact List.mem_of_getElem? e))]; exact h, n⟩, Nat.le_refl _, fun _ _ => .inl rfl⟩
end
section
variable {X : Cx} {g : Cfg} {c : Tc} {W : WX} {w : SV.W} {ex : Option (Nat × SV.D)} {fr : Bool}
end
end SV
set_option linter.all false
set_option Elab.async false
set_option maxRecDepth 100000
set_option maxHeartbeats 4000000
namespace SV
open PySem PySem.Spec PyProof.Rows L2
section
variable {g : Cfg} {H H' : Hp} {ι ι' : Io} {d : Addr} {o : Obj}
end
section
variable {X : Cx} {g : Cfg} {c : Tc} {W : WX} {w : SV.W} {a : Expr} {a' : Ex} {apos cpos : Pos} {elts : List Expr} {kk : Nat} {tpos : Pos} {tg : Expr}
end
end SV
set_option linter.all false
set_option Elab.async false
set_option maxRecDepth 100000
set_option maxHeartbeats 4000000
namespace SV
open PySem PySem.Spec PyProof.Rows L2
section
variable {X : Cx} {g : Cfg} {c : Tc} {W : WX} {w : SV.W} {x y : Str} {i : Nat} {CX : CXT} {k : Nat} {f : Nat} {σ : L2.St} {H : Hp}
variable {a b d e : Expr} {a' b' d' : Ex} {es rest : List Expr} {es' : Exs} {p q tp pos apos sp_ : Pos} {fr frr : Bool} {ex : Option (Nat × SV.D)}
variable {kx vx tg iter : Expr} {scope : Scope} {own : List Nat} {kx' vx' : Ex} {t : Tg} {it' : SV.It}
end
end SV
set_option linter.all false
set_option Elab.async false
set_option maxRecDepth 100000
set_option maxHeartbeats 4000000
namespace SV
open PySem PySem.Spec PyProof.Rows L2
section
variable {X : Cx} {g : Cfg} {c : Tc} {W : WX} {w : SV.W} {x y : Str} {i : Nat} {CX : CXT} {k v : Expr} {k' v' : Ex} {pos : Pos} {fr : Bool}
end
end SV
set_option linter.all false
set_option Elab.async false
set_option maxRecDepth 100000
set_option maxHeartbeats 4000000
namespace SV
open PySem PySem.Spec PyProof.Rows L2
section
variable {P : Program} {w : World} {A : Around} {E : Value → Shared → Prop} {s : Shared}
end
end SV
set_option linter.all false
set_option Elab.async false
set_option maxRecDepth 100000
set_option maxHeartbeats 4000000
namespace SV
open PySem PySem.Spec PyProof.Rows L2
section
variable {X : Cx} {g : Cfg} {c : Tc} {W : WX} {w : SV.W} {i : Nat} {CX : CXT} {k : Nat} {H : Hp} {ι : Io}
variable {a b d : Expr} {a' b' d' : Ex} {p pos : Pos}
end
end SV
set_option linter.all false
set_option Elab.async false
set_option maxRecDepth 100000
set_option maxHeartbeats 4000000
namespace SV
open PySem PySem.Spec PyProof.Rows L2
section
variable {X : Cx} {g : Cfg} {c : Tc} {W : WX} {w : SV.W} {i : Nat} {CX : CXT} {k : Nat} {a : Expr} {a' : Ex} {p p2 q pos : Pos} {fr : Bool}
end
end SV
set_option linter.all false
set_option Elab.async false
set_option maxRecDepth 100000
set_option maxHeartbeats 4000000
namespace SV
open PySem PySem.Spec PyProof.Rows L2
section
variable {X : Cx} {g : Cfg} {c : Tc} {W : WX} {w : SV.W} {x y : Str} {i : Nat} {CX : CXT} {k : Nat} {fr : Bool} {a : Expr} {es : List Expr} {es' : Exs} {p pos : Pos}
end
end SV
set_option linter.all false
set_option Elab.async false
set_option maxRecDepth 100000
set_option maxHeartbeats 4000000
namespace SV
open PySem PySem.Spec PyProof.Rows L2
section
variable {X : Cx} {g : Cfg} {c : Tc} {W : WX} {w : SV.W} {x y : Str} {i : Nat} {CX : CXT} {k : Nat} {fr : Bool} {a : Expr} {a' : Ex} {p pos apos cpos : Pos} {elts : List Expr} {kk : Nat} {tpos : Pos}
end
end SV
set_option linter.all false
set_option Elab.async false
set_option maxRecDepth 100000
set_option maxHeartbeats 4000000
namespace SV
open PySem PySem.Spec PyProof.Rows L2
/-- a constant that asks that the slot i holds the exception -/
def exE (i : Nat) (d : SV.D) : Ex := .ite (.cmp .Is (.eof (.var i)) (.cst .non)) (.cst d) (.cst d)
def exN : Ex := .eof (.cst .non)
def wE : SV.W := { call := fun _ _ _ => .bad, meth := fun _ _ => none, init := fun _ => none, kcon := fun _ _ => none, clo := fun _ s => .ok (.non, s), fuel := 0 }
/-- isinstance(e, ..) where e is of the class c -/
def exI (c n : Nat) : Ex := exE 1 (.bl (decide (n = c)))
/-- its field, if it has one -/
def exF (i : Option Int) : Ex := match i with | some n => exE 1 (.int n) | none => exN
def exsE : List Ex → Exs
  | [] => .nil
  | a :: r => .cons a (exsE r)
def tx (z : Str) : Ex := .cst (.str z)
def suiteE (c : Nat) (ix wo pl : Option Int) : List Sm := [
  .asg (.name 2) (.lst (exsE [exI c 21, exI c 22, exI c 23])),
  .asg (.name 2) (.bin .Add (.var 2) (.lst (exsE [exI c 24, exI c 25, exI c 26]))),
  .asg (.name 2) (.bin .Add (.var 2) (.lst (exsE [exI c 27, exI c 28, exI c 29]))),
  .asg (.name 2) (.bin .Add (.var 2) (.lst (exsE [exI c 30]))),
  .ifs (.or (.cmp .NotEq (.bmt .count (.var 2) (.cons (.cst (.bl true)) .nil)) (.cst (.int 1))) (.not (exE 1 (.bl true)))) [.ret (.tup (.cons (.cst (.str "other")) (.cons (.cst (.int 0)) .nil)))] [],
  .asg (.name 3) (.lst (exsE [.cst (.str "number"), .cst (.str "chain"), .cst (.str "cell"), .cst (.str "row"), .cst (.str "text"), .cst (.str "many"), .cst (.str "contradiction"), .cst (.str "name"), .cst (.str "unknown"), .cst (.str "operation")])),
  .asg (.name 4) (.sub (.var 3) (.bmt .index (.var 2) (.cons (.cst (.bl true)) .nil))),
  .ifs (.cmp .In (.var 4) (.lst (exsE [.cst (.str "chain"), .cst (.str "row")]))) [.ret (.tup (.cons (.var 4) (.cons (exF ix) .nil)))] [],
  .ret (.tup (.cons (.var 4) (.cons (.ite (.cmp .Eq (.var 4) (.cst (.str "text"))) (exF wo) (.ite (.cmp .Eq (.var 4) (.cst (.str "operation"))) (exF pl) (.cst (.int 0)))) .nil)))]
/-- the store of the suite -/
def sE : S := ⟨[none, some (.clo 0), none, none, none], []⟩
/-- what the suite returns -/
def okE (c : Nat) (ix wo pl : Option Int) (d : SV.D) : Bool := match exSs wE none (suiteE c ix wo pl) sE with
  | .ok (.ret d', s) => D.beq d' d && decide (s.m.length = 0)
  | _ => false
end SV
namespace SV
open PySem PySem.Spec PyProof.Rows L2
theorem exE_ok {i : Nat} {d : SV.D} {s : S} {P : SV.D × S → Prop} {E : Nat → SV.D → S → Prop} (h : OutP (evE wE (exE i d) s) P E) : ∃ k, s.e[i]? = some (some (.clo k)) ∧ P (d, s) := by
  unfold exE at h
  simp only [evE] at h
  cases e : s.e[i]? with
  | none => rw [e] at h; exact h.elim
  | some o =>
    cases o with
    | none => rw [e] at h; exact h.elim
    | some x =>
      rw [e] at h
      cases x with
      | clo k => exact ⟨k, rfl, h⟩
      | _ => exact h.elim
/-- the suite's Cfg: the exception at a is a value -/
def gE (g : Cfg) (a : Addr) : Cfg := { g with ext := fun _ _ _ v => v = .ref a, extLx := fun _ _ _ _ _ _ _ h => h, extCut := fun _ _ _ _ _ h => h }
/-- what the suite may ask of the exception -/
structure ErrX (X : Cx) (g : Cfg) (c : Nat) (ix wo pl : Option Int) (cls : List (Str × Nat)) : Prop where
  isi : ∀ y n, (y, n) ∈ cls → ∀ p px py pos, PE X (.Call (.Name "isinstance" p) [.Name "e" px, .Name y py] [] pos) (tD g W0 false (evE wE (exI c n)))
  ive : ∀ p px py pos, PE X (.Call (.Name "isinstance" p) [.Name "e" px, .Name "ValueError" py] [] pos) (tD g W0 false (evE wE (exE 1 (.bl true))))
  fix : ∀ px pos, PE X (.Attribute (.Name "e" px) "index" pos) (tD g W0 false (evE wE (exF ix)))
  fwo : ∀ px pos, PE X (.Attribute (.Name "e" px) "word" pos) (tD g W0 false (evE wE (exF wo)))
  fpl : ∀ px pos, PE X (.Attribute (.Name "e" px) "place" pos) (tD g W0 false (evE wE (exF pl)))
section
variable {X : Cx} {g : Cfg} {c : Tc} {W : WX} {x y : Str} {i : Nat} {a : Addr} {oe : Obj} {pn : List (Addr × Obj)} {p px py pos : Pos}
theorem exN_no {e : Expr} : PE X e (tD g W false (evE wE exN)) := ⟨fun pins s σ H Q I q => by
  obtain ⟨ι, st, sr, o⟩ := q
  unfold exN at o
  simp only [evE] at o
  exact o.elim⟩
theorem isE_any {D' : Addr} {cv : V} {b : Bool} (C : ExcC X.K D') (hz : Zc (.ref D') none oe) (hf : ∃ vs, oe.data = .fields vs) (G : Gd (X.suite a ((a, oe) :: pn)) (gE g a) c) (hx : slotOf c x = some i) (hi : isGlob c "isinstance" = true) (hm : X.mg "isinstance" = none)
    (hy : PE (X.suite a ((a, oe) :: pn)) (.Name y py) (tC cv)) {cw : Value} (hcv : ∀ u, RelV cv u → u = cw) (hk : PySem.W.kitOne X.K (.ref D') cw = some b) :
    PE (X.suite a ((a, oe) :: pn)) (.Call (.Name "isinstance" p) [.Name x px, .Name y py] [] pos) (tD (gE g a) W false (evE wE (exE i (.bl b)))) := by
  obtain ⟨h1, h2, h3⟩ := slot_ok G hx
  obtain ⟨h4, h5, _⟩ := okN_d h3
  obtain ⟨hg, ho⟩ := glob_ok G hi
  refine PE.imp (pe_callB (call_isE C hz hf) hg hm (by decide +kernel) (pa_cons (pe_var h1 h2 h4 h5) (pa_cons hy pa_nil))) fun σ H Q q => ?_
  obtain ⟨ι, st, sr, o⟩ := q
  obtain ⟨k, hs, o⟩ := exE_ok o
  obtain ⟨v, hv, dv⟩ := sr.1.2 i _ hs
  have dv : v = .ref a := by simpa only [Den, gE] using dv
  subst dv
  exact ⟨.ref a, hv, ⟨cv, cw, b, rfl, hcv, hk, o (.bl b) H ι (Le.refl _ _) sr (by simp only [Den]) (Nw.flat (by intro a; constructor <;> (intro z; cases z)))⟩⟩
/-- a subscript by data alone -/
theorem x_subL {e b : Expr} {a' b' : Ex} (G : Gd X g c) (ha : PE X e (tD g W false (evE wE a'))) (hb : PE X b (tD g W false (evE wE b'))) (hs : ∀ o i, subscripted b false o i = operate [o, i] (getItem o i)) :
    PE X (.Subscript e b pos) (tD g W false (evE wE (.sub a' b'))) := by
  refine ⟨fun pins s σ H Q I q => ?_⟩
  obtain ⟨ι, st, sr, o⟩ := q
  simp only [evE] at o
  refine Subscript_ (runD ha I sr (OutP.bnd o) (fun _ _ _ z => z) fun v vv s1 H1 ι1 x st1 I1 r1 l1 sr1 d1 o1 => ?_)
  refine runD hb I1 sr1 (OutP.bnd o1) (fun _ _ _ z => z.mono l1) fun u uu s2 H2 ι2 y st2 I2 r2 l2 sr2 d2 o2 => ?_
  have q := OutP.on (l1.trans l2) o2
  unfold subF at q
  split at q
  · unfold callM at q
    simp only [wE] at q
    split at q <;> exact q.elim
  · have q := OutP.bnd q
    cases e : subD st2.m x y with
    | bad => rw [e] at q; exact q.elim
    | exc c d t => exact absurd e (subD_calm _ _ _)
    | ok z =>
      rw [e] at q
      have hu := G.un
      exact sub_S (g := g) G.P G.ww G.K (by omega) _ b pins s2 σ H2 v u vv uu Q I2 r1 r2 ⟨ι2, st2.m, x, y, z, sr2.2, d1.le l2, d2, e, fun w H' ι' l r d n => q w H' ι' l ⟨sr2.1.le l, r⟩ d Nw.no⟩ (hs _ _)
end
end SV
set_option linter.all false
set_option Elab.async false
set_option maxRecDepth 100000
set_option maxHeartbeats 4000000
namespace SV
open PySem PySem.Spec PyProof.Rows L2
/-- the exceptions without fields, told by name -/
def enm : Nat → Str
  | 21 => "number" | 23 => "cell" | 26 => "many" | 27 => "contradiction" | 28 => "name" | 29 => "unknown" | _ => "other"
def rE (c : Nat) : Bool := ([21, 23, 26, 27, 28, 29] : List Nat).contains c
theorem errD_E {c : Nat} (h : rE c = true) : errD c .non = .tup [.str (enm c), .int 0] := by
  simp only [rE, List.contains_cons, List.contains_nil, Bool.or_eq_true, beq_iff_eq, Bool.false_eq_true, or_false] at h
  rcases h with rfl | rfl | rfl | rfl | rfl | rfl <;> rfl
theorem okE_all {c : Nat} (h : rE c = true) : okE c none none none (errD c .non) = true := by
  simp only [rE, List.contains_cons, List.contains_nil, Bool.or_eq_true, beq_iff_eq, Bool.false_eq_true, or_false] at h
  rcases h with rfl | rfl | rfl | rfl | rfl | rfl <;> decide +kernel
theorem okE_run {c : Nat} {ix wo pl : Option Int} {d : SV.D} (h : okE c ix wo pl d = true) : ∃ s, exSs wE none (suiteE c ix wo pl) sE = .ok (.ret d, s) ∧ s.m = [] := by
  unfold okE at h
  split at h
  · rename_i d' s e
    simp only [Bool.and_eq_true, decide_eq_true_eq] at h
    exact ⟨s, by rw [e, D.beq_ok _ _ h.1], List.length_eq_zero_iff.mp h.2⟩
  · cases h
theorem Le.grow {H H' : Hp} {ι : Io} (k : ∀ b o, H b = some o → notT o = true → H' b = some o) : Le H ι H' ι :=
  ⟨fun a o h n t => ⟨k a o h t, n⟩, fun a o h t => ⟨o, k a o h t, t⟩, Nat.le_refl _, fun _ _ => .inl rfl, fun a o u h => k _ _ h rfl, nofresh⟩
theorem Rel.grow {g : Cfg} {H H' : Hp} {ι : Io} {m : List MO} (r : Rel g H ι m) (k : ∀ b o, H b = some o → notT o = true → H' b = some o) (t : ∀ p ∈ g.tabs, LamX.TabS H' p.1 p.2) : Rel g H' ι m :=
  ⟨r.len, fun j mo e => by
    rcases r.at_ j mo e with q | ⟨a, q, md⟩
    · exact .inl q
    · refine .inr ⟨a, q, md.le (Le.grow k) fun u hu => k a u hu ?_⟩
      cases z : notT u with
      | true => rfl
      | false =>
        cases u <;> first | (exact absurd hu ((r.ntc q).1 _)) | (cases z), r.inj, t⟩
/-- what is told of a call: nothing, or the exception's name -/
def TTerr (g : Cfg) : (XK → Hp → VK → Prop) → Hp → VK → Prop := fun tl H Q =>
  tl (fun cls dd H' => ∃ c, rE c = true ∧ cls = .ref (g.aC c) ∧ dd = none ∧ (∀ p ∈ g.tabs, LamX.TabS H' p.1 p.2) ∧
    ∀ a H'', (∀ b o, H' b = some o → notT o = true → H'' b = some o) → (∀ p ∈ g.tabs, LamX.TabS H'' p.1 p.2) → H'' a = some (.tup [.str (enm c), .int 0]) → Q (.ref a) H'') H (fun _ H' => Q .non H')
abbrev errN : List Str := ["_law_call", "e", "_law_kinds", "_law_names", "_law_name"]
/-- the context of that def -/
abbrev erX (X : Cx) (x : Str) (sg : Scope) (gA : Addr) (cdg : Value) (s : Shared) (H : Hp) : Cx := (cxOf C8.CX0 X.prog X.w X.K X.mg X.base errN x sg gA cdg X.A X.stack s H C8.E0).nox
theorem PSs.exi {α : Type} {X : Cx} {b : List Stmt} {t : α → TS} {P : α → Prop} {K : L2.St → Prop} (hK : ∀ pins s σ H, Inv X pins σ H s → K σ) (h : ∀ c, P c → PSs X b (t c)) : PSs X b (fun D σ H => K σ → ∃ c, P c ∧ t c D σ H) :=
  ⟨fun pins s σ H D I q => by
    obtain ⟨c, hc, q⟩ := q (hK _ _ _ _ I)
    exact (h c hc).run pins s σ H D I q⟩
theorem err_gives {X : Cx} {g : Cfg} {sg : Scope} {gA CS : Addr} {cdg : Value} {x q : Str} {b₀ : Stmt} {suite : List Stmt} {p1 p2 p3 p4 p5 p6 p8 p9 : Pos} {j : Nat} (hP : g.P = X.prog) (hw : g.w = X.w) (hK : g.K = X.K)
    (hge : sg.names.lookup ("SiftError" : Str) = some .globalImplicit) (hme : X.mg "SiftError" = some (.ref CS)) (hln : sg.names.lookup ("e" : Str) = some .local) (hR : ∀ c, rE c = true → PySem.W.exmOne X.K (.ref (g.aC c)) (.ref CS) = some true)
    (hsu : ∀ (c : Nat), rE c = true → ∀ (s : Shared) (H : Hp) (a : Addr) (oe : Obj) (pn : List (Addr × Obj)), Zc (.ref (g.aC c)) none oe → (∃ vs, oe.data = .fields vs) →
      PSs ((erX X x sg gA cdg s H).suite a ((a, oe) :: pn)) (b₀ :: suite) (tS (gE g a) W0 false (exSs wE none (suiteE c none none none)))) :
    LamX.GivesTo X errN x sg gA cdg [.Try [.Expr (.Call (.Name "_law_call" p1) [] [] p2) p3] [.ExceptHandler (some (.Name "SiftError" p4)) (some "e") (b₀ :: suite) p5] [] [] p6, .Return (some (.Constant .none j p8)) p9] "_law_call" q (TTerr g) := by
  intro f c' s H Q tl act hc h
  have hgl : Gl (erX X x sg gA cdg s H) "SiftError" := hge
  have hi : (erX X x sg gA cdg s H).N[1]? = some ("e" : Str) := rfl
  refine ⟨_, pss_cons (ps_try_as (X := erX X x sg gA cdg s H) (c := .ref CS) (i := 1)
      (tb := fun W D σ H => ∃ Ech : XK, (∀ cls d σ' H', Ech cls d H' → W cls d σ' H') ∧ σ[0]? = some (some (.ref f)) ∧ H c' = some (LamX.CodeO c' q) ∧ tl Ech H (fun _ H' => D.nx σ H'))
      (ts := fun a cls d D σ H => σ.length = 5 → ∃ c, (rE c = true ∧ cls = .ref (g.aC c) ∧ d = none) ∧ tS (gE g a) W0 false (exSs wE none (suiteE c none none none)) D σ H)
      rfl rfl (show errN.Nodup by decide +kernel) hi hln ⟨hgl, by decide +kernel, .inl hme⟩ LamX.takes0 (fun W pn xe tk _ => ?_) (fun a oe cls d pn hz hf => ?_)) (pss_one (ps_ret pe_non)), ?_⟩
  · refine ⟨fun pins s' σ H' D I h' => ?_⟩
    obtain ⟨Ech, hW, h1, h2, h3⟩ := h'
    have hp := act W pn xe Ech p1 p2 tk hW
    have hq := pss_one (ps_expr (pos := p3) hp)
    exact hq.run pins s' σ H' D I ⟨h1, h2, h3⟩
  · refine PSs.exi (K := fun σ => σ.length = 5) (fun _ _ _ _ I => I.len) fun c hc => ?_
    obtain ⟨h1, rfl, rfl⟩ := hc
    exact hsu c h1 s H a oe pn hz hf
  · refine ⟨_, fun cls d σ' H' hE => ?_, rfl, hc, h⟩
    obtain ⟨c, h1, rfl, rfl, h2, h3⟩ := hE
    refine ⟨true, hR c h1, fun _ a na => fun hl => ⟨c, ⟨h1, rfl, rfl⟩, [], sE, ⟨⟨by rw [hl]; rfl, fun i d e => ?_⟩, ⟨rfl, fun k mo e => by simp [sE] at e, fun j k a e => by simp at e, h2⟩⟩, ?_⟩, fun z => nomatch z⟩
    · have hl' : σ'.length = 5 := by simpa using hl
      match i, e with
      | 0, e => simp [sE] at e
      | 1, e =>
        simp [sE] at e
        subst e
        exact ⟨.ref a, by simp [hl'], by simp only [Den, gE]⟩
      | 2, e => simp [sE] at e
      | 3, e => simp [sE] at e
      | 4, e => simp [sE] at e
      | i + 5, e => simp [sE] at e
    · obtain ⟨s2, hr, hm⟩ := okE_run (okE_all h1)
      rw [hr]
      intro v σ2 H2 ι2 l sr d _
      have hι : ι2 = [] := by
        have := sr.2.len
        rw [hm] at this
        exact List.length_eq_zero_iff.mp this
      subst hι
      rw [errD_E h1] at d
      simp only [Den, DenL] at d
      obtain ⟨t, vs, rfl, ⟨ha, _⟩, v1, t1, rfl, rfl, v2, t2, rfl, rfl, rfl⟩ := d
      exact h3 t H2 (fun b o hb t => (l.keep b o hb (by simp) t).1) sr.2.tab ha
end SV
set_option linter.all false
set_option Elab.async false
set_option maxRecDepth 100000
set_option maxHeartbeats 4000000
namespace SV
open PySem PySem.Spec PyProof.Rows L2
/-- what is known of the def that tells what a call raises -/
structure ErrD (X : Cx) (g : Cfg) (gA : Addr) (pg : Arguments) (bg : List Stmt) (sg : Scope) : Prop where
  ex : ∃ (oc : Value) (od : Option Addr) (kV doc pm : Value) (an : Option Addr) (cdv ct : Value) (osl : Array (Option Value)),
    X.K.lookup gA = some ⟨oc, od, .func (PySem.W.fnOf "_law_error_of" "_law_error_of" pg bg sg .none kV doc pm an cdv ct), osl⟩ ∧ PySem.W.codeIn X.K cdv "_law_error_of" = true ∧
      Binds X.K (PySem.W.fnOf "_law_error_of" "_law_error_of" pg bg sg .none kV doc pm an cdv ct) ["_law_call"] [] ∧ ∀ q, LamX.GivesTo X errN "_law_error_of" sg gA cdv bg "_law_call" q (TTerr g)
  mg : X.mg "_law_error_of" = some (.ref gA)
  kp : PySem.W.keepIn X.K (.ref gA) = true
  sc : FnScope errN ["_law_call"] sg
  va : Vis sg "_law_call"
/-- the bodies of lambdas: what SV makes of them is run within a lambda's frame -/
def LamOk (X : Cx) (g : Cfg) (w : SV.W) (lam : Nat → Option Ex) : Prop := ∃ (w' : SV.W) (CX' : CXT) (k' kl : Nat), Room (kl + 2) X.A ∧ (∀ kk e', lam kk = some e' → ∀ s, w.clo kk s = evE w' e' s) ∧
  ∀ (A : Around) (outer : List Env) (s : Shared) (H : Hp) (E : XK) (scope : Scope) (f c' : Addr), Room kl (A.deeper (LamX.lamEnv X scope s.heap.objs.size f c')) → Fx (LamX.lamCx X A outer s H E scope f c') g (WE E) w' CX' k'
/-- where the law's lambdas' code stands -/
structure LamB (X : Cx) (g : Cfg) (cA P : Addr) : Prop where
  TB : LamX.TabB X.base X.mg cA P
  code : X.env.code = .ref cA
  tabs : g.tabs = [(P, X.env.qual ++ "<lambda>")]
  xp : g.xp = true
section
variable {X : Cx} {g : Cfg} {c : Tc} {W : WX} {w : SV.W} {CX : CXT} {k : Nat}
theorem gd_lam (G : Gd X g c) {A : Around} {outer : List Env} {s : Shared} {H : Hp} {E : XK} {scope : Scope} {f c' : Addr} {kl : Nat} (r : Room kl (A.deeper (LamX.lamEnv X scope s.heap.objs.size f c'))) :
    Gd (LamX.lamCx X A outer s H E scope f c') g { c with sc := scope } where
  P := G.P
  ww := G.ww
  K := G.K
  N := G.N
  nd := G.nd
  sc := rfl
  un := by
    have := r.un
    show (A.deeper (LamX.lamEnv X scope s.heap.objs.size f c')).units + 66 < cLine
    omega
/-- _law_error_of(lambda: ..) -/
theorem ev_eof {kk : Nat} {body : Expr} {body' : Ex} {params : Arguments} {scope : Scope} {pg : Arguments} {bg : List Stmt} {sg : Scope} {gA cA P : Addr} {lam : Nat → Option Ex} {p lpos pos : Pos}
    (G : Gd X g c) (hx : isGlob c "_law_error_of" = true) (E : ErrD X g gA pg bg sg) (B : LamB X g cA P) (Lm : LamOk X g w lam) (hk : lam kk = some body') (hL : LamX.lamSB c.sc scope = true)
    (hdef : defaultsOf params X.env = ([], [])) (hbind : ∀ (q : Str) (cl : List (Str × Addr)) (pm cv ctv : Value), bindArgs (PySem.W.kla_fn "<lambda>" q params body scope cl pm cv ctv) ⟨[], []⟩ = pure [])
    (hbody : ∀ (Xl : Cx) (Wl : WX) (w' : SV.W) (CX' : CXT) (k' : Nat), Gd Xl g { c with sc := scope } → Fx Xl g Wl w' CX' k' → PE Xl body (tD g Wl false (evE w' body'))) :
    PE X (.Call (.Name "_law_error_of" p) [.Lambda params body scope lpos] [] pos) (tD g W false (evE w (.eof (.lam kk)))) := by
  obtain ⟨oc, od, kV, doc, pm, an, cdv, ct, osl, lk, hcd, hb, hG⟩ := E.ex
  obtain ⟨w', CX', k', kl, hr, hclo, hfx⟩ := Lm
  obtain ⟨hg, ho⟩ := glob_ok G hx
  have hLS : LamX.LamS X.env.scope scope := by rw [G.sc]; exact LamX.lamS_by hL
  refine PE.imp (LamX.pe_lamcall (T := g.tabs) (TT := TTerr g) (P := P) (c := cA) (k := kl) (Ng := errN) (a := "_law_call") (t := fun E => tD g (WE E) false (evE w' body')) hg E.mg E.kp lk hcd hb E.sc rfl E.va (hG _) B.TB B.code
    (by rw [B.tabs]; exact List.mem_singleton.mpr rfl) (fun p hp _ => by rw [B.tabs] at hp; rw [List.mem_singleton.mp hp]) hr hLS hdef hbind
    (fun A outer s H E f c' hr2 => hbody _ _ w' CX' k' (gd_lam G hr2) (hfx A outer s H E scope f c' hr2)) (okN_d ho).1 (by decide +kernel) (by decide +kernel)) fun σ H Q q => ?_
  obtain ⟨ι, st, sr, o⟩ := q
  simp only [evE] at o
  refine ⟨sr.2.tab, fun H1 hx hT => ?_⟩
  have hx' : ∀ b o, H b = some o → notT o = true → H1 b = some o := fun b o h t => hx b o h fun ps z => by subst z; cases t
  have l1 : Le H ι H1 ι := Le.grow hx'
  have sr1 : SR g H1 ι σ st := ⟨sr.1.le l1, sr.2.grow hx' hT⟩
  have o : OutP (errO w (.clo kk) st) _ _ := o
  unfold errO at o
  dsimp only at o
  rw [hclo kk body' hk st] at o
  refine ⟨ι, st, sr1, ?_⟩
  cases e : evE w' body' st with
  | bad => rw [e] at o; exact o.elim
  | ok p =>
    rw [e] at o
    intro v H' ι' l sr' _ _
    exact o .non H' ι' (l1.trans l) sr' (by simp only [Den]) (Nw.flat (by intro a; constructor <;> (intro z; cases z)))
  | exc cc d s' =>
    rw [e] at o
    dsimp only at o
    cases hg : errG cc d with
    | false => rw [hg] at o; exact o.elim
    | true =>
      rw [hg] at o
      have hg2 := hg
      unfold errG at hg2
      simp only [Bool.and_eq_true, decide_eq_true_eq] at hg2
      obtain ⟨hR, rfl⟩ := hg2
      have hR : rE cc = true := hR
      refine ⟨B.xp, fun cls dd σ' H' ι' l sr' ed => ?_⟩
      obtain ⟨rfl, ed⟩ := ed
      have hdd : dd = none := by
        rcases ed with ⟨h, _⟩ | ⟨a, f, v, _, _, _, hc⟩
        · exact h
        · exfalso
          rcases hc with ⟨rfl, _⟩ | ⟨rfl, _⟩ | ⟨rfl, _⟩ | ⟨rfl, _⟩ <;> exact absurd hR (by decide)
      refine ⟨cc, hR, rfl, hdd, sr'.2.tab, fun a H'' kp tb ha => ?_⟩
      have l2 : Le H' ι' H'' ι' := Le.grow kp
      have r2 : Rel g H'' ι' s'.m := sr'.2.grow kp tb
      have na : some a ∉ ι' := fun z => by
        obtain ⟨j, hj⟩ := List.getElem?_of_mem z
        have hjm : j < s'.m.length := by rw [← sr'.2.len]; exact (List.getElem?_eq_some_iff.mp hj).1
        rcases r2.at_ j s'.m[j] (List.getElem?_eq_getElem hjm) with ⟨_, y⟩ | ⟨b, y, md⟩
        · rw [hj] at y; cases y
        · rw [hj] at y
          cases y
          cases hmo : s'.m[j] with
          | lst xs => rw [hmo] at md; obtain ⟨vs, q, _⟩ := md; rw [ha] at q; cases q
          | dct es =>
            rw [hmo] at md
            rcases md with ⟨kvs, q, _⟩ | ⟨xs, q, _⟩
            · rw [ha] at q; cases q
            · rw [ha] at q; unfold GDo at q; cases q
          | obj c fs => rw [hmo] at md; obtain ⟨dx, fs', q, _⟩ := md; rw [ha] at q; cases q
          | dead => rw [hmo] at md; exact md.elim
          | lkl xs => rw [hmo] at md; obtain ⟨oo, vs, q, _⟩ := md; rw [ha] at q; cases q
          | lkd es =>
            rw [hmo] at md
            rcases md with ⟨oo, kvs, q, _⟩ | ⟨oo, xs, q, _⟩ <;> (rw [ha] at q; cases q)
      have o : ∀ v H' ι', _ := o
      refine o (.ref a) H'' ι' (l1.trans (l.trans l2)) ⟨sr.1.le (l1.trans (l.trans l2)), r2⟩ ?_ (Nw.flat ?_)
      · rw [errD_E hR]
        simp only [Den, DenL]
        exact ⟨a, _, rfl, ⟨ha, na⟩, _, _, rfl, rfl, _, _, rfl, rfl, rfl⟩
      · rw [errD_E hR]
        intro a
        constructor <;> (intro z; cases z)
end
/-- the lambda's frame knows the text -/
theorem fx_lam {P : Program} {wd : World} {K : PySem.W.Frag} {mg : Str → Option Value} {base : Heap} {g : Cfg} {p : Pg} {w : SV.W} {k : Nat} {N : List Str} {q : Str} {sc : Scope} {f : Addr} {cd : Value} {A : Around} {outer : List Env} {s : Shared} {H : Hp} {E : XK}
    {A' : Around} {outer' : List Env} {s' : Shared} {H' : Hp} {E' : XK} {scope : Scope} {f' c' : Addr}
    (tx : Tx K mg g p.meth p.init p.kcon) (hm : w.meth = p.meth) (hi : w.init = p.init) (hk : w.kcon = p.kcon) (fn : AllK P wd K mg base g k w.call)
    (room : Room (k + 2) (A'.deeper (LamX.lamEnv (cxOf (L2.CX P wd) P wd K mg base N q sc f cd A outer s H E) scope s'.heap.objs.size f' c'))) :
    Fx (LamX.lamCx (cxOf (L2.CX P wd) P wd K mg base N q sc f cd A outer s H E) A' outer' s' H' E' scope f' c') g (WE E') w (L2.CX P wd) k where
  room := room
  px := px_of (takes_of rfl rfl rfl rfl)
  calm := rfl
  tk := takes_of rfl rfl rfl rfl
  exn := tx.exn
  exi := fun x cl h => ⟨(tx.exi x cl h).1, (tx.exi x cl h).2 _ _ _ _⟩
  sbT := hm ▸ tx.sbT
  pxF := cx_no
  cls := tx.cls
  fld := tx.fld
  kcon := hk ▸ tx.kcon
  fn := fn
  gfn := tx.gfn
  gcl := hi ▸ tx.gcl
  mono := cx_mono
  own := passes_of rfl
  mth := hm ▸ tx.mth
  ins := tx.ins
  isi := fun t ht => ⟨(tx.isi t ht).mg, (tx.isi t ht).kb, (tx.isi t ht).ko⟩
  cI := tx.cI
  cS := tx.cS
  cv := tx.cv
  blt := tx.blt
  cm := tx.cm
  sb := hm ▸ tx.sb
  nq := hm ▸ tx.nq
/-- .. at the law's level -/
theorem lam_ok {P : Program} {wd : World} {K : PySem.W.Frag} {mg : Str → Option Value} {base : Heap} {g : Cfg} {p : Pg} {N : List Str} {q : Str} {sc : Scope} {f : Addr} {cd : Value} {A : Around} {outer : List Env} {s : Shared} {H : Hp} {E : XK} {n : Nat}
    (tx : Tx K mg g p.meth p.init p.kcon) (h : StepOk P wd K mg base g p) (room : Room (3 * (n + 1) + 2) (A.deeper (envOfC q sc s.heap.objs.size f cd))) :
    LamOk (cxOf (L2.CX P wd) P wd K mg base N q sc f cd A outer s H E) g (wAt p (callF p (n + 1)).1 (callF p (n + 1)).2) p.lam := by
  refine ⟨wAt p (callF p n).1 (callF p n).2, L2.CX P wd, 3 * n, 3 * (n + 1), room, fun kk e' hk s => ?_, fun A' outer' s' H' E' scope f' c' hr => fx_lam tx rfl rfl rfl (knot h n) (hr.mono (by omega))⟩
  show (match p.lam kk with | some e => evE _ e s | none => .bad) = _
  rw [hk]
end SV
set_option linter.all false
set_option Elab.async false
set_option maxRecDepth 100000
set_option maxHeartbeats 4000000
namespace SV
open PySem PySem.Spec PyProof.Rows L2
/-- the names of the exceptions' classes -/
def lErr : List (Str × Nat) := [("InvalidNumber", 21), ("InvalidChain", 22), ("UnknownCell", 23), ("InvalidRow", 24), ("InvalidText", 25), ("TooMany", 26), ("Contradiction", 27), ("InvalidName", 28), ("UnknownName", 29), ("InvalidOperation", 30)]
theorem rE_cases {c : Nat} (h : rE c = true) : c = 21 ∨ c = 23 ∨ c = 26 ∨ c = 27 ∨ c = 28 ∨ c = 29 := by
  simpa only [rE, List.contains_cons, List.contains_nil, Bool.or_eq_true, beq_iff_eq, Bool.false_eq_true, or_false] using h
theorem errs_glob {c : Tc} (h : (lErr.all fun p => isGlob c p.1) = true) : ∀ y m, (y, m) ∈ lErr → isGlob c y = true := fun y m hm => List.all_eq_true.mp h (y, m) hm
theorem code_eq {K : PySem.W.Frag} {fa : Addr} {oc oc' : Value} {od od' : Option Addr} {a b : Str} {pg : Arguments} {bd : List Stmt} {sg : Scope} {kV doc pm cdv ct kV' doc' pm' cdv' ct' dV : Value} {an an' : Option Addr} {osl osl' : Array (Option Value)}
    (h1 : K.lookup fa = some ⟨oc, od, .func (PySem.W.fnOf a b pg bd sg dV kV doc pm an cdv ct), osl⟩) (h2 : K.lookup fa = some ⟨oc', od', .func (PySem.W.fnOf a b pg bd sg dV kV' doc' pm' an' cdv' ct'), osl'⟩) : cdv = cdv' := by
  rw [h1] at h2
  have e := congrArg (fun o => match o with | some (Obj.mk _ _ (.func fd) _) => fd.code | _ => Value.none) h2
  exact e
/-- the suite of the def's one except -/
def suiteOf : List Stmt → List Stmt
  | .Try _ [.ExceptHandler _ _ b _] _ _ _ :: _ => b
  | _ => []
/-- what is known of the exceptions' classes -/
structure ErrK (K : PySem.W.Frag) (mg : Str → Option Value) (g : Cfg) (CS : Addr) : Prop where
  exc : ∀ c, rE c = true → ExcC K (g.aC c)
  nm : ∀ y n, (y, n) ∈ lErr → mg y = some (.ref (g.aC n))
  kit : ∀ c, rE c = true → ∀ y n, (y, n) ∈ lErr → PySem.W.kitOne K (.ref (g.aC c)) (.ref (g.aC n)) = some (decide (n = c))
  ve : ∀ c, rE c = true → PySem.W.kitOne K (.ref (g.aC c)) (.type "ValueError") = some true
  mgV : mg "ValueError" = none
  sift : mg "SiftError" = some (.ref CS)
  exm : ∀ c, rE c = true → PySem.W.exmOne K (.ref (g.aC c)) (.ref CS) = some true
section
variable {X : Cx} {g : Cfg} {c : Tc} {W : WX} {w : SV.W} {CX : CXT} {k : Nat}
theorem errX_mk {n : Nat} {a CS : Addr} {oe : Obj} {pn : List (Addr × Obj)} (E : ErrK X.K X.mg g CS) (hn : rE n = true) (hz : Zc (.ref (g.aC n)) none oe) (hf : ∃ vs, oe.data = .fields vs) (G : Gd (X.suite a ((a, oe) :: pn)) (gE g a) c)
    (hx : slotOf c "e" = some 1) (hi : isGlob c "isinstance" = true) (hm : X.mg "isinstance" = none) (hy : ∀ y m, (y, m) ∈ lErr → isGlob c y = true) (hV : isGlob c "ValueError" = true) : ErrX (X.suite a ((a, oe) :: pn)) (gE g a) n none none none lErr where
  isi := fun y m hym p px py pos => by
    obtain ⟨hg, ho⟩ := glob_ok G (hy y m hym)
    exact isE_any (cv := .ref (g.aC m)) (cw := .ref (g.aC m)) (E.exc n hn) hz hf G hx hi hm (pe_glob (v := .ref (g.aC m)) hg (E.nm y m hym) rfl (okN_d ho).1) (fun u r => r) (E.kit n hn y m hym)
  ive := fun p px py pos => by
    obtain ⟨hg, ho⟩ := glob_ok G hV
    exact isE_any (cv := .ty "ValueError") (cw := .type "ValueError") (E.exc n hn) hz hf G hx hi hm (pe_bltn (v := .ty "ValueError") hg E.mgV (by decide +kernel : bootBuiltins "ValueError" = some (.type "ValueError")) rfl (okN_d ho).2.2 (okN_d ho).1) (fun u r => r) (E.ve n hn)
  fix := fun _ _ => exN_no
  fwo := fun _ _ => exN_no
  fpl := fun _ _ => exN_no
theorem errD_mk {pg : Arguments} {sg : Scope} {gA CS : Addr} {b₀ : Stmt} {suite : List Stmt} {p1 p2 p3 p4 p5 p6 p8 p9 : Pos} {j : Nat} (G : Gd X g c) (T : Fx X g W w CX k) (E : ErrK X.K X.mg g CS)
    (F : ∃ (oc : Value) (od : Option Addr) (kV doc pm : Value) (an : Option Addr) (cdv ct : Value) (osl : Array (Option Value)),
      X.K.lookup gA = some ⟨oc, od, .func (PySem.W.fnOf "_law_error_of" "_law_error_of" pg [.Try [.Expr (.Call (.Name "_law_call" p1) [] [] p2) p3] [.ExceptHandler (some (.Name "SiftError" p4)) (some "e") (b₀ :: suite) p5] [] [] p6, .Return (some (.Constant .none j p8)) p9] sg .none kV doc pm an cdv ct), osl⟩ ∧ PySem.W.codeIn X.K cdv "_law_error_of" = true)
    (hb : ∀ (kV doc pm : Value) (an : Option Addr) (cdv ct : Value) (us : List Value), us.length = 1 → bindArgs (PySem.W.fnOf "_law_error_of" "_law_error_of" pg [.Try [.Expr (.Call (.Name "_law_call" p1) [] [] p2) p3] [.ExceptHandler (some (.Name "SiftError" p4)) (some "e") (b₀ :: suite) p5] [] [] p6, .Return (some (.Constant .none j p8)) p9] sg .none kV doc pm an cdv ct) ⟨us, []⟩ = pure ([("_law_call" : Str)].zip us))
    (mg : X.mg "_law_error_of" = some (.ref gA)) (kp : PySem.W.keepIn X.K (.ref gA) = true) (sc : FnScope errN ["_law_call"] sg) (hS : isGlob ⟨errN, sg, [], [], 0, false⟩ "SiftError" = true) (hx : slotOf ⟨errN, sg, [], [], 0, false⟩ "e" = some 1) (hle : sg.names.lookup ("e" : Str) = some .local)
    (hl0 : sg.names.lookup ("_law_call" : Str) = some .local) (hi : isGlob ⟨errN, sg, [], [], 0, false⟩ "isinstance" = true) (hy : ∀ y m, (y, m) ∈ lErr → isGlob ⟨errN, sg, [], [], 0, false⟩ y = true) (hV : isGlob ⟨errN, sg, [], [], 0, false⟩ "ValueError" = true)
    (hB : ∀ (Xs : Cx) (gs : Cfg) (n : Nat), Gd Xs gs ⟨errN, sg, [], [], 0, false⟩ → (∀ x, Xs.fn x = true) → ErrX Xs gs n none none none lErr → PSs Xs (b₀ :: suite) (tS gs W0 false (exSs wE none (suiteE n none none none)))) :
    ErrD X g gA pg [.Try [.Expr (.Call (.Name "_law_call" p1) [] [] p2) p3] [.ExceptHandler (some (.Name "SiftError" p4)) (some "e") (b₀ :: suite) p5] [] [] p6, .Return (some (.Constant .none j p8)) p9] sg where
  ex := by
    obtain ⟨oc, od, kV, doc, pm, an, cdv, ct, osl, lk, hcd⟩ := F
    refine ⟨oc, od, kV, doc, pm, an, cdv, ct, osl, lk, hcd, Binds.all (hb _ _ _ _ _ _), fun q => ?_⟩
    have hS2 := hS
    simp only [isGlob, Bool.and_eq_true, beq_iff_eq] at hS2
    refine err_gives G.P G.ww G.K hS2.2 E.sift hle E.exm fun n hn s H a oe pn hz hf => ?_
    have GS : Gd ((erX X "_law_error_of" sg gA cdv s H).suite a ((a, oe) :: pn)) (gE g a) ⟨errN, sg, [], [], 0, false⟩ :=
      { P := G.P, ww := G.ww, K := G.K, N := rfl, nd := (show errN.Nodup by decide +kernel), sc := rfl, un := by
          have r := (T.room.mono (show 0 + 1 ≤ k + 2 by omega)).deeper (envOfC "_law_error_of" sg s.heap.objs.size gA cdv)
          have := r.un
          show (X.A.deeper (envOfC "_law_error_of" sg s.heap.objs.size gA cdv)).units + 66 < cLine
          omega }
    exact hB _ _ n GS (fun _ => rfl) (errX_mk (X := erX X "_law_error_of" sg gA cdv s H) E hn hz hf GS hx hi (T.blt _ (by decide +kernel)) hy hV)
  mg := mg
  kp := kp
  sc := sc
  va := .inl hl0
end
end SV
set_option linter.all false
set_option Elab.async false
set_option maxRecDepth 100000
set_option maxHeartbeats 4000000
namespace SV
open PySem PySem.Spec PyProof.Rows L2
section
variable {X : Cx} {x : Str} {CS : Addr} {mc : Value} {e : Expr} {es : List Expr} {ta : TA} {p1 p2 pos : Pos}
end
end SV
set_option linter.all false
set_option Elab.async false
set_option maxHeartbeats 4000000
namespace SV
open PySem
/-- what is wanted of an outcome -/
def OP {α : Type} (o : Out α) (P : α → Prop) : Prop := ∃ a, o = .ok a ∧ P a
section
variable {α β : Type} {P Q : α → Prop}
theorem OP.mono {o : Out α} (h : OP o P) (k : ∀ a, P a → Q a) : OP o Q := let ⟨a, e, h⟩ := h; ⟨a, e, k a h⟩
theorem OP_ok {a : α} : OP (.ok a) P ↔ P a := ⟨fun ⟨b, e, h⟩ => by cases e; exact h, fun h => ⟨a, rfl, h⟩⟩
theorem OP_bad : OP (.bad : Out α) P ↔ False := ⟨fun ⟨_, e, _⟩ => (by cases e), False.elim⟩
theorem OP_exc {c : Nat} {d : D} {s : S} : OP (.exc c d s : Out α) P ↔ False := ⟨fun ⟨_, e, _⟩ => (by cases e), False.elim⟩
theorem OP_bind {o : Out α} {f : α → Out β} {R : β → Prop} : OP (o >>= f) R ↔ OP o (fun a => OP (f a) R) := by
  cases o with
  | ok a => exact (OP_ok (P := fun a => OP (f a) R)).symm
  | exc c d s => exact ⟨fun ⟨_, e, _⟩ => (by cases e), fun ⟨_, e, _⟩ => (by cases e)⟩
  | bad => exact ⟨fun ⟨_, e, _⟩ => (by cases e), fun ⟨_, e, _⟩ => (by cases e)⟩
theorem OP_gd {b : Bool} {R : Unit → Prop} : OP (gd b) R ↔ b = true ∧ R () := by
  cases b with
  | true => exact (OP_ok (a := ())).trans ⟨fun h => ⟨rfl, h⟩, fun h => h.2⟩
  | false => exact (OP_bad).trans ⟨False.elim, fun h => (by cases h.1)⟩
theorem OP_opt {o : Option α} : OP (opt o) P ↔ ∃ a, o = some a ∧ P a := by
  cases o with
  | none => exact (OP_bad).trans ⟨False.elim, fun ⟨_, e, _⟩ => (by cases e)⟩
  | some a => exact (OP_ok).trans ⟨fun h => ⟨a, rfl, h⟩, fun ⟨b, e, h⟩ => by cases e; exact h⟩
theorem OP_some {a : α} : OP (opt (some a)) P ↔ P a := OP_ok
theorem OP_bl {b : Bool} {R : Bool → Prop} : OP (asBool (.bl b)) R ↔ R b := OP_ok
theorem OP_inS {s : S} {o : Out (α × List MO)} {R : α × S → Prop} : OP (inS s o) R ↔ OP o (fun p => R (p.1, ⟨s.e, p.2⟩)) := by
  cases o with
  | ok p => exact (OP_ok).trans (OP_ok (a := p) (P := fun (p : α × List MO) => R (p.1, ⟨s.e, p.2⟩))).symm
  | exc c d s => exact ⟨fun ⟨_, e, _⟩ => (by cases e), fun ⟨_, e, _⟩ => (by cases e)⟩
  | bad => exact ⟨fun ⟨_, e, _⟩ => (by cases e), fun ⟨_, e, _⟩ => (by cases e)⟩
theorem OP_noX {o : Out α} : OP (noX o) P ↔ OP o P := by
  cases o with
  | ok p => exact Iff.rfl
  | exc c d s => exact (OP_bad).trans (OP_exc).symm
  | bad => exact Iff.rfl
end
section
variable {w : W} {x : Option (Nat × D)} {a : Sm} {r : List Sm} {s : S} {P : Ctl × S → Prop}
theorem OP_nil : OP (exSs w x [] s) P ↔ P (.nx, s) := by simp only [exSs]; exact OP_ok
theorem OP_cons : OP (exSs w x (a :: r) s) P ↔ OP (exS w x a s) (fun p => match p.1 with | .nx => OP (exSs w x r p.2) P | c => P (c, p.2)) := by
  simp only [exSs]
  cases e : exS w x a s with
  | ok p =>
    obtain ⟨c, s'⟩ := p
    rw [OP_ok]
    cases c with
    | nx => exact Iff.rfl
    | brk => exact OP_ok
    | cnt => exact OP_ok
    | ret d => exact OP_ok
  | exc c d t => exact ⟨fun ⟨_, e, _⟩ => (by cases e), fun ⟨_, e, _⟩ => (by cases e)⟩
  | bad => exact ⟨fun ⟨_, e, _⟩ => (by cases e), fun ⟨_, e, _⟩ => (by cases e)⟩
/-- a for by an invariant over what is left -/
theorem OP_for {f : D → S → Out (Ctl × S)} (I : Nat → S → Prop) {xs : List D} (h0 : I 0 s) (hd : ∀ t, I xs.length t → P (.nx, t))
    (hs : ∀ i d t, xs[i]? = some d → I i t → OP (f d t) (fun p => match p.1 with | .nx => I (i + 1) p.2 | .cnt => I (i + 1) p.2 | .brk => P (.nx, p.2) | .ret d => P (.ret d, p.2))) : OP (forL f xs s) P := by
  have key : ∀ n i t, xs.length - i = n → i ≤ xs.length → I i t → OP (forL f (xs.drop i) t) P := by
    intro n
    induction n with
    | zero =>
      intro i t hn hi hI
      have : i = xs.length := by omega
      subst this
      rw [List.drop_length]
      exact ⟨_, rfl, hd t hI⟩
    | succ n ih =>
      intro i t hn hi hI
      have hlt : i < xs.length := by omega
      rw [List.drop_eq_getElem_cons hlt]
      obtain ⟨p, e, hp⟩ := hs i xs[i] t (List.getElem?_eq_getElem hlt) hI
      obtain ⟨c, t'⟩ := p
      unfold forL
      rw [e]
      cases c with
      | nx => exact ih (i + 1) t' (by omega) hlt hp
      | cnt => exact ih (i + 1) t' (by omega) hlt hp
      | brk => exact ⟨_, rfl, hp⟩
      | ret d => exact ⟨_, rfl, hp⟩
  have := key _ 0 s rfl (Nat.zero_le _) h0
  simpa using this
theorem OP_lcL {f : D → S → Out S} {R : S → Prop} (I : Nat → S → Prop) {xs : List D} (h0 : I 0 s) (hd : ∀ t, I xs.length t → R t)
    (hs : ∀ i d t, xs[i]? = some d → I i t → OP (f d t) (I (i + 1))) : OP (lcL f xs s) R := by
  have key : ∀ n i t, xs.length - i = n → i ≤ xs.length → I i t → OP (lcL f (xs.drop i) t) R := by
    intro n
    induction n with
    | zero =>
      intro i t hn hi hI
      have : i = xs.length := by omega
      subst this
      rw [List.drop_length]
      exact ⟨_, rfl, hd t hI⟩
    | succ n ih =>
      intro i t hn hi hI
      have hlt : i < xs.length := by omega
      rw [List.drop_eq_getElem_cons hlt]
      obtain ⟨t', e, hp⟩ := hs i xs[i] t (List.getElem?_eq_getElem hlt) hI
      unfold lcL
      rw [e]
      exact ih (i + 1) t' (by omega) hlt hp
  have := key _ 0 s rfl (Nat.zero_le _) h0
  simpa using this
end
/-- the n-th world -/
abbrev wN (p : Pg) (n : Nat) : W := wAt p (callF p n).1 (callF p n).2
theorem call_succ {p : Pg} {n i : Nat} {f : Fn} (h : p.fn i = some f) (xs : List D) (m : List MO) : (callF p (n + 1)).1 i xs m = runF (wN p n) f xs m := by
  show (match p.fn i with | some f => runF _ f xs m | none => .bad) = _
  rw [h]
theorem exOk_refl (n : Nat) : ∀ m : List MO, exOk n m m = true
  | [] => rfl
  | a :: r => by simp [exOk, exOk_refl n r]
theorem exOk_app (n : Nat) : ∀ (m t : List MO), exOk n m (m ++ t) = true
  | [], t => rfl
  | a :: r, t => by
    show exOk n (a :: r) (a :: (r ++ t)) = true
    simp [exOk, exOk_app n r t]
theorem exOk_set {n k : Nat} {o : MO} (h : cloM n o = true) : ∀ (m t : List MO), exOk n m (m.set k o ++ t) = true
  | [], t => rfl
  | a :: r, t => by
    cases k with
    | zero => show exOk n (a :: r) (o :: (r ++ t)) = true; simp [exOk, exOk_app n r t, h]
    | succ k => show exOk n (a :: r) (a :: (r.set k o ++ t)) = true; simp [exOk, exOk_set (k := k) h r t]
/-- what is wanted behind a def that keeps nothing of its own -/
def LeaveP (m : List MO) (P : D × List MO → Prop) (p : Ctl × S) : Prop := match p.1 with
  | .ret d => exOk m.length m p.2.m = true ∧ cloD m.length d = true ∧ P (d, p.2.m.take m.length)
  | .nx => exOk m.length m p.2.m = true ∧ P (.non, p.2.m.take m.length)
  | _ => False
theorem run_leave {w : W} {f : Fn} {xs ys : List D} {m : List MO} {P : D × List MO → Prop} (e0 : List (Option D)) (ha : argsOf f xs = some ys) (hk : f.keep = false) (he : ys.map some ++ List.replicate (f.ns - ys.length) none = e0)
    (h : OP (exSs w none f.body ⟨e0, m⟩) (LeaveP m P)) : OP (runF w f xs m) P := by
  subst he
  obtain ⟨⟨c, s⟩, e, h⟩ := h
  unfold runF
  rw [ha]
  dsimp only
  rw [e]
  cases c with
  | ret d =>
    obtain ⟨h1, h2, h3⟩ := h
    refine ⟨_, ?_, h3⟩
    show leave f.keep m d s.m = _
    unfold leave
    rw [hk]
    have h1 : exOk m.length m s.m = true := h1
    simp only [Bool.false_eq_true, if_false, h1, h2, Bool.and_self, if_true]
  | nx =>
    obtain ⟨h1, h3⟩ := h
    refine ⟨_, ?_, h3⟩
    show leave f.keep m .non s.m = _
    unfold leave
    rw [hk]
    have h1 : exOk m.length m s.m = true := h1
    have h2 : cloD m.length .non = true := rfl
    simp only [Bool.false_eq_true, if_false, h1, h2, Bool.and_self, if_true]
  | brk => exact h.elim
  | cnt => exact h.elim
theorem lv_ret {m : List MO} {P : D × List MO → Prop} {d : D} {e : List (Option D)} (h : cloD m.length d = true) (k : P (d, m)) : LeaveP m P (.ret d, ⟨e, m⟩) := by
  refine ⟨exOk_refl _ _, h, ?_⟩
  show P (d, m.take m.length)
  rw [List.take_length]
  exact k
theorem lv_retT {m t : List MO} {P : D × List MO → Prop} {d : D} {e : List (Option D)} (h : cloD m.length d = true) (k : P (d, m)) : LeaveP m P (.ret d, ⟨e, m ++ t⟩) := by
  refine ⟨exOk_app _ _ _, h, ?_⟩
  show P (d, (m ++ t).take m.length)
  rw [List.take_left]
  exact k
theorem lv_nx {m : List MO} {P : D × List MO → Prop} {e : List (Option D)} (k : P (.non, m)) : LeaveP m P (.nx, ⟨e, m⟩) := by
  refine ⟨exOk_refl _ _, ?_⟩
  show P (.non, m.take m.length)
  rw [List.take_length]
  exact k
theorem lv_set {m : List MO} {P : D × List MO → Prop} {d : D} {e : List (Option D)} {k : Nat} {o : MO} (h : cloD m.length d = true) (ho : cloM m.length o = true) (q : P (d, m.set k o)) : LeaveP m P (.ret d, ⟨e, m.set k o⟩) := by
  refine ⟨by have := exOk_set (k := k) ho m []; rwa [List.append_nil] at this, h, ?_⟩
  show P (d, (m.set k o).take m.length)
  rw [List.take_of_length_le (by simp)]
  exact q
/-- behind a maker or a method that keeps what it changes -/
def KeepP (P : D × List MO → Prop) (p : Ctl × S) : Prop := match p.1 with
  | .ret d => P (d, p.2.m)
  | .nx => P (.non, p.2.m)
  | _ => False
theorem run_keep {w : W} {f : Fn} {xs ys : List D} {m : List MO} {P : D × List MO → Prop} (e0 : List (Option D)) (ha : argsOf f xs = some ys) (hk : f.keep = true) (he : ys.map some ++ List.replicate (f.ns - ys.length) none = e0)
    (h : OP (exSs w none f.body ⟨e0, m⟩) (KeepP P)) : OP (runF w f xs m) P := by
  subst he
  obtain ⟨⟨c, s⟩, e, h⟩ := h
  unfold runF
  rw [ha]
  dsimp only
  rw [e]
  cases c with
  | ret d =>
    refine ⟨_, ?_, h⟩
    show leave f.keep m d s.m = _
    unfold leave
    rw [hk]
    rfl
  | nx =>
    refine ⟨_, ?_, h⟩
    show leave f.keep m .non s.m = _
    unfold leave
    rw [hk]
    rfl
  | brk => exact h.elim
  | cnt => exact h.elim
end SV
set_option linter.all false
set_option Elab.async false
set_option maxHeartbeats 4000000
namespace SV
open PySem
section
variable {w : W} {s : S} {P : D × S → Prop} {a b c : Ex} {es : Exs} {x y : D} {i j : Int} {k : Nat}
theorem e_cst {d : D} (h : P (d, s)) : OP (evE w (.cst d) s) P := by simp only [evE]; exact OP_ok.mpr h
theorem e_var {d : D} (e : s.e[k]? = some (some d)) (h : P (d, s)) : OP (evE w (.var k) s) P := by simp only [evE, e]; exact OP_ok.mpr h
/-- no place of the store at the top -/
def noRef : D → Bool | .ref _ => false | _ => true
theorem fzS_val {d : D} (h : noRef d = true) : fzS s d = (d, s) := by cases d <;> first | rfl | cases h
theorem e_frzV (h : OP (evE w a s) (fun p => noRef p.1 = true ∧ P p)) : OP (evE w (.frz a) s) P := by
  simp only [evE, OP_bind]
  exact h.mono fun p ⟨h1, h2⟩ => OP_ok.mpr (by rw [fzS_val h1]; exact h2)
theorem e_frzR {xs : List D} (h : OP (evE w a s) (fun p => ∃ k, p.1 = .ref k ∧ p.2.m[k]? = some (.lst xs) ∧ P (.lst xs, ⟨p.2.e.map fun o => if o = some (.ref k) then some (.lst xs) else o, p.2.m.set k .dead⟩))) : OP (evE w (.frz a) s) P := by
  simp only [evE, OP_bind]
  refine h.mono fun p ⟨k, h1, h2, h3⟩ => OP_ok.mpr ?_
  unfold fzS fzM
  rw [h1]
  simp only [h2]
  exact h3
theorem e_newL (h : OP (evE w a s) (fun p => ∃ xs, p.1 = .lst xs ∧ P (.ref p.2.m.length, ⟨p.2.e, p.2.m ++ [.lst xs]⟩))) : OP (evE w (.new a) s) P := by
  simp only [evE, OP_bind]
  refine h.mono fun p ⟨xs, h1, h2⟩ => ?_
  rw [h1]
  exact OP_ok.mpr h2
theorem e_bin {op : Operator} (h : OP (evE w a s) (fun p => OP (evE w b p.2) (fun q => OP (binF w op p.1 q.1 q.2) P))) : OP (evE w (.bin op a b) s) P := by simp only [evE, OP_bind]; exact h
theorem e_neg (h : OP (evE w a s) (fun p => OP (negF w p.1 p.2) P)) : OP (evE w (.neg a) s) P := by simp only [evE, OP_bind]; exact h
theorem e_cmp {op : CmpOp} (h : OP (evE w a s) (fun p => OP (evE w b p.2) (fun q => OP (cmpF w op p.1 q.1 q.2) P))) : OP (evE w (.cmp op a b) s) P := by simp only [evE, OP_bind]; exact h
theorem e_chn {o1 o2 : CmpOp} (h : OP (evE w a s) (fun p => OP (evE w b p.2) (fun q => ∃ k, cmpD q.2.m o1 p.1 q.1 = .ok (.bl k) ∧ (if k = true then OP (evE w c q.2) (fun r => ∃ z, cmpD r.2.m o2 q.1 r.1 = .ok z ∧ P (z, r.2)) else P (.bl false, q.2))))) : OP (evE w (.chn o1 o2 a b c) s) P := by
  simp only [evE, OP_bind]
  refine h.mono fun p h => h.mono fun q ⟨k, h1, h2⟩ => ?_
  rw [h1, OP_ok]
  refine OP_bl.mpr ?_
  cases k with
  | true =>
    rw [if_pos rfl] at h2 ⊢
    rw [OP_bind]
    refine h2.mono fun r ⟨z, h3, h4⟩ => ?_
    rw [h3]
    exact OP_ok.mpr h4
  | false =>
    rw [if_neg (by simp)] at h2 ⊢
    exact OP_ok.mpr h2
theorem e_and (h : OP (evE w a s) (fun p => ∃ k, p.1 = .bl k ∧ (if k = true then OP (evE w b p.2) P else P (.bl false, p.2)))) : OP (evE w (.and a b) s) P := by
  simp only [evE, OP_bind]
  refine h.mono fun p ⟨k, h1, h2⟩ => ?_
  rw [h1]
  refine OP_bl.mpr ?_
  cases k with
  | true => rw [if_pos rfl] at h2 ⊢; exact h2
  | false => rw [if_neg (by simp)] at h2 ⊢; exact OP_ok.mpr h2
theorem e_or (h : OP (evE w a s) (fun p => ∃ k, p.1 = .bl k ∧ (if k = true then P (.bl true, p.2) else OP (evE w b p.2) P))) : OP (evE w (.or a b) s) P := by
  simp only [evE, OP_bind]
  refine h.mono fun p ⟨k, h1, h2⟩ => ?_
  rw [h1]
  refine OP_bl.mpr ?_
  cases k with
  | true => rw [if_pos rfl] at h2 ⊢; exact OP_ok.mpr h2
  | false => rw [if_neg (by simp)] at h2 ⊢; exact h2
theorem e_not (h : OP (evE w a s) (fun p => ∃ k, p.1 = .bl k ∧ P (.bl (!k), p.2))) : OP (evE w (.not a) s) P := by
  simp only [evE, OP_bind]
  refine h.mono fun p ⟨k, h1, h2⟩ => ?_
  rw [h1]
  exact OP_bl.mpr (OP_ok.mpr h2)
theorem e_ite (h : OP (evE w a s) (fun p => ∃ k, p.1 = .bl k ∧ (if k = true then OP (evE w b p.2) P else OP (evE w c p.2) P))) : OP (evE w (.ite a b c) s) P := by
  simp only [evE, OP_bind]
  refine h.mono fun p ⟨k, h1, h2⟩ => ?_
  rw [h1]
  refine OP_bl.mpr ?_
  cases k with
  | true => rw [if_pos rfl] at h2 ⊢; exact h2
  | false => rw [if_neg (by simp)] at h2 ⊢; exact h2
theorem e_tup (h : OP (evEs w es s) (fun p => p.1.length ≤ sizeL ∧ P (.tup p.1, p.2))) : OP (evE w (.tup es) s) P := by
  simp only [evE, OP_bind]
  exact h.mono fun p ⟨h1, h2⟩ => OP_gd.mpr ⟨by unfold lok; exact decide_eq_true h1, OP_ok.mpr h2⟩
theorem e_lst (h : OP (evEs w es s) (fun p => p.1.length ≤ sizeL ∧ P (.lst p.1, p.2))) : OP (evE w (.lst es) s) P := by
  simp only [evE, OP_bind]
  exact h.mono fun p ⟨h1, h2⟩ => OP_gd.mpr ⟨by unfold lok; exact decide_eq_true h1, OP_ok.mpr h2⟩
theorem e_sub (h : OP (evE w a s) (fun p => OP (evE w b p.2) (fun q => OP (subF w p.1 q.1 q.2) P))) : OP (evE w (.sub a b) s) P := by simp only [evE, OP_bind]; exact h
theorem e_slc {lo hi : Exo} (h : OP (evE w a s) (fun p => OP (evO w lo p.2) (fun q => OP (evO w hi q.2) (fun r => ∃ z, slcD r.2.m p.1 q.1 r.1 = .ok z ∧ P (z, r.2))))) : OP (evE w (.slc a lo hi) s) P := by
  simp only [evE, OP_bind]
  refine h.mono fun p h => h.mono fun q h => h.mono fun r ⟨z, h1, h2⟩ => ?_
  rw [h1]
  exact OP_ok.mpr (OP_ok.mpr h2)
theorem o_none {R : Option Int × S → Prop} (h : R (none, s)) : OP (evO w .none s) R := by simp only [evO]; exact OP_ok.mpr h
theorem o_somI {R : Option Int × S → Prop} (h : OP (evE w a s) (fun p => ∃ i, p.1 = .int i ∧ R (some i, p.2))) : OP (evO w (.some a) s) R := by
  simp only [evO, OP_bind]
  refine h.mono fun p ⟨i, h1, h2⟩ => ?_
  rw [h1]
  exact OP_ok.mpr (OP_ok.mpr h2)
theorem e_fld {f : Nat} (h : OP (evE w a s) (fun p => ∃ z, fldD p.2.m p.1 f = .ok z ∧ P (z, p.2))) : OP (evE w (.fld a f) s) P := by
  simp only [evE, OP_bind]
  refine h.mono fun p ⟨z, h1, h2⟩ => ?_
  rw [h1]
  exact OP_ok.mpr (OP_ok.mpr h2)
theorem e_prp {f : Nat} (h : OP (evE w a s) (fun p => OP (callM w p.1 f [] p.2) P)) : OP (evE w (.prp a f) s) P := by
  simp only [evE, OP_bind]
  exact h.mono fun p h => OP_noX.mpr h
theorem e_kcn {f : Nat} (h : OP (evE w a s) (fun p => ∃ cl d, clsOf p.2.m p.1 = some cl ∧ w.kcon cl f = some d ∧ P (d, p.2))) : OP (evE w (.kcn a f) s) P := by
  simp only [evE, OP_bind]
  refine h.mono fun p ⟨cl, d, h1, h2, h3⟩ => ?_
  rw [h1]
  dsimp only
  rw [h2]
  exact OP_ok.mpr h3
theorem e_cal {f : Nat} (h : OP (evEs w es s) (fun p => OP (w.call f p.1 p.2.m) (fun q => P (q.1, ⟨p.2.e, q.2⟩)))) : OP (evE w (.cal f es) s) P := by
  simp only [evE, OP_bind]
  exact h.mono fun p h => OP_inS.mpr h
theorem e_mth {f : Nat} (h : OP (evE w a s) (fun p => ∃ cl g, clsOf p.2.m p.1 = some cl ∧ w.meth cl f = some g ∧ OP (evEs w es p.2) (fun q => OP (w.call g (p.1 :: q.1) q.2.m) (fun r => P (r.1, ⟨q.2.e, r.2⟩))))) : OP (evE w (.mth a f es) s) P := by
  simp only [evE, OP_bind]
  refine h.mono fun p ⟨cl, g, h1, h2, h3⟩ => ?_
  rw [h1]
  dsimp only
  rw [h2]
  simp only [OP_bind]
  exact h3.mono fun q h => OP_inS.mpr h
theorem e_ctr {f : Nat} (h : OP (evEs w es s) (fun p => OP (makeD w f p.1 p.2) P)) : OP (evE w (.ctr f es) s) P := by simp only [evE, OP_bind]; exact h
theorem e_app (h : OP (evE w a s) (fun p => isOwn p.2.m p.1 = true ∧ OP (evEs w es p.2) (fun q => OP (callM w p.1 0 q.1 q.2) P))) : OP (evE w (.app a es) s) P := by
  simp only [evE, OP_bind]
  exact h.mono fun p ⟨h1, h2⟩ => OP_gd.mpr ⟨h1, h2⟩
theorem callM_ok {f g cl : Nat} {xs : List D} (h1 : clsOf s.m x = some cl) (h2 : w.meth cl f = some g) (h : OP (w.call g (x :: xs) s.m) (fun q => P (q.1, ⟨s.e, q.2⟩))) : OP (callM w x f xs s) P := by
  unfold callM
  rw [h1]
  dsimp only
  rw [h2]
  exact OP_inS.mpr h
theorem e_bif {f : Bi} (h : OP (evEs w es s) (fun p => OP (bifF w f p.1 p.2) P)) : OP (evE w (.bif f es) s) P := by simp only [evE, OP_bind]; exact h
theorem e_bmt {f : Bm} (h : OP (evE w a s) (fun p => kindM p.2.m f p.1 = true ∧ OP (evEs w es p.2) (fun q => ∃ z m, bmD q.2.m f p.1 q.1 = .ok (z, m) ∧ P (z, ⟨q.2.e, m⟩)))) : OP (evE w (.bmt f a es) s) P := by
  simp only [evE, OP_bind]
  refine h.mono fun p ⟨h1, h2⟩ => OP_gd.mpr ⟨h1, h2.mono fun q ⟨z, m, h3, h4⟩ => ?_⟩
  rw [h3]
  exact OP_ok.mpr (OP_ok.mpr h4)
theorem e_isi {t : Ty} (h : OP (evE w a s) (fun p => ∃ k, isiD p.2.m p.1 t = .ok k ∧ P (.bl k, p.2))) : OP (evE w (.isi a t) s) P := by
  simp only [evE, OP_bind]
  refine h.mono fun p ⟨k, h1, h2⟩ => ?_
  rw [h1]
  exact OP_ok.mpr (OP_ok.mpr h2)
theorem es_nil {R : List D × S → Prop} (h : R ([], s)) : OP (evEs w .nil s) R := by simp only [evEs]; exact OP_ok.mpr h
theorem es_cons {R : List D × S → Prop} (h : OP (evE w a s) (fun p => OP (evEs w es p.2) (fun q => R (p.1 :: q.1, q.2)))) : OP (evEs w (.cons a es) s) R := by
  simp only [evEs, OP_bind]
  exact h.mono fun p h => h.mono fun q h => OP_ok.mpr h
theorem es_star {R : List D × S → Prop} (h : OP (evE w a s) (fun p => ∃ ys, seqOf p.2.m p.1 = some ys ∧ OP (evEs w es p.2) (fun q => R (ys ++ q.1, q.2)))) : OP (evEs w (.star a es) s) R := by
  simp only [evEs, OP_bind]
  refine h.mono fun p ⟨ys, h1, h2⟩ => ?_
  rw [h1]
  exact OP_ok.mpr (h2.mono fun q h => OP_ok.mpr h)
theorem i_valP {R : List D × S → Prop} (h : OP (evE w a s) (fun p => ∃ xs, walkD p.1 = some xs ∧ R (xs, p.2))) : OP (evI w (.val a) s) R := by
  simp only [evI, OP_bind]
  refine h.mono fun p ⟨ys, h1, h2⟩ => ?_
  rw [h1]
  exact OP_ok.mpr (OP_ok.mpr h2)
theorem i_enmP {R : List D × S → Prop} (h : OP (evE w a s) (fun p => ∃ xs, seqV p.1 = some xs ∧ R (enumL 0 xs, p.2))) : OP (evI w (.enm a) s) R := by
  simp only [evI, OP_bind]
  refine h.mono fun p ⟨ys, h1, h2⟩ => ?_
  rw [h1]
  exact OP_ok.mpr (OP_ok.mpr h2)
theorem i_zipP {R : List D × S → Prop} (h : OP (evE w a s) (fun p => OP (evE w b p.2) (fun q => ∃ xs, zipD p.1 q.1 = some xs ∧ R (xs, q.2)))) : OP (evI w (.zip a b) s) R := by
  simp only [evI, OP_bind]
  refine h.mono fun p h => h.mono fun q ⟨ys, h1, h2⟩ => ?_
  rw [h1]
  exact OP_ok.mpr (OP_ok.mpr h2)
theorem i_rngP {R : List D × S → Prop} (h : OP (evEs w es s) (fun p => ∃ xs, rngD p.1 = .ok xs ∧ R (xs, p.2))) : OP (evI w (.rng es) s) R := by
  simp only [evI, OP_bind]
  refine h.mono fun p ⟨ys, h1, h2⟩ => ?_
  rw [h1]
  exact OP_ok.mpr (OP_ok.mpr h2)
theorem ea_nil {R : Bool × S → Prop} (h : R (true, s)) : OP (evA w .nil s) R := by simp only [evA]; exact OP_ok.mpr h
theorem ea_one {R : Bool × S → Prop} (h : OP (evE w a s) (fun p => ∃ k, p.1 = .bl k ∧ R (k, p.2))) : OP (evA w (.cons a .nil) s) R := by
  simp only [evA, OP_bind]
  refine h.mono fun p ⟨k, h1, h2⟩ => ?_
  rw [h1]
  refine OP_bl.mpr ?_
  cases k with
  | true => exact OP_ok.mpr h2
  | false => exact OP_ok.mpr h2
theorem e_lc {e : Ex} {own : List Nat} {t : Tg} {it : It} {ifs : Exs}
    (h : OP (evI w it s) (fun p => OP (lcL (fun x s => noX do
      let s ← asg w t x (wipeS own s)
      let (b, s) ← evA w ifs s
      if b then do
        let (y, s) ← evE w e s
        addM p.2.m.length y s
      else .ok s) p.1 ⟨p.2.e, p.2.m ++ [.lst []]⟩) (fun s1 => P (.ref p.2.m.length, backS own p.2 s1)))) : OP (evE w (.lc e own t it ifs) s) P := by
  simp only [evE, OP_bind]
  refine h.mono fun p h => OP.mono ?_ fun s1 h => OP_ok.mpr h
  exact h
theorem lc_turn {e : Ex} {own : List Nat} {t : Tg} {ifs : Exs} {kk : Nat} {R : S → Prop}
    (h : OP (asg w t x (wipeS own s)) (fun s => OP (evA w ifs s) (fun p => if p.1 = true then OP (evE w e p.2) (fun q => ∃ ys, q.2.m[kk]? = some (.lst ys) ∧ ys.length < sizeL ∧ R ⟨q.2.e, q.2.m.set kk (.lst (ys ++ [q.1]))⟩) else R p.2))) : OP (noX do
      let s ← asg w t x (wipeS own s)
      let (b, s) ← evA w ifs s
      if b then do
        let (y, s) ← evE w e s
        addM kk y s
      else .ok s) R := by
  rw [OP_noX]
  simp only [OP_bind]
  refine h.mono fun s1 h => h.mono fun p h => ?_
  cases hb : p.1 with
  | true =>
    rw [hb, if_pos rfl] at h
    simp only [if_true, OP_bind]
    refine h.mono fun q ⟨ys, h1, h2, h3⟩ => ?_
    unfold addM
    rw [h1]
    exact OP_bind.mpr (OP_gd.mpr ⟨decide_eq_true h2, OP_ok.mpr h3⟩)
  | false =>
    rw [hb, if_neg (by simp)] at h
    simp only [Bool.false_eq_true, if_false]
    exact OP_ok.mpr h
theorem g_nm {R : S → Prop} (h : R ⟨s.e.set k (some x), s.m⟩) : OP (asg w (.name k) x s) R := by simp only [asg]; exact OP_ok.mpr h
theorem g_sb {R : S → Prop} (h : OP (evE w a s) (fun p => OP (evE w b p.2) (fun q => ∃ m, putD q.2.m p.1 q.1 x = .ok m ∧ R ⟨q.2.e, m⟩))) : OP (asg w (.sub a b) x s) R := by
  simp only [asg, OP_bind]
  refine h.mono fun p h => h.mono fun q ⟨m, h1, h2⟩ => ?_
  rw [h1]
  exact OP_ok.mpr (OP_ok.mpr h2)
theorem g_at {R : S → Prop} {f : Nat} (h : OP (evE w a s) (fun p => ∃ k c fs, p.1 = .ref k ∧ p.2.m[k]? = some (.obj c fs) ∧ hasF c f = true ∧ fs.length < 16 ∧ R ⟨p.2.e, p.2.m.set k (.obj c (fput fs f x))⟩)) : OP (asg w (.att a f) x s) R := by
  simp only [asg, OP_bind]
  refine h.mono fun p ⟨k, c, fs, h1, h2, h3, h4, h5⟩ => ?_
  rw [h1]
  dsimp only
  rw [h2]
  exact OP_bind.mpr (OP_gd.mpr ⟨by rw [h3, decide_eq_true h4]; rfl, OP_ok.mpr h5⟩)
theorem gs_nil {R : S → Prop} (h : R s) : OP (asgs w .nil [] s) R := by simp only [asgs]; exact OP_ok.mpr h
theorem gs_cons {R : S → Prop} {t : Tg} {ts : Tgs} {xs : List D} (h : OP (asg w t x s) (fun s => OP (asgs w ts xs s) R)) : OP (asgs w (.cons t ts) (x :: xs) s) R := by simp only [asgs, OP_bind]; exact h
end
section
variable {w : W} {s : S} {P : Ctl × S → Prop} {a b c : Ex} {es : Exs} {x : Option (Nat × D)} {k : Nat}
theorem q_asg {t : Tg} (h : OP (evE w a s) (fun p => OP (asg w t p.1 p.2) (fun s => P (.nx, s)))) : OP (exS w x (.asg t a) s) P := by
  simp only [exS, OP_bind]
  exact h.mono fun p h => h.mono fun q h => OP_ok.mpr h
theorem q_par {ts : Tgs} (h : OP (evEs w es s) (fun p => OP (asgs w ts p.1 p.2) (fun s => P (.nx, s)))) : OP (exS w x (.par ts es) s) P := by
  simp only [exS, OP_bind]
  exact h.mono fun p h => h.mono fun q h => OP_ok.mpr h
theorem q_exp (h : OP (evE w a s) (fun p => P (.nx, p.2))) : OP (exS w x (.exp a) s) P := by
  simp only [exS, OP_bind]
  exact h.mono fun p h => OP_ok.mpr h
theorem s_ifs {u v : List Sm} (h : OP (evE w a s) (fun p => ∃ k, p.1 = .bl k ∧ (if k = true then OP (exSs w x u p.2) P else OP (exSs w x v p.2) P))) : OP (exS w x (.ifs a u v) s) P := by
  simp only [exS, OP_bind]
  refine h.mono fun p ⟨k, h1, h2⟩ => ?_
  rw [h1]
  refine OP_bl.mpr ?_
  cases k with
  | true => rw [if_pos rfl] at h2 ⊢; exact h2
  | false => rw [if_neg (by simp)] at h2 ⊢; exact h2
theorem s_for {t : Tg} {it : It} {u : List Sm} (h : OP (evI w it s) (fun p => OP (forL (fun d s => do
      let s ← asg w t d s
      exSs w x u s) p.1 p.2) P)) : OP (exS w x (.for t it u) s) P := by
  simp only [exS, OP_bind]
  exact h
theorem for_turn {t : Tg} {u : List Sm} {d : D} (h : OP (asg w t d s) (fun s => OP (exSs w x u s) P)) : OP (do
      let s ← asg w t d s
      exSs w x u s) P := by rw [OP_bind]; exact h
theorem s_ret (h : OP (evE w a s) (fun p => P (.ret p.1, p.2))) : OP (exS w x (.ret a) s) P := by
  simp only [exS, OP_bind]
  exact h.mono fun p h => OP_ok.mpr h
theorem ss_nil (h : P (.nx, s)) : OP (exSs w x [] s) P := OP_nil.mpr h
theorem ss_cons {u : Sm} {v : List Sm} (h : OP (exS w x u s) (fun p => match p.1 with | .nx => OP (exSs w x v p.2) P | c => P (c, p.2))) : OP (exSs w x (u :: v) s) P := OP_cons.mpr h
end
theorem xbl {b : Bool} {Q : Bool → Prop} (h : Q b) : ∃ k, D.bl b = .bl k ∧ Q k := ⟨b, rfl, h⟩
theorem xint {b : Int} {Q : Int → Prop} (h : Q b) : ∃ k, D.int b = .int k ∧ Q k := ⟨b, rfl, h⟩
theorem xlst {b : List D} {Q : List D → Prop} (h : Q b) : ∃ k, D.lst b = .lst k ∧ Q k := ⟨b, rfl, h⟩
theorem xok {α : Type} {o : Out α} {a : α} {Q : α → Prop} (e : o = .ok a) (h : Q a) : ∃ k, o = .ok k ∧ Q k := ⟨a, e, h⟩
theorem xsome {α : Type} {o : Option α} {a : α} {Q : α → Prop} (e : o = some a) (h : Q a) : ∃ k, o = some k ∧ Q k := ⟨a, e, h⟩
theorem xbm {α β : Type} {o : Out (α × β)} {a : α} {b : β} {Q : α → β → Prop} (e : o = .ok (a, b)) (h : Q a b) : ∃ z m, o = .ok (z, m) ∧ Q z m := ⟨a, b, e, h⟩
theorem xle {a b : Int} {m : List MO} {Q : Bool → Prop} (h : Q (decide (a ≤ b))) : ∃ k, cmpD m .LtE (.int a) (.int b) = .ok (.bl k) ∧ Q k := by
  refine ⟨_, ?_, h⟩
  show Out.ok (D.bl (!decide (b < a))) = _
  congr 2
  by_cases hh : b < a
  · rw [decide_eq_true hh, decide_eq_false (by omega)]; rfl
  · rw [decide_eq_false hh, decide_eq_true (by omega)]; rfl
theorem xle2 {a b : Int} {m : List MO} {Q : D → Prop} (h : Q (.bl (decide (a ≤ b)))) : ∃ k, cmpD m .LtE (.int a) (.int b) = .ok k ∧ Q k := by
  obtain ⟨k, e, h⟩ := xle (m := m) (Q := fun k => Q (.bl k)) h
  exact ⟨_, e, h⟩
theorem if_tt {A B : Prop} (h : A) : (if true = true then A else B) := h
theorem if_ff {A B : Prop} (h : B) : (if false = true then A else B) := by rw [if_neg (by simp)]; exact h
section
variable {w : W} {s : S} {P : D × S → Prop} {i j : Int} {x y : D}
theorem b_add (h : P (.int (i + j), s)) : OP (binF w .Add (.int i) (.int j) s) P := OP_ok.mpr h
theorem b_sub (h : P (.int (i - j), s)) : OP (binF w .Sub (.int i) (.int j) s) P := OP_ok.mpr h
theorem b_mul (hb : (-(2 ^ 64) < i ∧ i < 2 ^ 64) ∨ (-(2 ^ 64) < j ∧ j < 2 ^ 64)) (h : P (.int (i * j), s)) : OP (binF w .Mult (.int i) (.int j) s) P := by
  refine ⟨(.int (i * j), s), ?_, h⟩
  show (binD s.m .Mult (.int i) (.int j) >>= _) = _
  have : binD s.m .Mult (.int i) (.int j) = .ok (.int (i * j)) := by
    show (gd _ >>= _) = _
    rw [decide_eq_true hb]
    rfl
  rw [this]
  rfl
theorem b_mod (hb : 0 < j) (h : P (.int (i % j), s)) : OP (binF w .Mod (.int i) (.int j) s) P := by
  refine ⟨(.int (i % j), s), ?_, h⟩
  show (binD s.m .Mod (.int i) (.int j) >>= _) = _
  have : binD s.m .Mod (.int i) (.int j) = .ok (.int (i % j)) := by
    show (gd _ >>= _) = _
    rw [decide_eq_true hb]
    rfl
  rw [this]
  rfl
theorem b_div (hb : 0 < j ∧ j < 2 ^ 62) (h : P (.int (i / j), s)) : OP (binF w .FloorDiv (.int i) (.int j) s) P := by
  refine ⟨(.int (i / j), s), ?_, h⟩
  show (binD s.m .FloorDiv (.int i) (.int j) >>= _) = _
  have : binD s.m .FloorDiv (.int i) (.int j) = .ok (.int (i / j)) := by
    show (gd _ >>= _) = _
    rw [decide_eq_true hb]
    rfl
  rw [this]
  rfl
theorem b_of {op : Operator} {z : D} (hop : op ≠ .RShift) (hb : binD s.m op x y = .ok z) (h : P (z, s)) : OP (binF w op x y s) P := by
  refine ⟨(z, s), ?_, h⟩
  unfold binF
  rw [if_neg hop, hb]
  rfl
theorem c_of {op : CmpOp} {z : D} (h0 : op ≠ .Eq ∨ isOwn s.m x = false) (hb : cmpD s.m op x y = .ok z) (h : P (z, s)) : OP (cmpF w op x y s) P := by
  refine ⟨(z, s), ?_, h⟩
  unfold cmpF
  rw [if_neg (by rcases h0 with h0 | h0 <;> simp [h0]), hb]
  rfl
theorem c_eqi (h : P (.bl (decide (i = j)), s)) : OP (cmpF w .Eq (.int i) (.int j) s) P := by
  refine c_of (.inr rfl) ?_ h
  show Out.ok (D.bl (i == j)) = _
  rfl
theorem c_lt (h : P (.bl (decide (i < j)), s)) : OP (cmpF w .Lt (.int i) (.int j) s) P := c_of (.inl (by intro z; cases z)) rfl h
theorem c_gt (h : P (.bl (decide (j < i)), s)) : OP (cmpF w .Gt (.int i) (.int j) s) P := c_of (.inl (by intro z; cases z)) rfl h
theorem c_ge (h : P (.bl (decide (j ≤ i)), s)) : OP (cmpF w .GtE (.int i) (.int j) s) P := by
  refine c_of (.inl (by intro z; cases z)) ?_ h
  show Out.ok (D.bl (!decide (i < j))) = _
  congr 2
  by_cases hh : i < j
  · rw [decide_eq_true hh, decide_eq_false (by omega)]; rfl
  · rw [decide_eq_false hh, decide_eq_true (by omega)]; rfl
theorem c_eq {b : Bool} (h0 : isOwn s.m x = false) (hb : eqD (rslv s.m x) (rslv s.m y) = some b) (h : P (.bl b, s)) : OP (cmpF w .Eq x y s) P := by
  refine c_of (.inr h0) ?_ h
  unfold cmpD
  dsimp only
  rw [hb]
theorem c_ne {b : Bool} (hb : eqD (rslv s.m x) (rslv s.m y) = some b) (h : P (.bl (!b), s)) : OP (cmpF w .NotEq x y s) P := by
  refine c_of (.inl (by intro z; cases z)) ?_ h
  unfold cmpD
  dsimp only
  rw [hb]
theorem u_of {z : D} (h0 : isOwn s.m x = false) (hb : subD s.m x y = .ok z) (h : P (z, s)) : OP (subF w x y s) P := by
  refine ⟨(z, s), ?_, h⟩
  unfold subF
  rw [if_neg (by simp [h0]), hb]
  rfl
theorem f_of {b : Bi} {xs : List D} {z : D} (h0 : b ≠ .len) (hb : biD s.m b xs = .ok z) (h : P (z, s)) : OP (bifF w b xs s) P := by
  refine ⟨(z, s), ?_, h⟩
  have e : bifF w b xs s = (do let z ← biD s.m b xs; .ok (z, s)) := by cases b <;> first | exact absurd rfl h0 | rfl
  rw [e, hb]
  rfl
theorem f_len {z : D} (h0 : isOwn s.m x = false) (hb : biLen s.m [x] = .ok z) (h : P (z, s)) : OP (bifF w .len [x] s) P := by
  refine ⟨(z, s), ?_, h⟩
  show lenF w x s = _
  unfold lenF
  rw [if_neg (by simp [h0])]
  show (biLen s.m [x] >>= _) = _
  rw [hb]
  rfl
end
end SV
set_option linter.all false
set_option Elab.async false
set_option maxHeartbeats 4000000
namespace SV
open PySem
def wipeE (own : List Nat) (e : List (Option D)) : List (Option D) := own.foldl (fun e i => e.set i none) e
theorem wipeE_get : ∀ (own : List Nat) (e : List (Option D)) (j : Nat), (wipeE own e)[j]? = if j ∈ own ∧ j < e.length then some none else e[j]?
  | [], e, j => by simp [wipeE]
  | a :: r, e, j => by
    show (wipeE r (e.set a none))[j]? = _
    rw [wipeE_get r (e.set a none) j, List.length_set, List.getElem?_set]
    by_cases h1 : j ∈ r
    · simp only [h1, true_and, List.mem_cons, or_true]
      by_cases h2 : j < e.length
      · simp [h2]
      · simp [h2]; omega
    · simp only [h1, false_and, if_false, List.mem_cons, or_false]
      by_cases h3 : a = j
      · subst h3
        by_cases h2 : a < e.length
        · simp [h2]
        · simp [h2]
      · have : j ≠ a := fun h => h3 h.symm
        simp [h3, this]
theorem wipeE_set {own : List Nat} {k : Nat} (hk : k ∈ own) (e : List (Option D)) (v : Option D) : wipeE own ((wipeE own e).set k v) = wipeE own e := by
  apply List.ext_getElem?
  intro j
  have hl : (wipeE own e).length = e.length := by
    unfold wipeE
    induction own generalizing e with
    | nil => rfl
    | cons a r ih => 
      simp only [List.foldl_cons]
      by_cases hr : k ∈ r
      · rw [ih hr, List.length_set]
      · have : ∀ (r : List Nat) (e : List (Option D)), (r.foldl (fun e i => e.set i none) e).length = e.length := by
          intro r
          induction r with
          | nil => intro e; rfl
          | cons b t ih => intro e; rw [List.foldl_cons, ih, List.length_set]
        rw [this, List.length_set]
  rw [wipeE_get, wipeE_get, List.length_set, hl, List.getElem?_set, wipeE_get, hl]
  by_cases h1 : j ∈ own
  · by_cases h2 : j < e.length
    · simp [h1, h2]
    · simp only [h1, h2, and_false, if_false]
      by_cases h3 : k = j
      · simp [h3, h2]
      · simp [h3]
  · have h3 : k ≠ j := fun h => h1 (h ▸ hk)
    simp [h1, h3]
theorem wipe_len (own : List Nat) : ∀ e : List (Option D), (wipeE own e).length = e.length := by
  induction own with
  | nil => intro e; rfl
  | cons b t ih => intro e; show (wipeE t (e.set b none)).length = _; rw [ih, List.length_set]
def backE (own : List Nat) (e0 e : List (Option D)) : List (Option D) := own.foldl (fun e i => e.set i ((e0[i]?).getD none)) e
theorem back_get (e0 : List (Option D)) : ∀ (own : List Nat) (e : List (Option D)) (j : Nat), e.length = e0.length → (backE own e0 e)[j]? = if j ∈ own then e0[j]? else e[j]?
  | [], e, j, h => by simp [backE]
  | a :: r, e, j, h => by
    show (backE r e0 (e.set a _))[j]? = _
    rw [back_get e0 r _ j (by rw [List.length_set]; exact h), List.getElem?_set]
    by_cases h1 : j ∈ r
    · simp [h1]
    · by_cases h3 : a = j
      · subst h3
        by_cases h2 : a < e.length
        · have h4 : a < e0.length := by omega
          simp [h1, h2, h4]
        · have h4 : ¬ a < e0.length := by omega
          simp [h1, h2, h4]
      · have : j ≠ a := fun h => h3 h.symm
        simp [h1, h3, this]
theorem back_wipe (own : List Nat) (e : List (Option D)) (e' : List (Option D)) (h : e' = wipeE own e ∨ ∃ k v, k ∈ own ∧ e' = (wipeE own e).set k v) : backE own e e' = e := by
  apply List.ext_getElem?
  intro j
  have hl : e'.length = e.length := by
    rcases h with h | ⟨k, v, _, h⟩ <;> subst h
    · exact wipe_len _ _
    · rw [List.length_set, wipe_len]
  rw [back_get e own e' j hl]
  by_cases h1 : j ∈ own
  · rw [if_pos h1]
  · rw [if_neg h1]
    rcases h with h | ⟨k, v, hk, h⟩ <;> subst h
    · rw [wipeE_get]; simp [h1]
    · have h3 : k ≠ j := fun h => h1 (h ▸ hk)
      rw [List.getElem?_set, if_neg h3, wipeE_get]; simp [h1]
theorem fz_map {e : List (Option D)} {k : Nat} {xs : List D} (h : ∀ o ∈ e, o ≠ some (.ref k)) : (e.map fun o => if o = some (.ref k) then some (.lst xs) else o) = e := by
  conv => rhs; rw [← List.map_id e]
  apply List.map_congr_left
  intro o ho
  rw [if_neg (h o ho)]; rfl
section
variable {w : W} {s s' : S} {P : D × S → Prop}
theorem e_frzX {a : Ex} (h : OP (evE w a s) (fun p => ∃ k xs, p.1 = .ref k ∧ p.2.m[k]? = some (.lst xs) ∧ P (.lst xs, ⟨p.2.e.map fun o => if o = some (.ref k) then some (.lst xs) else o, p.2.m.set k .dead⟩))) : OP (evE w (.frz a) s) P := by
  obtain ⟨⟨d, t⟩, e, k, xs, h1, h2, h3⟩ := h
  exact e_frzR (xs := xs) ⟨(d, t), e, k, h1, h2, h3⟩
/-- a comprehension over a name: I i ys m after i items -/
theorem e_lcI {e : Ex} {own : List Nat} {k : Nat} {it : It} {ifs : Exs} {xs : List D} (I : Nat → List D → List MO → Prop)
    (hi : OP (evI w it s) (fun p => p = (xs, s'))) (hl : xs.length ≤ sizeL) (hn : ∀ o ∈ s'.e, o ≠ some (.ref s'.m.length)) (hk : k ∈ own) (h0 : I 0 [] s'.m)
    (ht : ∀ i x ys m, xs[i]? = some x → I i ys m → m.length = s'.m.length → OP (evA w ifs ⟨(wipeE own s'.e).set k (some x), m ++ [.lst ys]⟩) (fun p => p.2 = ⟨(wipeE own s'.e).set k (some x), m ++ [.lst ys]⟩ ∧
      if p.1 = true then OP (evE w e ⟨(wipeE own s'.e).set k (some x), m ++ [.lst ys]⟩) (fun q => ∃ m', q.2 = ⟨(wipeE own s'.e).set k (some x), m' ++ [.lst ys]⟩ ∧ m'.length = s'.m.length ∧ I (i + 1) (ys ++ [q.1]) m') else I (i + 1) ys m))
    (hd : ∀ ys m, I xs.length ys m → m.length = s'.m.length → P (.lst ys, ⟨s'.e, m ++ [.dead]⟩)) : OP (evE w (.frz (.lc e own (.name k) it ifs)) s) P := by
  refine e_frzX (e_lc ?_)
  refine hi.mono ?_
  rintro p rfl
  dsimp only
  refine OP_lcL (fun i t => ∃ ys m e', t = ⟨e', m ++ [.lst ys]⟩ ∧ (e' = wipeE own s'.e ∨ (∃ k v, k ∈ own ∧ e' = (wipeE own s'.e).set k v) ∨ e' = s'.e) ∧ wipeE own e' = wipeE own s'.e ∧ m.length = s'.m.length ∧ ys.length ≤ i ∧ I i ys m) ⟨[], s'.m, s'.e, rfl, .inr (.inr rfl), rfl, rfl, Nat.le_refl _, h0⟩ ?_ ?_
  · rintro t ⟨ys, m, e', rfl, he, hw, hm, hy, hI⟩
    have hb : backE own s'.e e' = s'.e := by
      rcases he with h | h | h
      · exact back_wipe own s'.e e' (.inl h)
      · exact back_wipe own s'.e e' (.inr h)
      · subst h
        apply List.ext_getElem?
        intro j
        rw [back_get _ _ _ _ rfl]
        split <;> rfl
    refine ⟨s'.m.length, ys, rfl, ?_, ?_⟩
    · show (m ++ [MO.lst ys])[s'.m.length]? = _
      rw [← hm]; simp
    · show P (.lst ys, ⟨(backE own s'.e e').map _, (m ++ [MO.lst ys]).set s'.m.length .dead⟩)
      rw [hb, fz_map hn, ← hm]
      have : (m ++ [MO.lst ys]).set m.length .dead = m ++ [.dead] := by simp
      rw [this]
      exact hd _ _ hI hm
  · rintro i d t hx ⟨ys, m, e', rfl, he, hw, hm, hy, hI⟩
    have hlt := (List.getElem?_eq_some_iff.mp hx).1
    refine lc_turn (kk := s'.m.length) (g_nm ?_)
    have hws : wipeS own ⟨e', m ++ [MO.lst ys]⟩ = ⟨wipeE own s'.e, m ++ [.lst ys]⟩ := by
      show (⟨wipeE own e', _⟩ : S) = _
      rw [hw]
    rw [hws]
    refine (ht i d ys m hx hI hm).mono ?_
    rintro ⟨b, s2⟩ ⟨h1, h2⟩
    dsimp only at h1 h2 ⊢
    subst h1
    cases b with
    | true =>
      rw [if_pos rfl] at h2 ⊢
      refine h2.mono ?_
      rintro ⟨y, s3⟩ ⟨m', h3, h4, h5⟩
      dsimp only at h3 h5 ⊢
      subst h3
      refine ⟨ys, by dsimp only; rw [← h4]; simp, by omega, ys ++ [y], m', (wipeE own s'.e).set k (some d), ?_, .inr (.inl ⟨k, _, hk, rfl⟩), wipeE_set hk _ _, h4, by simp; omega, h5⟩
      rw [← h4]; simp
    | false =>
      rw [if_neg (by simp)] at h2 ⊢
      exact ⟨ys, m, _, rfl, .inr (.inl ⟨k, _, hk, rfl⟩), wipeE_set hk _ _, hm, by omega, h2⟩
end
end SV
set_option linter.all false
set_option Elab.async false
set_option maxHeartbeats 4000000
namespace SV
open PySem
local macro_rules | `(tactic| walk_at "sp1") => `(tactic| first
  | refine ss_cons ?_
  | refine e_var rfl ?_
  | refine e_cst ?_
  | refine ss_nil ?_
  | refine q_asg ?_
  | refine s_ret ?_
  | refine s_ifs ?_
  | refine q_exp ?_
  | refine q_par ?_
  | refine s_for ?_
  | refine es_cons ?_
  | refine es_nil ?_
  | refine e_tup ?_
  | refine e_lst ?_
  | refine e_bin ?_
  | refine e_cmp ?_
  | refine e_sub ?_
  | refine e_and ?_
  | refine e_or ?_
  | refine e_not ?_
  | refine e_ite ?_
  | refine e_chn ?_
  | refine e_cal ?_
  | refine e_bif ?_
  | refine e_bmt ?_
  | refine e_isi ?_
  | refine e_fld ?_
  | refine e_kcn ?_
  | refine e_prp ?_
  | refine e_app ?_
  | refine e_ctr ?_
  | refine e_mth ?_
  | refine e_slc ?_
  | refine o_none ?_
  | refine o_somI ?_
  | refine e_newL ?_
  | refine e_frzV ?_
  | refine e_neg ?_
  | refine es_star ?_
  | refine e_lc ?_
  | refine g_nm ?_
  | refine g_sb ?_
  | refine g_at ?_
  | refine gs_nil ?_
  | refine gs_cons ?_
  | refine i_valP ?_
  | refine i_enmP ?_
  | refine i_zipP ?_
  | refine i_rngP ?_
  | refine ea_nil ?_
  | refine ea_one ?_
  | refine b_add ?_
  | refine b_sub ?_
  | refine c_eqi ?_
  | refine c_lt ?_
  | refine c_gt ?_
  | refine c_ge ?_
  | refine if_tt ?_
  | refine if_ff ?_
  | refine xbl ?_
  | refine xint ?_
  | refine xlst ?_
  | refine xle ?_
  | refine xle2 ?_
  | refine lv_ret rfl ?_
  | refine lv_retT rfl ?_
  | refine lv_nx ?_
  | refine xok rfl ?_
  | refine xsome rfl ?_
  | refine xbm rfl ?_
  | refine And.intro rfl ?_
  | refine And.intro (Nat.le_of_ble_eq_true rfl) ?_)
local macro_rules | `(tactic| walk_at "sp") => `(tactic| repeat' (walk_at "sp1"; try dsimp only [List.set]))
inductive CK where
  | first | last | less | greater | near (m : Int)
  deriving DecidableEq, Inhabited
def labK : CK → Str
  | .first => "first" | .last => "last" | .less => "less" | .greater => "greater" | .near m => Str.ofString "near:" ++ strOfInt m
def cellD : CK → D
  | .first => .ins 0 [.str "first"] | .last => .ins 1 [.str "last"] | .less => .ins 2 [.str "less"] | .greater => .ins 3 [.str "greater"]
  | .near m => .ins 4 [.str (Str.ofString "near:" ++ strOfInt m), .int m]
def OD : Option Int → D
  | none => .non
  | some i => .int i
def absI (i : Int) : Int := if i < 0 then -i else i
def keep1 : CK → Int → Int → Int × Int
  | .first, h, c => (h, c)
  | .last, h, c => (c, h)
  | .less, h, c => (if c < h then c else h, if c > h then c else h)
  | .greater, h, c => (if c > h then c else h, if c < h then c else h)
  | .near m, h, c => if absI (c - m) < absI (h - m) then (c, h) else (h, c)
/-- what the world is asked -/
structure Has (p : Pg) (L : List (Nat × Fn)) : Prop where
  fn : ∀ i f, (i, f) ∈ L → p.fn i = some f
section
variable {p : Pg} {n : Nat} {m : List MO}
theorem ite_bl {k : Bool} {A B : Prop} (h1 : k = true → A) (h2 : k = false → B) : if k = true then A else B := by
  cases k with
  | true => exact h1 rfl
  | false => rw [if_neg (by simp)]; exact h2 rfl
theorem if_no {c : Prop} [Decidable c] {A B : Prop} (h : ¬ c) (k : B) : if decide c = true then A else B := by rw [decide_eq_false h]; exact if_ff k
theorem if_yes {c : Prop} [Decidable c] {A B : Prop} (h : c) (k : A) : if decide c = true then A else B := by rw [decide_eq_true h]; exact if_tt k
theorem run0 (h : p.fn 0 = some F0) (v lo hi : Int) : OP ((callF p (n + 1)).1 0 [.int v, .int lo, .int hi] m) (fun r => r = (.bl (decide (lo ≤ v) && decide (v ≤ hi)), m)) := by
  rw [call_succ h]
  refine run_leave [some (.int v), some (.int lo), some (.int hi)] rfl rfl rfl ?_
  walk_at "sp"
  refine ite_bl (fun e => ?_) (fun e => ?_)
  · walk_at "sp"
    rw [e]; rfl
  · walk_at "sp"
    rw [e]; rfl
def cK : CK → Nat | .first => 0 | .last => 1 | .less => 2 | .greater => 3 | .near _ => 4
def fK : CK → Nat | .first => 4 | .last => 8 | .less => 10 | .greater => 12 | .near _ => 15
def FK : CK → Fn | .first => F4 | .last => F8 | .less => F10 | .greater => F12 | .near _ => F15
structure CellH (p : Pg) (c : CK) : Prop where
  mt : p.meth (cK c) 0 = some (fK c)
  fn : p.fn (fK c) = some (FK c)
theorem cls_cell (m : List MO) (c : CK) : clsOf m (cellD c) = some (cK c) := by cases c <;> rfl
theorem own_cell (m : List MO) (c : CK) : isOwn m (cellD c) = true := by unfold isOwn; rw [cls_cell]; rfl
theorem cell_call {c : CK} (h : CellH p c) (a b : Int) (s : S) : OP (callM (wN p (n + 1)) (cellD c) 0 [.int a, .int b] s) (fun r => r = (.tup [.int (keep1 c a b).1, .int (keep1 c a b).2], s)) := by
  refine callM_ok (cls_cell _ _) h.mt ?_
  refine OP.mono (P := fun r => r = (.tup [.int (keep1 c a b).1, .int (keep1 c a b).2], s.m)) ?_ fun r e => by rw [e]
  show OP ((callF p (n + 1)).1 (fK c) [cellD c, .int a, .int b] s.m) _
  rw [call_succ h.fn]
  cases c with
  | first =>
    refine run_leave [some (cellD .first), some (.int a), some (.int b)] rfl rfl rfl ?_
    walk_at "sp"
    rfl
  | last =>
    refine run_leave [some (cellD .last), some (.int a), some (.int b)] rfl rfl rfl ?_
    walk_at "sp"
    rfl
  | less =>
    refine run_leave [some (cellD .less), some (.int a), some (.int b)] rfl rfl rfl ?_
    walk_at "sp"
    rfl
  | greater =>
    refine run_leave [some (cellD .greater), some (.int a), some (.int b)] rfl rfl rfl ?_
    walk_at "sp"
    rfl
  | near k =>
    refine run_leave [some (cellD (.near k)), some (.int a), some (.int b)] rfl rfl rfl ?_
    walk_at "sp"
    by_cases hh : absI (b - k) < absI (a - k)
    · refine if_yes hh ?_
      walk_at "sp"
      simp only [keep1, if_pos hh]
    · refine if_no hh ?_
      walk_at "sp"
      simp only [keep1, if_neg hh]
theorem getTop (m : List MO) (a : MO) : (m ++ [a])[m.length]? = some a := by simp
theorem setTop (m : List MO) (a b : MO) : (m ++ [a]).set m.length b = m ++ [b] := by simp
end
end SV
set_option linter.all false
set_option Elab.async false
set_option maxHeartbeats 4000000
namespace SV
open PySem
local macro_rules | `(tactic| walk_at "sp1") => `(tactic| first
  | refine ss_cons ?_
  | refine e_var rfl ?_
  | refine e_cst ?_
  | refine ss_nil ?_
  | refine q_asg ?_
  | refine s_ret ?_
  | refine s_ifs ?_
  | refine q_exp ?_
  | refine q_par ?_
  | refine s_for ?_
  | refine es_cons ?_
  | refine es_nil ?_
  | refine e_tup ?_
  | refine e_lst ?_
  | refine e_bin ?_
  | refine e_cmp ?_
  | refine e_sub ?_
  | refine e_and ?_
  | refine e_or ?_
  | refine e_not ?_
  | refine e_ite ?_
  | refine e_chn ?_
  | refine e_cal ?_
  | refine e_bif ?_
  | refine e_bmt ?_
  | refine e_isi ?_
  | refine e_fld ?_
  | refine e_kcn ?_
  | refine e_prp ?_
  | refine e_app ?_
  | refine e_ctr ?_
  | refine e_mth ?_
  | refine e_slc ?_
  | refine o_none ?_
  | refine o_somI ?_
  | refine e_newL ?_
  | refine e_frzV ?_
  | refine e_neg ?_
  | refine es_star ?_
  | refine e_lc ?_
  | refine g_nm ?_
  | refine g_sb ?_
  | refine g_at ?_
  | refine gs_nil ?_
  | refine gs_cons ?_
  | refine i_valP ?_
  | refine i_enmP ?_
  | refine i_zipP ?_
  | refine i_rngP ?_
  | refine ea_nil ?_
  | refine ea_one ?_
  | refine b_add ?_
  | refine b_sub ?_
  | refine c_eqi ?_
  | refine c_lt ?_
  | refine c_gt ?_
  | refine c_ge ?_
  | refine if_tt ?_
  | refine if_ff ?_
  | refine xbl ?_
  | refine xint ?_
  | refine xlst ?_
  | refine xle ?_
  | refine xle2 ?_
  | refine lv_ret rfl ?_
  | refine lv_retT rfl ?_
  | refine lv_nx ?_
  | refine xok rfl ?_
  | refine xsome rfl ?_
  | refine xbm rfl ?_
  | refine And.intro rfl ?_
  | refine And.intro (Nat.le_of_ble_eq_true rfl) ?_)
local macro_rules | `(tactic| walk_at "sp") => `(tactic| repeat' (walk_at "sp1"; try dsimp only [List.set]))
section
variable {p : Pg} {n : Nat} {m : List MO}
/-- a cell is made -/
structure MakeH (p : Pg) (c : Nat) (z : Str) : Prop where
  it : p.init c = some 3
  kc : p.kcon c 0 = some (.str z)
  fn : p.fn 3 = some F3
theorem make_cell {c : CK} (hn : ∀ k, c ≠ .near k) (h : MakeH p (cK c) (labK c)) (s : S) : OP (makeD (wN p (n + 1)) (cK c) [] s) (fun r => r = (cellD c, s)) := by
  have e1 : (callF p (n + 1)).1 3 [.ref s.m.length] (s.m ++ [.obj (cK c) []]) = .ok (.non, s.m ++ [.obj (cK c) [(0, .str (labK c))]]) := by
    have : OP ((callF p (n + 1)).1 3 [.ref s.m.length] (s.m ++ [.obj (cK c) []])) (fun r => r = (.non, s.m ++ [.obj (cK c) [(0, .str (labK c))]])) := by
      rw [call_succ h.fn]
      refine run_keep [some (.ref s.m.length)] rfl rfl rfl ?_
      refine ss_cons (q_asg (e_kcn ?_))
      walk_at "sp"
      refine ⟨cK c, .str (labK c), ?_, h.kc, ?_⟩
      · show (match (s.m ++ [MO.obj (cK c) []])[s.m.length]? with | some (.obj c _) => some c | _ => none) = _
        rw [getTop]
      walk_at "sp"
      refine ⟨s.m.length, cK c, [], rfl, getTop _ _, ?_, by decide, ?_⟩
      · cases c <;> first | rfl | exact absurd rfl (hn _)
      rw [setTop]
      walk_at "sp"
      exact rfl
    obtain ⟨r, e, rfl⟩ := this
    exact e
  refine ⟨_, ?_, rfl⟩
  unfold makeD
  have e2 : (wN p (n + 1)).init (cK c) = some 3 := h.it
  have e3 : flds (cK c) = some [0] := by cases c <;> first | rfl | exact absurd rfl (hn _)
  rw [e2]
  dsimp only
  rw [show (wN p (n + 1)).call 3 [.ref s.m.length] (s.m ++ [.obj (cK c) []]) = _ from e1]
  show (match flds (cK c) with | none => _ | some gs => _) = _
  rw [e3]
  dsimp only
  rw [getTop]
  dsimp only
  rw [if_pos ⟨rfl, rfl, exOk_app _ _ _, rfl⟩, List.take_left]
  cases c <;> first | rfl | exact absurd rfl (hn _)
structure Ch29 (p : Pg) : Prop where
  f0 : p.fn 0 = some F0
  f2 : p.fn 2 = some F2
  f19 : p.fn 19 = some F19
  f23 : p.fn 23 = some F23
  f29 : p.fn 29 = some F29
  m12 : p.meth 5 12 = some 23
structure ChainH (p : Pg) : Prop extends Ch29 p where
  f20 : p.fn 20 = some F20
  f22 : p.fn 22 = some F22
  f7 : p.fn 7 = some F7
  i5 : p.init 5 = some 20
  m0 : p.meth 5 0 = some 29
  m11 : p.meth 5 11 = some 22
theorem lab_cell (h : p.fn 7 = some F7) (c : CK) (hm : p.meth (cK c) 10 = some 7) (s : S) : OP (callM (wN p (n + 1)) (cellD c) 10 [] s) (fun r => r = (.str (labK c), s)) := by
  refine callM_ok (cls_cell _ _) hm ?_
  refine OP.mono (P := fun r => r = (.str (labK c), s.m)) ?_ fun r e => by rw [e]
  show OP ((callF p (n + 1)).1 7 [cellD c] s.m) _
  rw [call_succ h]
  refine run_leave [some (cellD c)] rfl rfl rfl ?_
  refine ss_cons (s_ret (e_fld ?_))
  cases c <;> (walk_at "sp"; try rfl)
end
end SV
set_option linter.all false
set_option Elab.async false
set_option maxHeartbeats 4000000
namespace SV
open PySem
local macro_rules | `(tactic| walk_at "sp1") => `(tactic| first
  | refine ss_cons ?_
  | refine e_var rfl ?_
  | refine e_cst ?_
  | refine ss_nil ?_
  | refine q_asg ?_
  | refine s_ret ?_
  | refine s_ifs ?_
  | refine q_exp ?_
  | refine q_par ?_
  | refine s_for ?_
  | refine es_cons ?_
  | refine es_nil ?_
  | refine e_tup ?_
  | refine e_lst ?_
  | refine e_bin ?_
  | refine e_cmp ?_
  | refine e_sub ?_
  | refine e_and ?_
  | refine e_or ?_
  | refine e_not ?_
  | refine e_ite ?_
  | refine e_chn ?_
  | refine e_cal ?_
  | refine e_bif ?_
  | refine e_bmt ?_
  | refine e_isi ?_
  | refine e_fld ?_
  | refine e_kcn ?_
  | refine e_prp ?_
  | refine e_app ?_
  | refine e_ctr ?_
  | refine e_mth ?_
  | refine e_slc ?_
  | refine o_none ?_
  | refine o_somI ?_
  | refine e_newL ?_
  | refine e_frzV ?_
  | refine e_neg ?_
  | refine es_star ?_
  | refine e_lc ?_
  | refine g_nm ?_
  | refine g_sb ?_
  | refine g_at ?_
  | refine gs_nil ?_
  | refine gs_cons ?_
  | refine i_valP ?_
  | refine i_enmP ?_
  | refine i_zipP ?_
  | refine i_rngP ?_
  | refine ea_nil ?_
  | refine ea_one ?_
  | refine b_add ?_
  | refine b_sub ?_
  | refine c_eqi ?_
  | refine c_lt ?_
  | refine c_gt ?_
  | refine c_ge ?_
  | refine if_tt ?_
  | refine if_ff ?_
  | refine xbl ?_
  | refine xint ?_
  | refine xlst ?_
  | refine xle ?_
  | refine xle2 ?_
  | refine lv_ret rfl ?_
  | refine lv_retT rfl ?_
  | refine lv_nx ?_
  | refine xok rfl ?_
  | refine xsome rfl ?_
  | refine xbm rfl ?_
  | refine And.intro rfl ?_
  | refine And.intro (Nat.le_of_ble_eq_true rfl) ?_)
local macro_rules | `(tactic| walk_at "sp") => `(tactic| repeat' (walk_at "sp1"; try dsimp only [List.set]))
def Dz (xs : List D) : Prop := ∃ (a b : Int) (bigs : List Int), xs = .int a :: .int b :: bigs.map .int ∧ 0 ≤ a ∧ 0 ≤ b ∧ (∀ x ∈ bigs, 0 ≤ x) ∧ bigs.length ≤ 100
section
variable {p : Pg} {n : Nat} {m : List MO}
theorem intsL (xs : List Int) : ∀ n : Nat, cloDs n (xs.map D.int) = true := by
  intro n
  induction xs with
  | nil => rfl
  | cons a r ih => show (true && _) = true; rw [ih]; rfl
theorem run100 (h : p.fn 100 = some F100) (ns : List Int) (hn : ns.length ≤ 63) (c : Int) (hc : 0 ≤ c) : OP ((callF p (n + 1)).1 100 [.scr ns, .int c] m) (fun r => ∃ xs, r = (.lst xs, m ++ [.dead]) ∧ Dz xs) := by
  rw [call_succ h]
  refine run_keep [some (.scr ns), some (.int c), none, none, none] rfl rfl rfl ?_
  refine ss_cons (q_asg (e_var rfl (g_nm ?_)))
  refine ss_cons (s_for (i_valP (e_var rfl ⟨_, rfl, ?_⟩)))
  refine OP_for (fun i s => ∃ (z : Int) (b : Option D), 0 ≤ z ∧ (b = none ∨ ∃ y, b = some (.int y)) ∧ s = ⟨[some (.scr ns), some (.int c), some (.int z), b, none], m⟩) ⟨c, none, hc, .inl rfl, rfl⟩ ?_ ?_
  · rintro t ⟨z, b, hz, hb, rfl⟩
    refine ss_cons (s_ret (e_bin ?_))
    refine e_lst (es_cons (e_var rfl (es_cons (e_cst (es_nil ⟨Nat.le_of_ble_eq_true rfl, ?_⟩)))))
    refine e_lcI (xs := ns.map D.int) (s' := ⟨[some (.scr ns), some (.int c), some (.int z), b, none], m⟩) (fun i ys m' => m' = m ∧ ∃ bigs : List Int, ys = bigs.map .int ∧ (∀ x ∈ bigs, 0 ≤ x) ∧ bigs.length ≤ i) ?_ ?_ ?_ (by decide) ⟨rfl, [], rfl, by simp, by simp⟩ ?_ ?_
    · exact i_valP (e_var rfl ⟨_, rfl, rfl⟩)
    · rw [List.length_map]; show _ ≤ 16777216; omega
    · rcases hb with rfl | ⟨y, rfl⟩ <;> simp
    · rintro i x ys m' hx ⟨rfl, bigs, rfl, hb1, hb2⟩ hm
      rw [List.getElem?_map] at hx
      cases hv : ns[i]? with
      | none => rw [hv] at hx; cases hx
      | some v =>
        rw [hv] at hx
        cases hx
        refine ea_one (e_cmp (e_var rfl (e_bin (e_cst (e_cst ?_)))))
        refine b_of (z := .int (10 ^ 18)) (by decide) rfl ?_
        refine c_ge ⟨_, rfl, rfl, ?_⟩
        dsimp only
        by_cases hge : (10 : Int) ^ 18 ≤ v
        · rw [decide_eq_true hge]
          refine if_tt (e_var rfl ⟨m', rfl, rfl, rfl, bigs ++ [v], by simp, ?_, by simp; omega⟩)
          intro x hx
          rcases List.mem_append.mp hx with h1 | h1
          · exact hb1 x h1
          · have := List.mem_singleton.mp h1
            omega
        · rw [decide_eq_false hge]
          exact if_ff ⟨rfl, bigs, rfl, hb1, by omega⟩
    · rintro ys m' ⟨rfl, bigs, rfl, hb1, hb2⟩ hm
      rw [List.length_map] at hb2
      refine b_of (z := .lst (.int z :: .int 0 :: bigs.map .int)) (by decide) ?_ ?_
      · show (do gd (decide (_)); .ok _ : Out D) = _
        rw [decide_eq_true]
        · rfl
        · show [D.int z, D.int 0].length + (bigs.map D.int).length ≤ 16777216
          rw [List.length_map]
          show 2 + _ ≤ _
          omega
      refine ⟨_, rfl, z, 0, bigs, rfl, hz, by omega, hb1, by omega⟩
  · rintro i d t hi ⟨z, b, hz, hb, rfl⟩
    rw [List.getElem?_map] at hi
    cases hv : ns[i]? with
    | none => rw [hv] at hi; cases hi
    | some v =>
      rw [hv] at hi
      cases hi
      refine for_turn (g_nm ?_)
      refine ss_cons (q_asg (e_bin (e_bin (e_bin (e_var rfl (e_cst (b_mul (.inr (by decide)) ?_)))))))
      refine e_bif (es_cons (e_var rfl (es_nil (f_of (by decide) rfl (b_add (e_cst ?_))))))
      refine b_mod (by decide) (g_nm (ss_nil ⟨_, _, ?_, .inr ⟨v, rfl⟩, rfl⟩))
      exact Int.emod_nonneg _ (by decide)
theorem getM {k : Nat} (hk : k < m.length) (o : MO) : (m.set k o)[k]? = some o := by rw [List.getElem?_set]; simp [hk]
theorem sq_M {k : Nat} (hk : k < m.length) (ys : List D) : seqOf (m.set k (.lst ys)) (.ref k) = some ys := by
  show (match (m.set k (MO.lst ys))[k]? with | some (.lst xs) => some xs | _ => none) = _
  rw [getM hk]
theorem rs_M {k : Nat} (hk : k < m.length) (ys : List D) : rslv (m.set k (.lst ys)) (.ref k) = .lst ys := by
  show (match (m.set k (MO.lst ys))[k]? with | some (.lst xs) => D.lst xs | some (.dct es) => .dct es | _ => .ref k) = _
  rw [getM hk]
theorem dc_M {k : Nat} (hk : k < m.length) (ys : List D) : dctOf (m.set k (.lst ys)) (.ref k) = none := by
  show (match (m.set k (MO.lst ys))[k]? with | some (.dct es) => some es | _ => none) = _
  rw [getM hk]
theorem dcR_M {k : Nat} (hk : k < m.length) (ys : List D) : dctR (m.set k (.lst ys)) (.ref k) = none := by
  show (match (m.set k (MO.lst ys))[k]? with | some (.dct es) => some es | some (.lkd es) => some es | _ => none) = _
  rw [getM hk]
theorem own_M {k : Nat} (hk : k < m.length) (ys : List D) : isOwn (m.set k (.lst ys)) (.ref k) = false := by
  unfold isOwn
  show (match (m.set k (MO.lst ys))[k]? with | some (.obj c _) => some c | _ => none).isSome = false
  rw [getM hk]
  rfl
theorem ixN (j l : Nat) (h : j < l) : ixOf (j : Int) l = some j := by
  unfold ixOf
  rw [if_pos (by omega), if_pos (by omega)]
  rfl
theorem sub_M {w : W} {e : List (Option D)} {P : D × S → Prop} {k : Nat} (hk : k < m.length) {ys : List D} (j : Nat) {d : D} (hj : ys[j]? = some d) (q : P (d, ⟨e, m.set k (.lst ys)⟩)) : OP (subF w (.ref k) (.int (j : Int)) ⟨e, m.set k (.lst ys)⟩) P := by
  refine u_of (own_M hk _) (z := d) ?_ q
  show subD (m.set k (.lst ys)) (.ref k) (.int j) = _
  have hl := (List.getElem?_eq_some_iff.mp hj).1
  unfold subD
  rw [dcR_M hk]
  show (do
    let xs ← opt (seqOf (m.set k (.lst ys)) (.ref k))
    let i ← opt (ixOf (j : Int) xs.length)
    opt xs[i]? : Out D) = _
  rw [sq_M hk]
  show (do
    let i ← opt (ixOf (j : Int) ys.length)
    opt ys[i]? : Out D) = _
  rw [ixN _ _ hl]
  show opt ys[j]? = _
  rw [hj]; rfl
theorem len_M {w : W} {e : List (Option D)} {P : D × S → Prop} {k : Nat} (hk : k < m.length) {ys : List D} (q : P (.int ys.length, ⟨e, m.set k (.lst ys)⟩)) : OP (bifF w .len [.ref k] ⟨e, m.set k (.lst ys)⟩) P := by
  refine f_len (own_M hk _) (z := .int ys.length) ?_ q
  show (match dctOf (m.set k (.lst ys)) (.ref k) with
    | some es => do gd (kindOk es (.int 0)); .ok (.int es.length)
    | none => do .ok (.int (← opt (seqOf (m.set k (.lst ys)) (.ref k))).length) : Out D) = _
  rw [dc_M hk, sq_M hk]
  rfl
theorem kind_M {k : Nat} (hk : k < m.length) (ys : List D) : kindM (m.set k (.lst ys)) .pop1 (.ref k) = true := by
  show (match rslv (m.set k (.lst ys)) (.ref k) with | .lst _ => true | _ => false) = true
  rw [rs_M hk]
theorem pop_M {k : Nat} (hk : k < m.length) {ys : List D} (j : Nat) (hj2 : (j : Int) < 2 ^ 62) {d : D} (hj : ys[j]? = some d) : bmD (m.set k (.lst ys)) .pop1 (.ref k) [.int (j : Int)] = .ok (d, m.set k (.lst (ys.eraseIdx j))) := by
  have hl := (List.getElem?_eq_some_iff.mp hj).1
  show (match (m.set k (MO.lst ys))[k]? with
      | some (.lst ys) => do
        gd (decide (-(2 ^ 62) ≤ (j : Int) ∧ (j : Int) < 2 ^ 62))
        let i ← opt (ixOf (j : Int) ys.length)
        let y ← opt ys[i]?
        .ok (y, (m.set k (MO.lst _)).set k (.lst (ys.eraseIdx i)))
      | _ => .bad : Out (D × List MO)) = _
  rw [getM hk]
  dsimp only
  rw [decide_eq_true ⟨by omega, hj2⟩, ixN _ _ hl]
  show (do let y ← opt ys[j]?; .ok (y, (m.set k (MO.lst ys)).set k (.lst (ys.eraseIdx j))) : Out (D × List MO)) = _
  rw [hj, List.set_set]
  rfl
theorem put_M {k : Nat} (hk : k < m.length) {ys : List D} (j : Nat) (hj : j < ys.length) (v : D) : putD (m.set k (.lst ys)) (.ref k) (.int (j : Int)) v = .ok (m.set k (.lst (ys.set j v))) := by
  show (match (m.set k (MO.lst ys))[k]? with
    | some (.lst ys) => (do let n ← opt (ixOf (j : Int) ys.length); .ok ((m.set k (MO.lst _)).set k (.lst (ys.set n v))) : Out (List MO))
    | some (.dct es) => _
    | _ => .bad) = _
  rw [getM hk]
  dsimp only
  rw [ixN _ _ hj]
  show Out.ok ((m.set k (MO.lst ys)).set k (.lst (ys.set j v))) = _
  rw [List.set_set]
theorem run101 (h : p.fn 101 = some F101) {k : Nat} {xs : List D} (hm : m[k]? = some (.lst xs)) (hD : Dz xs) (c : Int) (hc : 0 < c ∧ c < 2 ^ 62) :
    OP ((callF p (n + 1)).1 101 [.ref k, .int c] m) (fun r => ∃ (v : Int) (ys : List D), r = (.int v, m.set k (.lst ys)) ∧ 0 ≤ v ∧ v < c ∧ Dz ys) := by
  have hk : k < m.length := (List.getElem?_eq_some_iff.mp hm).1
  have hm0 : m = m.set k (.lst xs) := by
    apply List.ext_getElem?
    intro j
    rw [List.getElem?_set]
    by_cases hj : k = j
    · subst hj; rw [if_pos rfl, if_pos hk, hm]
    · simp [hj]
  rw [call_succ h]
  refine run_leave [some (.ref k), some (.int c), none] rfl rfl rfl ?_
  have fin : ∀ {e : List (Option D)} {v : Int} {ys : List D}, 0 ≤ v → v < c → Dz ys → LeaveP m (fun r => ∃ (v : Int) (ys : List D), r = (.int v, m.set k (.lst ys)) ∧ 0 ≤ v ∧ v < c ∧ Dz ys) (.ret (.int v), ⟨e, m.set k (.lst ys)⟩) := by
    intro e v ys h1 h2 h3
    refine lv_set rfl ?_ ⟨v, ys, rfl, h1, h2, h3⟩
    obtain ⟨a, b, bigs, rfl, _⟩ := h3
    exact intsL (a :: b :: bigs) _
  rw [show (⟨[some (.ref k), some (.int c), none], m⟩ : S) = ⟨[some (.ref k), some (.int c), none], m.set k (.lst xs)⟩ from by rw [← hm0]]
  obtain ⟨a, b, bigs, rfl, ha, hb, hB, hL⟩ := hD
  -- behind the first if
  have rest : ∀ (b : Int) (bigs : List Int), 0 ≤ b → (∀ x ∈ bigs, 0 ≤ x) → bigs.length ≤ 100 → OP (exSs (wN p n) none (F101.body.drop 1) ⟨[some (.ref k), some (.int c), none], m.set k (.lst (.int a :: .int b :: bigs.map .int))⟩) (LeaveP m (fun r => ∃ (v : Int) (ys : List D), r = (.int v, m.set k (.lst ys)) ∧ 0 ≤ v ∧ v < c ∧ Dz ys)) := by
    intro b bigs hb hB hL
    refine ss_cons (s_ifs (e_cmp (e_sub (e_var rfl (e_cst (sub_M hk 1 rfl (e_cst (c_gt ⟨_, rfl, ?_⟩))))))))
    refine ite_bl (fun e => ?_) (fun e => ?_)
    · refine ss_cons (q_asg (e_bin (e_sub (e_var rfl (e_cst (sub_M hk 1 rfl (e_var rfl (b_mod hc.1 (g_nm ?_)))))))))
      refine ss_cons (q_asg (e_bin (e_sub (e_var rfl (e_cst (sub_M hk 1 rfl (e_var rfl (b_div hc ?_))))))))
      refine g_sb (e_var rfl (e_cst ⟨_, put_M hk 1 (by simp) _, ?_⟩))
      refine ss_cons (s_ret (e_var rfl ?_))
      exact fin (Int.emod_nonneg _ (by omega)) (Int.emod_lt_of_pos _ hc.1) ⟨a, b / c, bigs, rfl, ha, Int.ediv_nonneg hb (by omega), hB, hL⟩
    · refine ss_nil ?_
      refine ss_cons (q_asg (e_bin (e_bin (e_bin (e_sub (e_var rfl (e_cst (sub_M hk 0 rfl (e_cst (b_mul (.inr (by decide)) (e_cst (b_add (e_cst (b_mod (by decide) ?_)))))))))))))) 
      refine g_sb (e_var rfl (e_cst ⟨_, put_M hk 0 (by simp) _, ?_⟩))
      have hz : 0 ≤ (a * 48271 + 11) % 2147483647 := Int.emod_nonneg _ (by decide)
      refine ss_cons (s_ret (e_bin (e_bin (e_sub (e_var rfl (e_cst (sub_M hk 0 rfl (e_cst (b_div (by decide) (e_var rfl (b_mod hc.1 ?_)))))))))))
      exact fin (Int.emod_nonneg _ (by omega)) (Int.emod_lt_of_pos _ hc.1) ⟨(a * 48271 + 11) % 2147483647, b, bigs, rfl, hz, hb, hB, hL⟩
  refine ss_cons (s_ifs (e_and (e_cmp (e_sub (e_var rfl (e_cst (sub_M hk 1 rfl (e_cst (c_eqi ⟨_, rfl, ?_⟩)))))))))
  refine ite_bl (fun e => ?_) (fun e => ?_)
  · refine e_cmp (e_bif (es_cons (e_var rfl (es_nil (len_M hk (e_cst (c_gt ⟨_, rfl, ?_⟩)))))))
    refine ite_bl (fun e2 => ?_) (fun e2 => ?_)
    · cases bigs with
      | nil => exact absurd (of_decide_eq_true e2) (by simp)
      | cons c1 r =>
        refine ss_cons (q_asg (e_bmt (e_var rfl ⟨kind_M hk _, es_cons (e_cst (es_nil ⟨_, _, pop_M hk 2 (by decide) rfl, ?_⟩))⟩)))
        refine g_sb (e_var rfl (e_cst ⟨_, put_M hk 1 (by simp) _, ?_⟩))
        refine ss_nil ?_
        exact rest c1 r (hB _ (by simp)) (fun x hx => hB x (by simp [hx])) (by simp at hL; omega)
    · exact ss_nil (rest b bigs hb hB hL)
  · refine ⟨_, rfl, if_ff (ss_nil (rest b bigs hb hB hL))⟩
theorem setSame {k : Nat} {o : MO} (hm : m[k]? = some o) : m.set k o = m := by
  have hk : k < m.length := (List.getElem?_eq_some_iff.mp hm).1
  apply List.ext_getElem?
  intro j
  rw [List.getElem?_set]
  by_cases hj : k = j
  · subst hj; rw [if_pos rfl, if_pos hk, hm]
  · simp [hj]
theorem sub_K {w : W} {e : List (Option D)} {P : D × S → Prop} {k : Nat} {ys : List D} (hm : m[k]? = some (.lst ys)) (j : Nat) {d : D} (hj : ys[j]? = some d) (q : P (d, ⟨e, m⟩)) : OP (subF w (.ref k) (.int (j : Int)) ⟨e, m⟩) P := by
  have hk : k < m.length := (List.getElem?_eq_some_iff.mp hm).1
  have := sub_M (w := w) (e := e) (P := P) (m := m) hk j hj (by rw [setSame hm]; exact q)
  rwa [setSame hm] at this
theorem sl_take {α : Type} (xs : List α) (i : Nat) : sliceL xs none (some (i : Int)) = xs.take i := by
  show (xs.take (clampI (i : Int) xs.length)).drop 0 = _
  rw [List.drop_zero]
  unfold clampI
  rw [if_neg (by omega)]
  show xs.take (min i xs.length) = _
  by_cases h : i ≤ xs.length
  · rw [Nat.min_eq_left h]
  · rw [Nat.min_eq_right (by omega), List.take_length, List.take_of_length_le (by omega)]
theorem sl_drop {α : Type} (xs : List α) (i : Nat) : sliceL xs (some ((i : Int) + 1)) none = xs.drop (i + 1) := by
  show (xs.take xs.length).drop (clampI ((i : Int) + 1) xs.length) = _
  rw [List.take_length]
  unfold clampI
  rw [if_neg (by omega)]
  have : ((i : Int) + 1).toNat = i + 1 := by omega
  rw [this]
  by_cases h : i + 1 ≤ xs.length
  · rw [Nat.min_eq_left h]
  · rw [Nat.min_eq_right (by omega), List.drop_length, List.drop_eq_nil_of_le (by omega)]
theorem c_eqS {w : W} {s : S} {P : D × S → Prop} {x y : Str} {b : Bool} (hb : (x == y) = b) (h : P (.bl b, s)) : OP (cmpF w .Eq (.str x) (.str y) s) P := by
  refine c_eq (b := b) rfl ?_ h
  show some (x == y) = _
  rw [hb]
theorem c_neS {w : W} {s : S} {P : D × S → Prop} {x y : Str} {b : Bool} (hb : (x == y) = b) (h : P (.bl (!b), s)) : OP (cmpF w .NotEq (.str x) (.str y) s) P := by
  refine c_ne (b := b) ?_ h
  show some (x == y) = _
  rw [hb]
def plainK : CK → Bool
  | .near _ => false
  | _ => true
theorem run105 (h : p.fn 105 = some F105) (c : CK) (hc : plainK c = true) (a b : Int) : OP ((callF p (n + 1)).1 105 [.str (labK c), .int a, .int b] m) (fun r => r = (.tup [.int (keep1 c a b).1, .int (keep1 c a b).2], m)) := by
  rw [call_succ h]
  refine run_leave [some (.str (labK c)), some (.int a), some (.int b), none] rfl rfl rfl ?_
  cases c with
  | near k => cases hc
  | first =>
    refine ss_cons (s_ifs (e_cmp (e_var rfl (e_cst (c_eqS (b := false) (by decide +kernel) (xbl (if_ff (ss_nil ?_))))))))
    refine ss_cons (s_ifs (e_cmp (e_var rfl (e_cst (c_eqS (b := false) (by decide +kernel) (xbl (if_ff (ss_nil ?_))))))))
    refine ss_cons (s_ifs (e_cmp (e_var rfl (e_cst (c_eqS (b := false) (by decide +kernel) (xbl (if_ff (ss_nil ?_))))))))
    refine ss_cons (s_ifs (e_cmp (e_var rfl (e_cst (c_neS (b := true) (by decide +kernel) (xbl (if_ff (ss_nil ?_))))))))
    walk_at "sp"
    rfl
  | last =>
    refine ss_cons (s_ifs (e_cmp (e_var rfl (e_cst (c_eqS (b := true) (by decide +kernel) (xbl (if_tt ?_)))))))
    walk_at "sp"
    rfl
  | less =>
    refine ss_cons (s_ifs (e_cmp (e_var rfl (e_cst (c_eqS (b := false) (by decide +kernel) (xbl (if_ff (ss_nil ?_))))))))
    refine ss_cons (s_ifs (e_cmp (e_var rfl (e_cst (c_eqS (b := true) (by decide +kernel) (xbl (if_tt ?_)))))))
    walk_at "sp"
    rfl
  | greater =>
    refine ss_cons (s_ifs (e_cmp (e_var rfl (e_cst (c_eqS (b := false) (by decide +kernel) (xbl (if_ff (ss_nil ?_))))))))
    refine ss_cons (s_ifs (e_cmp (e_var rfl (e_cst (c_eqS (b := false) (by decide +kernel) (xbl (if_ff (ss_nil ?_))))))))
    refine ss_cons (s_ifs (e_cmp (e_var rfl (e_cst (c_eqS (b := true) (by decide +kernel) (xbl (if_tt ?_)))))))
    walk_at "sp"
    rfl
end
end SV
set_option linter.all false
set_option Elab.async false
set_option maxHeartbeats 4000000
namespace SV
open PySem
section
variable {p : Pg} {n : Nat} {m : List MO}
end
end SV
set_option linter.all false
set_option Elab.async false
set_option maxHeartbeats 4000000
namespace SV
open PySem
def EqO (own : List Nat) (e e' : List (Option D)) : Prop := e.length = e'.length ∧ ∀ j, j ∉ own → e[j]? = e'[j]?
theorem EqO.refl (own : List Nat) (e : List (Option D)) : EqO own e e := ⟨rfl, fun _ _ => rfl⟩
theorem EqO.trans {own : List Nat} {a b c : List (Option D)} (h : EqO own a b) (k : EqO own b c) : EqO own a c := ⟨h.1.trans k.1, fun j hj => (h.2 j hj).trans (k.2 j hj)⟩
theorem EqO.mono {own own1 : List Nat} {a b : List (Option D)} (h : EqO own1 a b) (hs : ∀ j ∈ own1, j ∈ own) : EqO own a b := ⟨h.1, fun j hj => h.2 j fun q => hj (hs j q)⟩
theorem EqO.wipe (own : List Nat) (e : List (Option D)) : EqO own e (wipeE own e) := ⟨(wipe_len _ _).symm, fun j hj => by rw [wipeE_get]; simp [hj]⟩
theorem EqO.set {own : List Nat} {k : Nat} (hk : k ∈ own) (e : List (Option D)) (v : Option D) : EqO own e (e.set k v) := ⟨by simp, fun j hj => by rw [List.getElem?_set, if_neg (fun h => hj (by rw [← h]; exact hk))]⟩
section
variable {w : W} {s s' : S} {P : D × S → Prop}
end
theorem ok_OD (o : Option Int) (k : Nat) : okD k (OD o) = true := by cases k <;> cases o <;> rfl
theorem eqB_OD (a b : Option Int) : eqB (OD a) (OD b) = decide (a = b) := by
  cases a with
  | none => cases b with
    | none => rfl
    | some j => rfl
  | some i => cases b with
    | none => rfl
    | some j =>
      show (i == j) = _
      by_cases h : i = j
      · simp [h]
      · simp [h]
section
variable {p : Pg} {n : Nat} {m : List MO}
/-- what the chains ask of the program -/
structure AllH (p : Pg) : Prop extends ChainH p where
  cell : ∀ c : CK, plainK c = true → CellH p c
  m10 : ∀ c : CK, plainK c = true → p.meth (cK c) 10 = some 7
  mks : ∀ c : CK, plainK c = true → MakeH p (cK c) (labK c)
  f46 : p.fn 46 = some F46
end
end SV
set_option linter.all false
set_option Elab.async false
set_option maxHeartbeats 4000000
namespace SV
open PySem
def lab (c : CK) : D := .str (labK c)
section
variable {p : Pg} {n : Nat}
/-- one number from the law's own random list -/
theorem below (h : p.fn 101 = some F101) {xs : List D} {t : List MO} (hD : Dz xs) (c : Int) (hc : 0 < c ∧ c < 2 ^ 62) :
    OP ((callF p (n + 1)).1 101 [.ref 1, .int c] (.dead :: .lst xs :: t)) (fun r => ∃ (v : Int) (ys : List D), r = (.int v, .dead :: .lst ys :: t) ∧ 0 ≤ v ∧ v < c ∧ Dz ys) :=
  (run101 (m := .dead :: .lst xs :: t) (k := 1) h rfl hD c hc).mono fun r ⟨v, ys, e, h⟩ => ⟨v, ys, e, h⟩
end
end SV
set_option linter.all false
set_option Elab.async false
set_option maxHeartbeats 4000000
namespace SV
open PySem
def labC : CK → List Nat
  | .first => [102, 105, 114, 115, 116] | .last => [108, 97, 115, 116] | .less => [108, 101, 115, 115] | .greater => [103, 114, 101, 97, 116, 101, 114] | .near _ => []
def T : List CK → List Nat
  | [] => []
  | [x] => labC x
  | x :: y :: r => labC x ++ 32 :: T (y :: r)
section
variable {p : Pg} {n : Nat} {m : List MO}
end
end SV
set_option linter.all false
set_option Elab.async false
set_option maxHeartbeats 4000000
namespace SV
open PySem
theorem op_no {p q : Prop} (h1 : p → False) (h2 : q → False) : p ↔ q := ⟨fun h => (h1 h).elim, fun h => (h2 h).elim⟩
theorem OPe {α : Type} {o : Out α} {a : α} (h : OP o (fun r => r = a)) {P : α → Prop} : OP o P ↔ P a := by
  obtain ⟨b, e, rfl⟩ := h
  rw [e, OP_ok]
theorem asB_iff {x : D} {Q : Bool → Prop} : OP (asBool x) Q ↔ ∃ k, x = .bl k ∧ Q k := by
  cases x <;> simp [asBool, OP_ok, OP_bad]
theorem cif {α : Type} {q : Bool} {u v : Out α} {Q : α → Prop} : OP (if q = true then u else v) Q ↔ (if q = true then OP u Q else OP v Q) := by cases q <;> simp
section
variable {w : W} {s : S} {P : D × S → Prop} {a b c : Ex} {es : Exs} {x y : D} {i j : Int} {k : Nat} {R : List D × S → Prop}
theorem r_cst {d : D} : OP (evE w (.cst d) s) P ↔ P (d, s) := by simp only [evE, OP_ok]
theorem r_var : OP (evE w (.var k) s) P ↔ ∃ d, s.e[k]? = some (some d) ∧ P (d, s) := by
  simp only [evE]
  split
  · rename_i d h
    rw [OP_ok, h]; simp
  · rename_i h
    rw [OP_bad]
    constructor
    · exact False.elim
    · rintro ⟨d, h1, _⟩; exact (h d h1).elim
theorem r_frz : OP (evE w (.frz a) s) P ↔ OP (evE w a s) (fun p => P (fzS p.2 p.1)) := by simp only [evE, OP_bind, OP_ok]
def newS (s : S) : D → D × S
  | .lst xs => (.ref s.m.length, ⟨s.e, s.m ++ [.lst xs]⟩)
  | .dct es => (.ref s.m.length, ⟨s.e, s.m ++ [.dct es]⟩)
  | x => (x, s)
theorem r_new : OP (evE w (.new a) s) P ↔ OP (evE w a s) (fun p => P (newS p.2 p.1)) := by
  simp only [evE, OP_bind]
  constructor <;> intro h <;> refine h.mono fun p hp => ?_
  · obtain ⟨x, s⟩ := p
    cases x <;> exact OP_ok.mp hp
  · obtain ⟨x, s⟩ := p
    cases x <;> exact OP_ok.mpr hp
theorem r_bin {op : Operator} : OP (evE w (.bin op a b) s) P ↔ OP (evE w a s) (fun p => OP (evE w b p.2) (fun q => OP (binF w op p.1 q.1 q.2) P)) := by simp only [evE, OP_bind]
theorem r_neg : OP (evE w (.neg a) s) P ↔ OP (evE w a s) (fun p => OP (negF w p.1 p.2) P) := by simp only [evE, OP_bind]
theorem r_cmp {op : CmpOp} : OP (evE w (.cmp op a b) s) P ↔ OP (evE w a s) (fun p => OP (evE w b p.2) (fun q => OP (cmpF w op p.1 q.1 q.2) P)) := by simp only [evE, OP_bind]
theorem r_oeq {ne : Bool} : OP (evE w (.oeq ne a b) s) P ↔ OP (evE w a s) (fun p => OP (evE w b p.2) (fun q => OP (oeqF w ne p.1 q.1 q.2) P)) := by simp only [evE, OP_bind, oeqF]
theorem r_chn {o1 o2 : CmpOp} : OP (evE w (.chn o1 o2 a b c) s) P ↔ OP (evE w a s) (fun p => OP (evE w b p.2) (fun q => OP (cmpD q.2.m o1 p.1 q.1) (fun u => ∃ k, u = .bl k ∧ (if k = true then OP (evE w c q.2) (fun r => OP (cmpD r.2.m o2 q.1 r.1) (fun z => P (z, r.2))) else P (.bl false, q.2))))) := by
  simp only [evE, OP_bind, asB_iff, cif, OP_ok]
theorem r_and : OP (evE w (.and a b) s) P ↔ OP (evE w a s) (fun p => ∃ k, p.1 = .bl k ∧ (if k = true then OP (evE w b p.2) P else P (.bl false, p.2))) := by simp only [evE, OP_bind, asB_iff, cif, OP_ok]
theorem r_or : OP (evE w (.or a b) s) P ↔ OP (evE w a s) (fun p => ∃ k, p.1 = .bl k ∧ (if k = true then P (.bl true, p.2) else OP (evE w b p.2) P)) := by simp only [evE, OP_bind, asB_iff, cif, OP_ok]
theorem r_not : OP (evE w (.not a) s) P ↔ OP (evE w a s) (fun p => ∃ k, p.1 = .bl k ∧ P (.bl (!k), p.2)) := by simp only [evE, OP_bind, asB_iff, OP_ok]
theorem r_ite : OP (evE w (.ite a b c) s) P ↔ OP (evE w a s) (fun p => ∃ k, p.1 = .bl k ∧ (if k = true then OP (evE w b p.2) P else OP (evE w c p.2) P)) := by simp only [evE, OP_bind, asB_iff, cif]
theorem r_tup : OP (evE w (.tup es) s) P ↔ OP (evEs w es s) (fun p => p.1.length ≤ sizeL ∧ P (.tup p.1, p.2)) := by simp only [evE, OP_bind, OP_gd, OP_ok, lok, decide_eq_true_eq]
theorem r_lst : OP (evE w (.lst es) s) P ↔ OP (evEs w es s) (fun p => p.1.length ≤ sizeL ∧ P (.lst p.1, p.2)) := by simp only [evE, OP_bind, OP_gd, OP_ok, lok, decide_eq_true_eq]
theorem r_lok {e : Ex} : OP (evE w (.lok a e) s) P ↔ OP (evE w a s) (fun p => ∃ k, p.1 = .ref k ∧ ∃ o mo, s.m[k]? = some o ∧ lckM o = some mo ∧ OP (evE w e ⟨s.e, s.m.set k mo⟩) (fun q => q.2.m[k]? = some mo ∧ P (q.1, ⟨q.2.e, q.2.m.set k o⟩))) := by
  simp only [evE]
  cases h : evE w a s with
  | bad => exact op_no (fun h => OP_bad.mp h) (fun h => OP_bad.mp h)
  | exc c d t => exact op_no (fun h => OP_bad.mp h) (fun h => by obtain ⟨_, e, _⟩ := h; cases e)
  | ok p =>
    obtain ⟨x, t⟩ := p
    cases x with
    | ref k =>
      simp only [OP_bind, OP_opt, OP_gd, OP_ok, decide_eq_true_eq, OP_noX]
      constructor
      · rintro ⟨o, h1, mo, h2, h3⟩; exact ⟨k, rfl, o, mo, h1, h2, h3⟩
      · rintro ⟨k', e1, o, mo, h1, h2, h3⟩; cases e1; exact ⟨o, h1, mo, h2, h3⟩
    | _ => exact op_no (fun h => OP_bad.mp h) (fun h => by obtain ⟨_, e, _⟩ := OP_ok.mp h; cases e)
/-- what a new thing is as a value -/
def frnP (k n : Nat) (s1 : S) (e : List (Option D)) (P : D × S → Prop) : Prop := n ≤ k ∧ (match s1.m[k]? with
  | some (.lst xs) => P (.lst xs, ⟨e, s1.m.set k .dead⟩)
  | some (.dct es) => kindOk es (.int 0) = true ∧ P (.dct es, ⟨e, s1.m.set k .dead⟩)
  | _ => False)
theorem frn_iff {k : Nat} {t : List MO} {e : List (Option D)} : OP (match t[k]? with
      | some (.lst xs) => Out.ok (D.lst xs, (⟨e, t.set k .dead⟩ : S))
      | some (.dct es) => do gd (kindOk es (.int 0)); .ok (.dct es, ⟨e, t.set k .dead⟩)
      | _ => .bad : Out (D × S)) P ↔ (match t[k]? with
      | some (.lst xs) => P (.lst xs, ⟨e, t.set k .dead⟩)
      | some (.dct es) => kindOk es (.int 0) = true ∧ P (.dct es, ⟨e, t.set k .dead⟩)
      | _ => False) := by
  generalize t[k]? = o
  cases o with
  | none => exact OP_bad
  | some o =>
    cases o with
    | lst xs => exact OP_ok
    | dct es => simp only [OP_bind, OP_gd, OP_ok]
    | _ => exact OP_bad
theorem r_frn : OP (evE w (.frn a) s) P ↔ OP (evE w a s) (fun p => ∃ k, p.1 = .ref k ∧ frnP k s.m.length p.2 s.e P) := by
  simp only [evE, OP_bind]
  constructor <;> intro h <;> refine h.mono fun p hp => ?_
  · obtain ⟨x, t⟩ := p
    cases x with
    | ref k =>
      simp only [OP_bind, OP_gd, decide_eq_true_eq] at hp
      exact ⟨k, rfl, hp.1, frn_iff.mp hp.2⟩
    | _ => exact (OP_bad.mp hp).elim
  · obtain ⟨k, e, h1, h2⟩ := hp
    rw [e]
    simp only [OP_bind, OP_gd, decide_eq_true_eq]
    exact ⟨h1, frn_iff.mpr h2⟩
theorem r_ds1 : OP (evE w (.ds1 a b) s) P ↔ OP (evE w a ⟨s.e, s.m ++ [.dct []]⟩) (fun p => OP (evE w b p.2) (fun q => (keyT p.1 = true ∧ q.2.m[s.m.length]? = some (.dct [])) ∧ P (.ref s.m.length, ⟨q.2.e, q.2.m.set s.m.length (.dct [.tup [p.1, q.1]])⟩))) := by
  simp only [evE, OP_bind, OP_gd, OP_ok, Bool.and_eq_true, decide_eq_true_eq]
theorem r_dsp0 : OP (evE w (.dsp .nil) s) P ↔ P (.dct [], s) := by simp only [evE, nilEs, if_true, OP_ok]
theorem r_sub : OP (evE w (.sub a b) s) P ↔ OP (evE w a s) (fun p => OP (evE w b p.2) (fun q => OP (subF w p.1 q.1 q.2) P)) := by simp only [evE, OP_bind]
theorem r_slc {lo hi : Exo} : OP (evE w (.slc a lo hi) s) P ↔ OP (evE w a s) (fun p => OP (evO w lo p.2) (fun q => OP (evO w hi q.2) (fun r => OP (slcD r.2.m p.1 q.1 r.1) (fun z => P (z, r.2))))) := by simp only [evE, OP_bind, OP_ok]
theorem r_rev : OP (evE w (.rev a) s) P ↔ OP (evE w a s) (fun p => OP (revD p.2.m p.1) (fun z => P (z, p.2))) := by simp only [evE, OP_bind, OP_ok]
theorem r_fld {f : Nat} : OP (evE w (.fld a f) s) P ↔ OP (evE w a s) (fun p => OP (fldD p.2.m p.1 f) (fun z => P (z, p.2))) := by simp only [evE, OP_bind, OP_ok]
theorem r_prp {f : Nat} : OP (evE w (.prp a f) s) P ↔ OP (evE w a s) (fun p => OP (callM w p.1 f [] p.2) P) := by simp only [evE, OP_bind, OP_noX]
theorem r_kcn {f : Nat} : OP (evE w (.kcn a f) s) P ↔ OP (evE w a s) (fun p => ∃ cl, clsOf p.2.m p.1 = some cl ∧ ∃ d, w.kcon cl f = some d ∧ P (d, p.2)) := by
  simp only [evE, OP_bind]
  constructor <;> intro h <;> refine h.mono fun p hp => ?_
  · cases e : clsOf p.2.m p.1 with
    | none => rw [e] at hp; exact (OP_bad.mp hp).elim
    | some cl =>
      rw [e] at hp
      obtain ⟨d, e2, h2⟩ := OP_opt.mp (OP_bind.mp hp)
      exact ⟨cl, rfl, d, e2, OP_ok.mp h2⟩
  · obtain ⟨cl, e, d, e2, h2⟩ := hp
    rw [e]
    exact OP_bind.mpr (OP_opt.mpr ⟨d, e2, OP_ok.mpr h2⟩)
theorem r_cal {f : Nat} : OP (evE w (.cal f es) s) P ↔ OP (evEs w es s) (fun p => OP (w.call f p.1 p.2.m) (fun q => P (q.1, ⟨p.2.e, q.2⟩))) := by simp only [evE, OP_bind, OP_inS]
theorem r_mth {f : Nat} : OP (evE w (.mth a f es) s) P ↔ OP (evE w a s) (fun p => ∃ cl, clsOf p.2.m p.1 = some cl ∧ ∃ g, w.meth cl f = some g ∧ OP (evEs w es p.2) (fun q => OP (w.call g (p.1 :: q.1) q.2.m) (fun r => P (r.1, ⟨q.2.e, r.2⟩)))) := by
  simp only [evE, OP_bind]
  constructor <;> intro h <;> refine h.mono fun p hp => ?_
  · cases e : clsOf p.2.m p.1 with
    | none => rw [e] at hp; exact (OP_bad.mp hp).elim
    | some cl =>
      rw [e] at hp
      dsimp only at hp
      cases e2 : w.meth cl f with
      | none => rw [e2] at hp; exact (OP_bad.mp hp).elim
      | some g =>
        rw [e2] at hp
        simp only [OP_bind, OP_inS] at hp
        exact ⟨cl, rfl, g, e2, hp⟩
  · obtain ⟨cl, e, g, e2, h2⟩ := hp
    rw [e]
    dsimp only
    rw [e2]
    simp only [OP_bind, OP_inS]
    exact h2
theorem r_smt {f cl : Nat} : OP (evE w (.smt f cl es) s) P ↔ OP (evEs w es s) (fun p => OP (w.call f p.1 p.2.m) (fun q => P (q.1, ⟨p.2.e, q.2⟩))) := by simp only [evE, OP_bind, OP_inS]
theorem r_ctr {f : Nat} : OP (evE w (.ctr f es) s) P ↔ OP (evEs w es s) (fun p => OP (makeD w f p.1 p.2) P) := by simp only [evE, OP_bind]
theorem r_ctv {f : Nat} : OP (evE w (.ctv k f es) s) P ↔ s.e[k]? = some (some (.cls f)) ∧ OP (evEs w es s) (fun p => OP (makeD w f p.1 p.2) P) := by simp only [evE, OP_bind, OP_gd, decide_eq_true_eq]
theorem r_app : OP (evE w (.app a es) s) P ↔ OP (evE w a s) (fun p => isOwn p.2.m p.1 = true ∧ OP (evEs w es p.2) (fun q => OP (callM w p.1 0 q.1 q.2) P)) := by simp only [evE, OP_bind, OP_gd]
theorem r_bif {f : Bi} : OP (evE w (.bif f es) s) P ↔ OP (evEs w es s) (fun p => OP (bifF w f p.1 p.2) P) := by simp only [evE, OP_bind]
theorem r_bmt {f : Bm} : OP (evE w (.bmt f a es) s) P ↔ OP (evE w a s) (fun p => kindM p.2.m f p.1 = true ∧ OP (evEs w es p.2) (fun q => OP (bmD q.2.m f p.1 q.1) (fun r => P (r.1, ⟨q.2.e, r.2⟩)))) := by simp only [evE, OP_bind, OP_gd, OP_ok]
theorem r_isi {t : Ty} : OP (evE w (.isi a t) s) P ↔ OP (evE w a s) (fun p => OP (isiD p.2.m p.1 t) (fun k => P (.bl k, p.2))) := by simp only [evE, OP_bind, OP_ok]
theorem r_fst : OP (evE w (.fst a) s) P ↔ OP (evE w a s) (fun p => ∃ i, p.1 = .int i ∧ i.natAbs < 2 ^ 1900 ∧ P (.str (Str.ofString "near:" ++ strOfInt i), p.2)) := by
  simp only [evE, OP_bind]
  constructor <;> intro h <;> refine h.mono fun p hp => ?_
  · obtain ⟨x, s⟩ := p
    cases x with
    | int i =>
      simp only [OP_bind, OP_gd, OP_ok, decide_eq_true_eq] at hp
      exact ⟨i, rfl, hp⟩
    | _ => exact (OP_bad.mp hp).elim
  · obtain ⟨i, e, h1, h2⟩ := hp
    rw [e]
    simp only [OP_bind, OP_gd, OP_ok, decide_eq_true_eq]
    exact ⟨h1, h2⟩
theorem rs_nil : OP (evEs w .nil s) R ↔ R ([], s) := by simp only [evEs, OP_ok]
theorem rs_cons : OP (evEs w (.cons a es) s) R ↔ OP (evE w a s) (fun p => OP (evEs w es p.2) (fun q => R (p.1 :: q.1, q.2))) := by simp only [evEs, OP_bind, OP_ok]
theorem rs_star : OP (evEs w (.star a es) s) R ↔ OP (evE w a s) (fun p => ∃ ys, seqOf p.2.m p.1 = some ys ∧ OP (evEs w es p.2) (fun q => R (ys ++ q.1, q.2))) := by simp only [evEs, OP_bind, OP_opt, OP_ok]
theorem ro_none {R : Option Int × S → Prop} : OP (evO w .none s) R ↔ R (none, s) := by simp only [evO, OP_ok]
theorem ro_some {R : Option Int × S → Prop} : OP (evO w (.some a) s) R ↔ OP (evE w a s) (fun p => ∃ i, p.1 = .int i ∧ R (some i, p.2)) := by
  simp only [evO, OP_bind]
  constructor <;> intro h <;> refine h.mono fun p hp => ?_
  · obtain ⟨x, s⟩ := p
    cases x with
    | int i =>
      simp only [prt, OP_ok] at hp
      exact ⟨i, rfl, hp⟩
    | _ => exact (OP_bad.mp hp).elim
  · obtain ⟨i, e, h2⟩ := hp
    rw [e]
    simp only [prt, OP_ok]
    exact h2
theorem ra_nil {R : Bool × S → Prop} : OP (evA w .nil s) R ↔ R (true, s) := by simp only [evA, OP_ok]
theorem ra_cons {R : Bool × S → Prop} : OP (evA w (.cons a es) s) R ↔ OP (evE w a s) (fun p => ∃ k, p.1 = .bl k ∧ (if k = true then OP (evA w es p.2) R else R (false, p.2))) := by simp only [evA, OP_bind, asB_iff, cif, OP_ok]
theorem ri_val : OP (evI w (.val a) s) R ↔ OP (evE w a s) (fun p => ∃ xs, walkD p.1 = some xs ∧ R (xs, p.2)) := by simp only [evI, OP_bind, OP_opt, OP_ok]
theorem ri_enm : OP (evI w (.enm a) s) R ↔ OP (evE w a s) (fun p => ∃ xs, seqV p.1 = some xs ∧ R (enumL 0 xs, p.2)) := by simp only [evI, OP_bind, OP_opt, OP_ok]
theorem ri_zip : OP (evI w (.zip a b) s) R ↔ OP (evE w a s) (fun p => OP (evE w b p.2) (fun q => ∃ xs, zipD p.1 q.1 = some xs ∧ R (xs, q.2))) := by simp only [evI, OP_bind, OP_opt, OP_ok]
theorem ri_rng : OP (evI w (.rng es) s) R ↔ OP (evEs w es s) (fun p => OP (rngD p.1) (fun xs => R (xs, p.2))) := by simp only [evI, OP_bind, OP_ok]
theorem ri_itm : OP (evI w (.itm a) s) R ↔ OP (evE w a s) (fun p => ∃ xs, lkI p.2.m p.1 = some xs ∧ R (xs, p.2)) := by simp only [evI, OP_bind, OP_opt, OP_ok]
theorem ri_itf : OP (evI w (.itf a) s) R ↔ OP (evE w a s) (fun p => ∃ xs, dctV p.1 = some xs ∧ kindOk xs (.int 0) = true ∧ R (xs, p.2)) := by simp only [evI, OP_bind, OP_opt, OP_ok, OP_gd]
theorem ri_lkv : OP (evI w (.lkv a) s) R ↔ OP (evE w a s) (fun p => ∃ xs, lkV p.2.m p.1 = some xs ∧ R (xs, p.2)) := by simp only [evI, OP_bind, OP_opt, OP_ok]
theorem rg_nm {R : S → Prop} : OP (asg w (.name k) x s) R ↔ R ⟨s.e.set k (some x), s.m⟩ := by simp only [asg, OP_ok]
theorem rg_tp {R : S → Prop} {ts : Tgs} : OP (asg w (.tup ts) x s) R ↔ ∃ xs, seqOf s.m x = some xs ∧ xs.length = tgN ts ∧ OP (asgs w ts xs s) R := by simp only [asg, OP_bind, OP_opt, OP_gd, decide_eq_true_eq]
theorem rg_sb {R : S → Prop} : OP (asg w (.sub a b) x s) R ↔ OP (evE w a s) (fun p => OP (evE w b p.2) (fun q => OP (putD q.2.m p.1 q.1 x) (fun m => R ⟨q.2.e, m⟩))) := by simp only [asg, OP_bind, OP_ok]
theorem rg_at {R : S → Prop} {f : Nat} : OP (asg w (.att a f) x s) R ↔ OP (evE w a s) (fun p => ∃ k, p.1 = .ref k ∧ ∃ c fs, p.2.m[k]? = some (.obj c fs) ∧ hasF c f = true ∧ fs.length < 16 ∧ R ⟨p.2.e, p.2.m.set k (.obj c (fput fs f x))⟩) := by
  simp only [asg, OP_bind]
  constructor <;> intro h <;> refine h.mono fun p hp => ?_
  · obtain ⟨d, s⟩ := p
    cases d with
    | ref k =>
      dsimp only at hp
      cases e : s.m[k]? with
      | none => rw [e] at hp; exact (OP_bad.mp hp).elim
      | some o =>
        rw [e] at hp
        cases o with
        | obj c fs =>
          simp only [OP_bind, OP_gd, OP_ok, Bool.and_eq_true, decide_eq_true_eq] at hp
          exact ⟨k, rfl, c, fs, e, hp.1.1, hp.1.2, hp.2⟩
        | _ => exact (OP_bad.mp hp).elim
    | _ => exact (OP_bad.mp hp).elim
  · obtain ⟨k, e, c, fs, e2, h1, h2, h3⟩ := hp
    rw [e]
    dsimp only
    rw [e2]
    simp only [OP_bind, OP_gd, OP_ok, Bool.and_eq_true, decide_eq_true_eq]
    exact ⟨⟨h1, h2⟩, h3⟩
theorem rgs_nil {R : S → Prop} : OP (asgs w .nil [] s) R ↔ R s := by simp only [asgs, OP_ok]
theorem rgs_cons {R : S → Prop} {t : Tg} {ts : Tgs} {xs : List D} : OP (asgs w (.cons t ts) (x :: xs) s) R ↔ OP (asg w t x s) (fun s => OP (asgs w ts xs s) R) := by simp only [asgs, OP_bind]
end
section
variable {w : W} {s : S} {P : Ctl × S → Prop} {a b c : Ex} {es : Exs} {x : Option (Nat × D)} {k : Nat} {u v r : List Sm}
/-- a statement, then the rest -/
def NxP (w : W) (x : Option (Nat × D)) (r : List Sm) (P : Ctl × S → Prop) : Ctl × S → Prop := fun p => match p.1 with | .nx => OP (exSs w x r p.2) P | c => P (c, p.2)
theorem nx_nx : NxP w x r P (.nx, s) ↔ OP (exSs w x r s) P := Iff.rfl
theorem nx_ret {d : D} : NxP w x r P (.ret d, s) ↔ P (.ret d, s) := Iff.rfl
theorem t_nil : OP (exSs w x [] s) P ↔ P (.nx, s) := OP_nil
theorem nx_nil : NxP w x [] P = P := by
  funext p
  obtain ⟨c, s⟩ := p
  cases c <;> first | exact propext OP_nil | rfl
theorem t_cons {q : Sm} : OP (exSs w x (q :: r) s) P ↔ OP (exS w x q s) (NxP w x r P) := OP_cons
theorem t_asg {t : Tg} : OP (exSs w x (.asg t a :: r) s) P ↔ OP (evE w a s) (fun p => OP (asg w t p.1 p.2) (fun s => OP (exSs w x r s) P)) := by simp only [t_cons, exS, OP_bind, OP_ok, nx_nx, nx_ret]
theorem t_par {ts : Tgs} : OP (exSs w x (.par ts es :: r) s) P ↔ OP (evEs w es s) (fun p => OP (asgs w ts p.1 p.2) (fun s => OP (exSs w x r s) P)) := by simp only [t_cons, exS, OP_bind, OP_ok, nx_nx, nx_ret]
theorem t_aug {op : Operator} : OP (exSs w x (.aug k op a :: r) s) P ↔ ∃ d, s.e[k]? = some (some d) ∧ OP (evE w a s) (fun p => OP (augD op d p.1) (fun z => OP (exSs w x r ⟨p.2.e.set k (some z), p.2.m⟩) P)) := by
  rw [t_cons]
  simp only [exS]
  split
  · rename_i d h
    simp only [OP_bind, OP_ok, h, Option.some.injEq, exists_eq_left', nx_nx]
  · rename_i h
    rw [OP_bad]
    constructor
    · exact False.elim
    · rintro ⟨d, h1, _⟩; exact (h d h1).elim
theorem t_exp : OP (exSs w x (.exp a :: r) s) P ↔ OP (evE w a s) (fun p => OP (exSs w x r p.2) P) := by simp only [t_cons, exS, OP_bind, OP_ok, nx_nx, nx_ret]
theorem ss_app : ∀ (u r : List Sm) {s : S} {P : Ctl × S → Prop}, OP (exSs w x (u ++ r) s) P ↔ OP (exSs w x u s) (NxP w x r P)
  | [], r, s, P => by rw [OP_nil]; rfl
  | a :: u, r, s, P => by
    rw [List.cons_append, t_cons, t_cons]
    have e : NxP w x (u ++ r) P = NxP w x u (NxP w x r P) := by
      funext p
      obtain ⟨c, s⟩ := p
      cases c <;> first | exact propext (ss_app u r) | rfl
    rw [e]
/-- a branch, then the rest: the rest behind both -/
theorem t_ifs : OP (exSs w x (.ifs a u v :: r) s) P ↔ OP (evE w a s) (fun p => ∃ k, p.1 = .bl k ∧ (if k = true then OP (exSs w x (u ++ r) p.2) P else OP (exSs w x (v ++ r) p.2) P)) := by
  rw [t_cons]
  simp only [exS, OP_bind, asB_iff, cif, ss_app]
theorem t_ret : OP (exSs w x (.ret a :: r) s) P ↔ OP (evE w a s) (fun p => P (.ret p.1, p.2)) := by simp only [t_cons, exS, OP_bind, OP_ok, nx_nx, nx_ret]
theorem t_pas : OP (exSs w x (.pas :: r) s) P ↔ OP (exSs w x r s) P := by simp only [OP_cons, exS, OP_ok]
/-- a loop's body -/
def forF (w : W) (x : Option (Nat × D)) (t : Tg) (u : List Sm) : D → S → Out (Ctl × S) := fun d s => do
  let s ← asg w t d s
  exSs w x u s
theorem t_for {t : Tg} {it : It} : OP (exSs w x (.for t it u :: r) s) P ↔ OP (evI w it s) (fun p => OP (forL (forF w x t u) p.1 p.2) (NxP w x r P)) := by
  rw [t_cons]
  simp only [exS, OP_bind]
  exact Iff.rfl
def whlC (w : W) (c : Ex) : S → Out (Bool × S) := fun s => do
  let (d, s) ← evE w c s
  let k ← asBool d
  .ok (k, s)
theorem t_lok {b : Sm} : OP (exSs w x (.lok a b :: r) s) P ↔ OP (evE w a s) (fun p => ∃ k, p.1 = .ref k ∧ ∃ o mo, s.m[k]? = some o ∧ lckM o = some mo ∧ OP (exSs w x [b] ⟨s.e, s.m.set k mo⟩) (fun q => q.2.m[k]? = some mo ∧ NxP w x r P (q.1, ⟨q.2.e, q.2.m.set k o⟩))) := by
  rw [t_cons]
  simp only [exS]
  cases h : evE w a s with
  | bad => exact op_no (fun h => OP_bad.mp h) (fun h => OP_bad.mp h)
  | exc c d t => exact op_no (fun h => by obtain ⟨_, e, _⟩ := h; cases e) (fun h => by obtain ⟨_, e, _⟩ := h; cases e)
  | ok p =>
    obtain ⟨y, t⟩ := p
    cases y with
    | ref k =>
      have e1 : ∀ (s : S) (Q : Ctl × S → Prop), OP (exSs w x [b] s) Q ↔ OP (exS w x b s) Q := fun s Q => by rw [t_cons, nx_nil]
      simp only [OP_bind, OP_opt, OP_gd, OP_ok, decide_eq_true_eq, OP_noX, e1]
      constructor
      · rintro ⟨o, h1, mo, h2, h3⟩; exact ⟨k, rfl, o, mo, h1, h2, h3⟩
      · rintro ⟨k', e1, o, mo, h1, h2, h3⟩; cases e1; exact ⟨o, h1, mo, h2, h3⟩
    | _ => exact op_no (fun h => OP_bad.mp h) (fun h => by obtain ⟨_, e, _⟩ := OP_ok.mp h; cases e)
theorem t_whl : OP (exSs w x (.whl a u :: r) s) P ↔ OP (whlL (whlC w a) (fun s => exSs w x u s) w.fuel s) (NxP w x r P) := by
  rw [t_cons]
  simp only [exS]
  exact Iff.rfl
end
section
variable {m : List MO} {P : D × List MO → Prop} {d : D} {e : List (Option D)} {t : List MO}
theorem lv_iff : LeaveP m P (.ret d, ⟨e, t⟩) ↔ exOk m.length m t = true ∧ cloD m.length d = true ∧ P (d, t.take m.length) := Iff.rfl
theorem lv_iffN : LeaveP m P (.nx, ⟨e, t⟩) ↔ exOk m.length m t = true ∧ P (.non, t.take m.length) := Iff.rfl
theorem lvR : LeaveP m P (.ret d, ⟨e, m⟩) ↔ cloD m.length d = true ∧ P (d, m) := by simp [lv_iff, exOk_refl]
theorem lvT : LeaveP m P (.ret d, ⟨e, m ++ t⟩) ↔ cloD m.length d = true ∧ P (d, m) := by simp [lv_iff, exOk_app]
theorem lvN : LeaveP m P (.nx, ⟨e, m⟩) ↔ P (.non, m) := by simp [lv_iffN, exOk_refl]
theorem lvNT : LeaveP m P (.nx, ⟨e, m ++ t⟩) ↔ P (.non, m) := by simp [lv_iffN, exOk_app]
theorem kpR : KeepP P (.ret d, ⟨e, t⟩) ↔ P (d, t) := Iff.rfl
theorem kpN : KeepP P (.nx, ⟨e, t⟩) ↔ P (.non, t) := Iff.rfl
end
end SV
set_option linter.all false
set_option Elab.async false
set_option maxHeartbeats 4000000
namespace SV
open PySem
/-- what is known in e stands in e' -/
def ELe (e e' : List (Option D)) : Prop := e.length = e'.length ∧ ∀ (i : Nat) (d : D), e[i]? = some (some d) → e'[i]? = some (some d)
def SLe (s s' : S) : Prop := s.m = s'.m ∧ ELe s.e s'.e
def OLe {α : Type} (R : α → α → Prop) : Out α → Out α → Prop
  | .ok a, o => ∃ a', o = .ok a' ∧ R a a'
  | .exc c d s, o => ∃ s', o = .exc c d s' ∧ SLe s s'
  | .bad, _ => True
def PLe {α : Type} (p p' : α × S) : Prop := p.1 = p'.1 ∧ SLe p.2 p'.2
theorem ELe.refl (e : List (Option D)) : ELe e e := ⟨rfl, fun _ _ h => h⟩
theorem ELe.trans {a b c : List (Option D)} (h : ELe a b) (k : ELe b c) : ELe a c := ⟨h.1.trans k.1, fun i d q => k.2 i d (h.2 i d q)⟩
theorem SLe.refl (s : S) : SLe s s := ⟨rfl, ELe.refl _⟩
theorem SLe.trans {a b c : S} (h : SLe a b) (k : SLe b c) : SLe a c := ⟨h.1.trans k.1, h.2.trans k.2⟩
theorem ele_nil : ELe [] [] ↔ True := ⟨fun _ => trivial, fun _ => ELe.refl _⟩
theorem ele_none {r t : List (Option D)} {b : Option D} : ELe (none :: r) (b :: t) ↔ ELe r t := by
  constructor
  · intro h
    exact ⟨by have := h.1; simpa using this, fun i d q => by have := h.2 (i + 1) d (by simpa using q); simpa using this⟩
  · intro h
    refine ⟨by simp [h.1], fun i d q => ?_⟩
    cases i with
    | zero => simp at q
    | succ i => have := h.2 i d (by simpa using q); simpa using this
theorem ele_some {r t : List (Option D)} {a : D} {b : Option D} : ELe (some a :: r) (b :: t) ↔ b = some a ∧ ELe r t := by
  constructor
  · intro h
    have h0 := h.2 0 a rfl
    exact ⟨by simpa using h0, by have := h.1; simpa using this, fun i d q => by have := h.2 (i + 1) d (by simpa using q); simpa using this⟩
  · rintro ⟨rfl, h⟩
    refine ⟨by simp [h.1], fun i d q => ?_⟩
    cases i with
    | zero => simpa using q
    | succ i => have := h.2 i d (by simpa using q); simpa using this
theorem sle_iff {e e' : List (Option D)} {m m' : List MO} : SLe ⟨e, m⟩ ⟨e', m'⟩ ↔ m = m' ∧ ELe e e' := Iff.rfl
section
variable {α β : Type} {R : α → α → Prop} {R' : β → β → Prop}
theorem OLe.ok {a a' : α} (h : R a a') : OLe R (.ok a) (.ok a') := ⟨a', rfl, h⟩
theorem OLe.bad {o : Out α} : OLe R .bad o := trivial
theorem OLe.bind {o o' : Out α} {f f' : α → Out β} (h : OLe R o o') (k : ∀ a a', R a a' → OLe R' (f a) (f' a')) : OLe R' (o >>= f) (o' >>= f') := by
  cases o with
  | ok a => obtain ⟨a', rfl, r⟩ := h; exact k a a' r
  | exc c d s => obtain ⟨s', rfl, r⟩ := h; exact ⟨s', rfl, r⟩
  | bad => trivial
theorem OLe.self (hr : ∀ a, R a a) (o : Out α) : OLe R o o := by
  cases o with
  | ok a => exact ⟨a, rfl, hr a⟩
  | exc c d s => exact ⟨s, rfl, SLe.refl s⟩
  | bad => trivial
/-- the same question, then what hangs on the state -/
theorem OLe.bindE {o : Out α} {f f' : α → Out β} (k : ∀ a, OLe R' (f a) (f' a)) : OLe R' (o >>= f) (o >>= f') :=
  OLe.bind (R := fun a a' => a = a') (OLe.self (fun _ => rfl) o) fun a a' e => e ▸ k a
theorem OLe.noX {o o' : Out α} (h : OLe R o o') : OLe R (noX o) (noX o') := by
  cases o with
  | ok a => obtain ⟨a', rfl, r⟩ := h; exact ⟨a', rfl, r⟩
  | exc c d s => trivial
  | bad => trivial
theorem OLe.inS {s s' : S} (h : SLe s s') (o : Out (α × List MO)) : OLe PLe (SV.inS s o) (SV.inS s' o) := by
  cases o with
  | ok p => exact ⟨_, rfl, rfl, rfl, h.2⟩
  | exc c d t => exact ⟨_, rfl, rfl, h.2⟩
  | bad => trivial
theorem OLe.OP {o o' : Out α} {P Q : α → Prop} (h : OLe R o o') (q : OP o P) (k : ∀ a a', R a a' → P a → Q a') : OP o' Q := by
  obtain ⟨a, rfl, p⟩ := q
  obtain ⟨a', rfl, r⟩ := h
  exact ⟨a', rfl, k a a' r p⟩
end
theorem ELe.get {e e' : List (Option D)} (h : ELe e e') {i : Nat} {d : D} (q : e[i]? = some (some d)) : e'[i]? = some (some d) := h.2 i d q
theorem ELe.set {e e' : List (Option D)} (h : ELe e e') (i : Nat) (v : Option D) : ELe (e.set i v) (e'.set i v) := by
  refine ⟨by simp [h.1], fun j d q => ?_⟩
  rw [List.getElem?_set] at q ⊢
  by_cases hj : i = j
  · subst hj
    rw [if_pos rfl] at q ⊢
    by_cases hl : i < e.length
    · rw [if_pos hl] at q; rw [if_pos (h.1 ▸ hl)]; exact q
    · rw [if_neg hl] at q; cases q
  · rw [if_neg hj] at q ⊢
    exact h.2 j d q
theorem ELe.setn {e e' : List (Option D)} (h : ELe e e') (i : Nat) (v v' : Option D) (hv : ∀ d, v = some d → v' = some d) : ELe (e.set i v) (e'.set i v') := by
  refine ⟨by simp [h.1], fun j d q => ?_⟩
  rw [List.getElem?_set] at q ⊢
  by_cases hj : i = j
  · subst hj
    rw [if_pos rfl] at q ⊢
    by_cases hl : i < e.length
    · rw [if_pos hl] at q; rw [if_pos (h.1 ▸ hl)]; cases q; rw [hv d rfl]
    · rw [if_neg hl] at q; cases q
  · rw [if_neg hj] at q ⊢
    exact h.2 j d q
theorem ELe.map {e e' : List (Option D)} (h : ELe e e') (f : D → D) (g : Option D → Option D) (hg : ∀ d, g (some d) = some (f d)) (hn : g none = none) : ELe (e.map g) (e'.map g) := by
  refine ⟨by simp [h.1], fun j d q => ?_⟩
  rw [List.getElem?_map] at q ⊢
  cases e1 : e[j]? with
  | none => rw [e1] at q; cases q
  | some o =>
    rw [e1] at q
    cases o with
    | none => simp [hn] at q
    | some x => rw [h.2 j x e1]; exact q
theorem SLe.set {s s' : S} (h : SLe s s') (i : Nat) (v : Option D) : SLe ⟨s.e.set i v, s.m⟩ ⟨s'.e.set i v, s'.m⟩ := ⟨h.1, h.2.set i v⟩
theorem SLe.mem {s s' : S} (h : SLe s s') (m : List MO) : SLe ⟨s.e, m⟩ ⟨s'.e, m⟩ := ⟨rfl, h.2⟩
theorem SLe.fz {s s' : S} (h : SLe s s') (d : D) : PLe (fzS s d) (fzS s' d) := by
  obtain ⟨e, m⟩ := s
  obtain ⟨e', m'⟩ := s'
  obtain ⟨h1, h2⟩ := h
  dsimp only at h1 h2
  subst h1
  unfold fzS
  dsimp only
  rcases fzM m d with ⟨d', m2, b⟩
  cases b with
  | true =>
    refine ⟨rfl, rfl, h2.map (fun x => if x = d then d' else x) _ (fun x => ?_) ?_⟩
    · by_cases hx : x = d <;> simp [hx]
    · simp
  | false => exact ⟨rfl, rfl, h2⟩
theorem SLe.wipe {s s' : S} (own : List Nat) (h : SLe s s') : SLe (wipeS own s) (wipeS own s') := by
  refine ⟨h.1, ?_⟩
  have key : ∀ (own : List Nat) (e e' : List (Option D)), ELe e e' → ELe (own.foldl (fun e i => e.set i none) e) (own.foldl (fun e i => e.set i none) e') := by
    intro own
    induction own with
    | nil => intro e e' h; exact h
    | cons a r ih => intro e e' h; exact ih _ _ (h.set a none)
  exact key own _ _ h.2
theorem SLe.back {s s' t t' : S} (own : List Nat) (h0 : SLe t t') (h : SLe s s') : SLe (backS own t s) (backS own t' s') := by
  refine ⟨h.1, ?_⟩
  have key : ∀ (own : List Nat) (e e' : List (Option D)), ELe e e' → ELe (own.foldl (fun e i => e.set i ((t.e[i]?).getD none)) e) (own.foldl (fun e i => e.set i ((t'.e[i]?).getD none)) e') := by
    intro own
    induction own with
    | nil => intro e e' h; exact h
    | cons a r ih =>
      intro e e' h
      refine ih _ _ (h.setn a _ _ fun d q => ?_)
      cases e1 : t.e[a]? with
      | none => rw [e1] at q; cases q
      | some o =>
        rw [e1] at q
        have q : o = some d := q
        subst q
        rw [h0.2.2 a d e1]; rfl
  exact key own _ _ h.2
section
variable {s s' : S}
theorem forL_mono {f f' : D → S → Out (Ctl × S)} (hf : ∀ x s s', SLe s s' → OLe PLe (f x s) (f' x s')) : ∀ (xs : List D) {s s' : S}, SLe s s' → OLe PLe (forL f xs s) (forL f' xs s')
  | [], s, s', h => ⟨_, rfl, rfl, h⟩
  | x :: xs, s, s', h => by
    have := hf x s s' h
    unfold forL
    cases e : f x s with
    | ok p =>
      rw [e] at this
      obtain ⟨⟨c', t'⟩, e2, h1, h2⟩ := this
      rw [e2]
      obtain ⟨c, t⟩ := p
      dsimp only at h1
      subst h1
      cases c with
      | nx => exact forL_mono hf xs h2
      | cnt => exact forL_mono hf xs h2
      | brk => exact ⟨_, rfl, rfl, h2⟩
      | ret d => exact ⟨_, rfl, rfl, h2⟩
    | exc c d t =>
      rw [e] at this
      obtain ⟨t', e2, h1⟩ := this
      rw [e2]
      exact ⟨_, rfl, h1⟩
    | bad => trivial
theorem lcL_mono {f f' : D → S → Out S} (hf : ∀ x s s', SLe s s' → OLe SLe (f x s) (f' x s')) : ∀ (xs : List D) {s s' : S}, SLe s s' → OLe SLe (lcL f xs s) (lcL f' xs s')
  | [], s, s', h => ⟨_, rfl, h⟩
  | x :: xs, s, s', h => by
    have := hf x s s' h
    unfold lcL
    cases e : f x s with
    | ok t =>
      rw [e] at this
      obtain ⟨t', e2, h2⟩ := this
      rw [e2]
      exact lcL_mono hf xs h2
    | exc c d t =>
      rw [e] at this
      obtain ⟨t', e2, h1⟩ := this
      rw [e2]
      exact ⟨_, rfl, h1⟩
    | bad => trivial
theorem whlL_mono {c c' : S → Out (Bool × S)} {f f' : S → Out (Ctl × S)} (hc : ∀ s s', SLe s s' → OLe PLe (c s) (c' s')) (hf : ∀ s s', SLe s s' → OLe PLe (f s) (f' s')) : ∀ (n : Nat) {s s' : S}, SLe s s' → OLe PLe (whlL c f n s) (whlL c' f' n s')
  | 0, s, s', h => trivial
  | n + 1, s, s', h => by
    have := hc s s' h
    unfold whlL
    cases e : c s with
    | ok p =>
      rw [e] at this
      obtain ⟨⟨b', t'⟩, e2, h1, h2⟩ := this
      rw [e2]
      obtain ⟨b, t⟩ := p
      dsimp only at h1
      subst h1
      cases b with
      | false => exact ⟨_, rfl, rfl, h2⟩
      | true =>
        have := hf t t' h2
        dsimp only
        cases e3 : f t with
        | ok p =>
          rw [e3] at this
          obtain ⟨⟨c', t2'⟩, e4, h3, h4⟩ := this
          rw [e4]
          obtain ⟨c, t2⟩ := p
          dsimp only at h3
          subst h3
          cases c with
          | nx => exact whlL_mono hc hf n h4
          | cnt => exact whlL_mono hc hf n h4
          | brk => exact ⟨_, rfl, rfl, h4⟩
          | ret d => exact ⟨_, rfl, rfl, h4⟩
        | exc c d t =>
          rw [e3] at this
          obtain ⟨t', e2, h1⟩ := this
          rw [e2]
          exact ⟨_, rfl, h1⟩
        | bad => trivial
    | exc c d t =>
      rw [e] at this
      obtain ⟨t', e2, h1⟩ := this
      rw [e2]
      exact ⟨_, rfl, h1⟩
    | bad => trivial
theorem addM_mono (k : Nat) (y : D) (h : SLe s s') : OLe SLe (addM k y s) (addM k y s') := by
  unfold addM
  rw [← h.1]
  split
  · exact OLe.bindE fun _ => OLe.ok (h.mem _)
  · trivial
theorem putM_mono (k : Nat) (a b : D) (h : SLe s s') : OLe SLe (putM k a b s) (putM k a b s') := by
  unfold putM
  rw [← h.1]
  split
  · exact OLe.bindE fun _ => OLe.ok (h.mem _)
  · trivial
end
/-- lambdas, too -/
def CloM (w : W) : Prop := ∀ k s s', SLe s s' → OLe PLe (w.clo k s) (w.clo k s')
section
variable {w : W} {s s' : S}
theorem callM_mono (o : D) (k : Nat) (xs : List D) (h : SLe s s') : OLe PLe (callM w o k xs s) (callM w o k xs s') := by
  unfold callM
  rw [← h.1]
  split
  · split
    · exact OLe.inS h _
    · trivial
  · trivial
theorem makeD_mono (c : Nat) (xs : List D) (h : SLe s s') : OLe PLe (makeD w c xs s) (makeD w c xs s') := by
  obtain ⟨e, m⟩ := s
  obtain ⟨e', m'⟩ := s'
  obtain ⟨h1, h2⟩ := h
  dsimp only at h1 h2
  subst h1
  unfold makeD
  cases hi : w.init c with
  | none => trivial
  | some f =>
    dsimp only
    cases hcal : w.call f (.ref m.length :: xs) (m ++ [.obj c []]) with
    | bad => trivial
    | exc ec d t =>
      simp only [SV.inS]
      split
      · exact ⟨_, rfl, rfl, h2⟩
      · trivial
    | ok p =>
      obtain ⟨d, m2⟩ := p
      simp only [SV.inS]
      cases d with
      | non =>
        dsimp only
        split
        · exact ⟨_, rfl, rfl, rfl, h2⟩
        · split
          · split
            · exact ⟨_, rfl, rfl, rfl, h2⟩
            · trivial
          · trivial
      | _ => trivial
theorem errO_mono (hw : CloM w) (x : D) (h : SLe s s') : OLe PLe (errO w x s) (errO w x s') := by
  unfold errO
  split
  · rename_i k
    have := hw k s s' h
    cases e : w.clo k s with
    | ok p =>
      rw [e] at this
      obtain ⟨p', e2, h1, h2⟩ := this
      rw [e2]
      exact ⟨_, rfl, rfl, h2⟩
    | exc c d t =>
      rw [e] at this
      obtain ⟨t', e2, h1⟩ := this
      rw [e2]
      dsimp only
      split
      · exact ⟨_, rfl, rfl, ⟨h1.1, h.2⟩⟩
      · trivial
    | bad => trivial
  · trivial
theorem allO_mono (hw : CloM w) (y : D) : ∀ (xs : List D) {s s' : S}, SLe s s' → OLe PLe (allO w y xs s) (allO w y xs s')
  | [], s, s', h => ⟨_, rfl, rfl, h⟩
  | x :: r, s, s', h => by
    unfold allO
    refine OLe.bind (errO_mono hw x h) ?_
    rintro ⟨e, t⟩ ⟨e', t'⟩ ⟨h1, h2⟩
    dsimp only at h1 h2 ⊢
    subst h1
    refine OLe.bindE fun b => OLe.bind (allO_mono hw y r h2) ?_
    rintro ⟨c, t2⟩ ⟨c', t2'⟩ ⟨h3, h4⟩
    dsimp only at h3
    subst h3
    exact ⟨_, rfl, rfl, h4⟩
theorem binF_mono (op : Operator) (x y : D) (h : SLe s s') : OLe PLe (binF w op x y s) (binF w op x y s') := by
  unfold binF
  rw [← h.1]
  split
  · split
    · exact callM_mono _ _ _ h
    · trivial
  · exact OLe.bindE fun z => ⟨_, rfl, rfl, h⟩
theorem negF_mono (x : D) (h : SLe s s') : OLe PLe (negF w x s) (negF w x s') := by
  unfold negF
  split
  · exact ⟨_, rfl, rfl, h⟩
  · exact callM_mono _ _ _ h
theorem cmpF_mono (op : CmpOp) (x y : D) (h : SLe s s') : OLe PLe (cmpF w op x y s) (cmpF w op x y s') := by
  unfold cmpF
  rw [← h.1]
  split
  · trivial
  · exact OLe.bindE fun z => ⟨_, rfl, rfl, h⟩
theorem subF_mono (x y : D) (h : SLe s s') : OLe PLe (subF w x y s) (subF w x y s') := by
  unfold subF
  rw [← h.1]
  split
  · exact callM_mono _ _ _ h
  · exact OLe.bindE fun z => ⟨_, rfl, rfl, h⟩
theorem lenF_mono (x : D) (h : SLe s s') : OLe PLe (lenF w x s) (lenF w x s') := by
  unfold lenF
  rw [← h.1]
  split
  · refine OLe.bind (callM_mono _ _ _ h) ?_
    rintro ⟨z, t⟩ ⟨z', t'⟩ ⟨h1, h2⟩
    dsimp only at h1 h2 ⊢
    subst h1
    split
    · exact OLe.bindE fun _ => ⟨_, rfl, rfl, h2⟩
    · trivial
  · exact OLe.bindE fun z => ⟨_, rfl, rfl, h⟩
theorem bifF_mono (b : Bi) (xs : List D) (h : SLe s s') : OLe PLe (bifF w b xs s) (bifF w b xs s') := by
  unfold bifF
  split
  · exact lenF_mono _ h
  · rw [← h.1]
    exact OLe.bindE fun z => ⟨_, rfl, rfl, h⟩
end
end SV
set_option linter.all false
set_option Elab.async false
set_option maxHeartbeats 4000000
set_option exponentiation.threshold 4000
namespace SV
open PySem
/-- a value and a state, from like ones -/
theorem OLe.bindP {α β : Type} {R' : β → β → Prop} {o o' : Out (α × S)} {f f' : α × S → Out β} (h : OLe PLe o o') (k : ∀ (a : α) (s s' : S), SLe s s' → OLe R' (f (a, s)) (f' (a, s'))) : OLe R' (o >>= f) (o' >>= f') := by
  refine OLe.bind h ?_
  rintro ⟨a, s⟩ ⟨a', s'⟩ ⟨h1, h2⟩
  dsimp only at h1 h2
  subst h1
  exact k a s s' h2
theorem OLe.okP {α : Type} {a : α} {s s' : S} (h : SLe s s') : OLe PLe (.ok (a, s)) (.ok (a, s')) := ⟨_, rfl, rfl, h⟩
theorem OLe.cond {α : Type} {R : α → α → Prop} {b : Bool} {u u' v v' : Out α} (h1 : OLe R u u') (h2 : OLe R v v') : OLe R (if b = true then u else v) (if b = true then u' else v') := by
  cases b with
  | true => exact h1
  | false => exact h2
mutual
theorem evE_mono (w : W) (hw : CloM w) : ∀ (a : Ex) (s s' : S), SLe s s' → OLe PLe (evE w a s) (evE w a s')
  | .cst d, s, s', h => by simp only [evE]; exact OLe.okP h
  | .var i, s, s', h => by
    simp only [evE]
    split
    · rename_i d q
      rw [h.2.get q]
      exact OLe.okP h
    · trivial
  | .frz a, s, s', h => by
    simp only [evE]
    exact OLe.bindP (evE_mono w hw a s s' h) fun x t t' k => ⟨_, rfl, k.fz x⟩
  | .lok a e, s, s', h => by
    simp only [evE]
    have q := evE_mono w hw a s s' h
    cases h1 : evE w a s with
    | bad => exact OLe.bad
    | exc c d t => exact OLe.bad
    | ok p =>
      obtain ⟨x, t⟩ := p
      rw [h1] at q
      obtain ⟨p', h2, k1, k2⟩ := q
      obtain ⟨x', t'⟩ := p'
      dsimp only at k1
      subst k1
      rw [h2]
      cases x with
      | ref k =>
        dsimp only
        rw [← h.1]
        refine OLe.bindE fun o => OLe.bindE fun mo => OLe.bindP (OLe.noX (evE_mono w hw e _ _ (h.mem _))) fun y u u' k => ?_
        rw [← k.1]
        exact OLe.bindE fun _ => ⟨_, rfl, rfl, k.mem _⟩
      | _ => exact OLe.bad
  | .frn a, s, s', h => by
    simp only [evE]
    refine OLe.bindP (evE_mono w hw a s s' h) fun x t t' k => ?_
    cases x with
    | ref j =>
      dsimp only
      rw [← h.1, ← k.1]
      refine OLe.bindE fun _ => ?_
      split
      · exact ⟨_, rfl, rfl, h.mem _⟩
      · exact OLe.bindE fun _ => ⟨_, rfl, rfl, h.mem _⟩
      · exact OLe.bad
    | _ => exact OLe.bad
  | .new a, s, s', h => by
    simp only [evE]
    refine OLe.bindP (evE_mono w hw a s s' h) fun x t t' k => ?_
    obtain ⟨e, m⟩ := t
    obtain ⟨e', m'⟩ := t'
    obtain ⟨k1, k2⟩ := k
    dsimp only at k1 k2
    subst k1
    cases x <;> exact ⟨_, rfl, rfl, rfl, k2⟩
  | .bin op a b, s, s', h => by
    simp only [evE]
    exact OLe.bindP (evE_mono w hw a s s' h) fun x t t' k => OLe.bindP (evE_mono w hw b t t' k) fun y u u' k => binF_mono op x y k
  | .neg a, s, s', h => by
    simp only [evE]
    exact OLe.bindP (evE_mono w hw a s s' h) fun x t t' k => negF_mono x k
  | .oeq ne a b, s, s', h => by
    simp only [evE]
    refine OLe.bindP (evE_mono w hw a s s' h) fun x t t' k => OLe.bindP (evE_mono w hw b t t' k) fun y u u' k => ?_
    rw [← k.1]
    exact OLe.bindE fun z => ⟨_, rfl, rfl, k⟩
  | .cmp op a b, s, s', h => by
    simp only [evE]
    exact OLe.bindP (evE_mono w hw a s s' h) fun x t t' k => OLe.bindP (evE_mono w hw b t t' k) fun y u u' k => cmpF_mono op x y k
  | .chn o1 o2 a b c, s, s', h => by
    simp only [evE]
    refine OLe.bindP (evE_mono w hw a s s' h) fun x t t' k => OLe.bindP (evE_mono w hw b t t' k) fun y u u' k => ?_
    rw [← k.1]
    refine OLe.bindE fun _ => OLe.bindE fun q => OLe.cond (OLe.bindP (evE_mono w hw c u u' k) fun z v v' k => ?_) (OLe.okP k)
    rw [← k.1]
    exact OLe.bindE fun _ => OLe.okP k
  | .and a b, s, s', h => by
    simp only [evE]
    exact OLe.bindP (evE_mono w hw a s s' h) fun x t t' k => OLe.bindE fun q => OLe.cond (evE_mono w hw b t t' k) (OLe.okP k)
  | .or a b, s, s', h => by
    simp only [evE]
    exact OLe.bindP (evE_mono w hw a s s' h) fun x t t' k => OLe.bindE fun q => OLe.cond (OLe.okP k) (evE_mono w hw b t t' k)
  | .not a, s, s', h => by
    simp only [evE]
    exact OLe.bindP (evE_mono w hw a s s' h) fun x t t' k => OLe.bindE fun q => OLe.okP k
  | .ite c a b, s, s', h => by
    simp only [evE]
    exact OLe.bindP (evE_mono w hw c s s' h) fun x t t' k => OLe.bindE fun q => OLe.cond (evE_mono w hw a t t' k) (evE_mono w hw b t t' k)
  | .tup es, s, s', h => by
    simp only [evE]
    exact OLe.bindP (evEs_mono w hw es s s' h) fun x t t' k => OLe.bindE fun q => OLe.okP k
  | .lst es, s, s', h => by
    simp only [evE]
    exact OLe.bindP (evEs_mono w hw es s s' h) fun x t t' k => OLe.bindE fun q => OLe.okP k
  | .ds1 a b, s, s', h => by
    simp only [evE]
    rw [← h.1]
    refine OLe.bindP (evE_mono w hw a ⟨s.e, s.m ++ [.dct []]⟩ ⟨s'.e, s.m ++ [.dct []]⟩ ⟨rfl, h.2⟩) fun x t t' k => OLe.bindP (evE_mono w hw b t t' k) fun y u u' k => ?_
    rw [← k.1]
    exact OLe.bindE fun q => ⟨_, rfl, rfl, rfl, k.2⟩
  | .dsp ps, s, s', h => by
    simp only [evE]
    split
    · exact OLe.okP h
    · rw [← h.1]
      refine OLe.bindP (evDs_mono w hw ps ⟨s.e, s.m ++ [.dct []]⟩ ⟨s'.e, s.m ++ [.dct []]⟩ [] ⟨rfl, h.2⟩) fun x t t' k => ?_
      rw [← k.1]
      exact OLe.bindE fun q => ⟨_, rfl, rfl, rfl, k.2⟩
  | .sub a b, s, s', h => by
    simp only [evE]
    exact OLe.bindP (evE_mono w hw a s s' h) fun x t t' k => OLe.bindP (evE_mono w hw b t t' k) fun y u u' k => subF_mono x y k
  | .slc a lo hi, s, s', h => by
    simp only [evE]
    refine OLe.bindP (evE_mono w hw a s s' h) fun x t t' k => OLe.bindP (evO_mono w hw lo t t' k) fun y u u' k => OLe.bindP (evO_mono w hw hi u u' k) fun z v v' k => ?_
    rw [← k.1]
    exact OLe.bindE fun q => OLe.okP k
  | .rev a, s, s', h => by
    simp only [evE]
    refine OLe.bindP (evE_mono w hw a s s' h) fun x t t' k => ?_
    rw [← k.1]
    exact OLe.bindE fun q => OLe.okP k
  | .fld a f, s, s', h => by
    simp only [evE]
    refine OLe.bindP (evE_mono w hw a s s' h) fun x t t' k => ?_
    rw [← k.1]
    exact OLe.bindE fun q => OLe.okP k
  | .prp a f, s, s', h => by
    simp only [evE]
    exact OLe.bindP (evE_mono w hw a s s' h) fun x t t' k => OLe.noX (callM_mono _ _ _ k)
  | .kcn a f, s, s', h => by
    simp only [evE]
    refine OLe.bindP (evE_mono w hw a s s' h) fun x t t' k => ?_
    rw [← k.1]
    dsimp only
    cases clsOf t.m x with
    | none => trivial
    | some c => exact OLe.bindE fun q => OLe.okP k
  | .cal f es, s, s', h => by
    simp only [evE]
    refine OLe.bindP (evEs_mono w hw es s s' h) fun x t t' k => ?_
    rw [← k.1]
    exact OLe.inS k _
  | .mth a f es, s, s', h => by
    simp only [evE]
    refine OLe.bindP (evE_mono w hw a s s' h) fun x t t' k => ?_
    rw [← k.1]
    dsimp only
    cases clsOf t.m x with
    | none => trivial
    | some c =>
      dsimp only
      cases w.meth c f with
      | none => trivial
      | some g =>
        refine OLe.bindP (evEs_mono w hw es t t' k) fun y u u' k => ?_
        rw [← k.1]
        exact OLe.inS k _
  | .smt f c es, s, s', h => by
    simp only [evE]
    refine OLe.bindP (evEs_mono w hw es s s' h) fun x t t' k => ?_
    rw [← k.1]
    exact OLe.inS k _
  | .ctr c es, s, s', h => by
    simp only [evE]
    exact OLe.bindP (evEs_mono w hw es s s' h) fun x t t' k => makeD_mono _ _ k
  | .ctv i c es, s, s', h => by
    simp only [evE]
    by_cases hq : s.e[i]? = some (some (.cls c))
    · rw [decide_eq_true hq, decide_eq_true (h.2.get hq)]
      exact OLe.bindE fun _ => OLe.bindP (evEs_mono w hw es s s' h) fun x t t' k => makeD_mono _ _ k
    · rw [decide_eq_false hq]
      trivial
  | .app a es, s, s', h => by
    simp only [evE]
    refine OLe.bindP (evE_mono w hw a s s' h) fun x t t' k => ?_
    rw [← k.1]
    exact OLe.bindE fun _ => OLe.bindP (evEs_mono w hw es t t' k) fun y u u' k => callM_mono _ _ _ k
  | .bif b es, s, s', h => by
    simp only [evE]
    exact OLe.bindP (evEs_mono w hw es s s' h) fun x t t' k => bifF_mono _ _ k
  | .bmt b a es, s, s', h => by
    simp only [evE]
    refine OLe.bindP (evE_mono w hw a s s' h) fun x t t' k => ?_
    rw [← k.1]
    refine OLe.bindE fun _ => OLe.bindP (evEs_mono w hw es t t' k) fun y u u' k => ?_
    rw [← k.1]
    exact OLe.bindE fun p => ⟨_, rfl, rfl, rfl, k.2⟩
  | .isi a t, s, s', h => by
    simp only [evE]
    refine OLe.bindP (evE_mono w hw a s s' h) fun x t t' k => ?_
    rw [← k.1]
    exact OLe.bindE fun _ => OLe.okP k
  | .fst a, s, s', h => by
    simp only [evE]
    refine OLe.bindP (evE_mono w hw a s s' h) fun x t t' k => ?_
    dsimp only
    cases x with
    | int i => exact OLe.bindE (o := gd _) fun _ => OLe.okP k
    | _ => trivial
  | .lam k, s, s', h => by simp only [evE]; exact OLe.okP h
  | .eof a, s, s', h => by
    simp only [evE]
    exact OLe.bindP (evE_mono w hw a s s' h) fun x t t' k => errO_mono hw x k
  | .alr a b, s, s', h => by
    simp only [evE]
    refine OLe.bindP (evE_mono w hw a s s' h) fun x t t' k => OLe.bindP (evE_mono w hw b t t' k) fun y u u' k => ?_
    rw [← k.1]
    refine OLe.bindE fun xs => OLe.bindP (allO_mono hw y xs k) fun r v v' k => OLe.okP k
  | .lc e own t it ifs, s, s', h => by
    simp only [evE]
    refine OLe.bindP (evI_mono w hw it s s' h) fun xs s0 s0' k => ?_
    rw [← k.1]
    refine OLe.bind (R := SLe) (lcL_mono (fun x u u' hu => ?_) xs ⟨rfl, k.2⟩) fun s1 s1' k1 => ⟨_, rfl, rfl, SLe.back own k k1⟩
    refine OLe.noX (OLe.bind (asg_mono w hw t x _ _ (hu.wipe own)) fun v v' kv => OLe.bindP (evA_mono w hw ifs v v' kv) fun b r r' kr => OLe.cond (OLe.bindP (evE_mono w hw e r r' kr) fun y q q' kq => addM_mono _ _ kq) ⟨_, rfl, kr⟩)
  | .lc2 e own own1 t it t1 it1, s, s', h => by
    simp only [evE]
    refine OLe.bindP (evI_mono w hw it s s' h) fun xs s0 s0' k => ?_
    rw [← k.1]
    refine OLe.bind (R := SLe) (lcL_mono (fun x u u' hu => ?_) xs ⟨rfl, k.2⟩) fun s1 s1' k1 => ⟨_, rfl, rfl, SLe.back own k k1⟩
    refine OLe.noX (OLe.bind (asg_mono w hw t x _ _ (hu.wipe own)) fun v v' kv => OLe.bindP (evI_mono w hw it1 v v' kv) fun xs1 r r' kr => lcL_mono (fun x u u' hu => ?_) xs1 kr)
    exact OLe.bind (asg_mono w hw t1 x _ _ (hu.wipe own1)) fun v v' kv => OLe.bindP (evE_mono w hw e v v' kv) fun y q q' kq => addM_mono _ _ kq
  | .dc a b own t it, s, s', h => by
    simp only [evE]
    refine OLe.bindP (evI_mono w hw it s s' h) fun xs s0 s0' k => ?_
    rw [← k.1]
    refine OLe.bind (R := SLe) (lcL_mono (fun x u u' hu => ?_) xs ⟨rfl, k.2⟩) fun s1 s1' k1 => ⟨_, rfl, rfl, SLe.back own k k1⟩
    exact OLe.noX (OLe.bind (asg_mono w hw t x _ _ (hu.wipe own)) fun v v' kv => OLe.bindP (evE_mono w hw a v v' kv) fun y q q' kq => OLe.bindP (evE_mono w hw b q q' kq) fun z q q' kq => putM_mono _ _ _ kq)
theorem evO_mono (w : W) (hw : CloM w) : ∀ (a : Exo) (s s' : S), SLe s s' → OLe PLe (evO w a s) (evO w a s')
  | .none, s, s', h => by simp only [evO]; exact OLe.okP h
  | .some a, s, s', h => by
    simp only [evO]
    exact OLe.bindP (evE_mono w hw a s s' h) fun x t t' k => OLe.bindE fun _ => OLe.okP k
theorem evEs_mono (w : W) (hw : CloM w) : ∀ (a : Exs) (s s' : S), SLe s s' → OLe PLe (evEs w a s) (evEs w a s')
  | .nil, s, s', h => by simp only [evEs]; exact OLe.okP h
  | .cons a r, s, s', h => by
    simp only [evEs]
    exact OLe.bindP (evE_mono w hw a s s' h) fun x t t' k => OLe.bindP (evEs_mono w hw r t t' k) fun y u u' k => OLe.okP k
  | .star a r, s, s', h => by
    simp only [evEs]
    refine OLe.bindP (evE_mono w hw a s s' h) fun x t t' k => ?_
    rw [← k.1]
    exact OLe.bindE fun _ => OLe.bindP (evEs_mono w hw r t t' k) fun y u u' k => OLe.okP k
theorem evDs_mono (w : W) (hw : CloM w) : ∀ (a : Exs) (s s' : S) (es : List D), SLe s s' → OLe PLe (evDs w a s es) (evDs w a s' es)
  | .nil, s, s', es, h => by simp only [evDs]; exact OLe.okP h
  | .cons a (.cons b r), s, s', es, h => by
    simp only [evDs]
    exact OLe.bindP (evE_mono w hw a s s' h) fun x t t' k => OLe.bindP (evE_mono w hw b t t' k) fun y u u' k => OLe.bindE fun _ => evDs_mono w hw r u u' _ k
  | .cons _ .nil, s, s', es, h => by simp only [evDs]; trivial
  | .cons _ (.star _ _), s, s', es, h => by simp only [evDs]; trivial
  | .star _ _, s, s', es, h => by simp only [evDs]; trivial
theorem evA_mono (w : W) (hw : CloM w) : ∀ (a : Exs) (s s' : S), SLe s s' → OLe PLe (evA w a s) (evA w a s')
  | .nil, s, s', h => by simp only [evA]; exact OLe.okP h
  | .cons a r, s, s', h => by
    simp only [evA]
    exact OLe.bindP (evE_mono w hw a s s' h) fun x t t' k => OLe.bindE fun _ => OLe.cond (evA_mono w hw r t t' k) (OLe.okP k)
  | .star a r, s, s', h => by simp only [evA]; trivial
theorem evI_mono (w : W) (hw : CloM w) : ∀ (a : It) (s s' : S), SLe s s' → OLe PLe (evI w a s) (evI w a s')
  | .val a, s, s', h => by
    simp only [evI]
    exact OLe.bindP (evE_mono w hw a s s' h) fun x t t' k => OLe.bindE fun _ => OLe.okP k
  | .enm a, s, s', h => by
    simp only [evI]
    exact OLe.bindP (evE_mono w hw a s s' h) fun x t t' k => OLe.bindE fun _ => OLe.okP k
  | .zip a b, s, s', h => by
    simp only [evI]
    exact OLe.bindP (evE_mono w hw a s s' h) fun x t t' k => OLe.bindP (evE_mono w hw b t t' k) fun y u u' k => OLe.bindE fun _ => OLe.okP k
  | .rng es, s, s', h => by
    simp only [evI]
    exact OLe.bindP (evEs_mono w hw es s s' h) fun x t t' k => OLe.bindE fun _ => OLe.okP k
  | .itm a, s, s', h => by
    simp only [evI]
    refine OLe.bindP (evE_mono w hw a s s' h) fun x t t' k => ?_
    rw [← k.1]
    exact OLe.bindE fun _ => OLe.okP k
  | .itf a, s, s', h => by
    simp only [evI]
    exact OLe.bindP (evE_mono w hw a s s' h) fun x t t' k => OLe.bindE fun _ => OLe.bindE fun _ => OLe.okP k
  | .lkv a, s, s', h => by
    simp only [evI]
    refine OLe.bindP (evE_mono w hw a s s' h) fun x t t' k => ?_
    rw [← k.1]
    exact OLe.bindE fun _ => OLe.okP k
theorem asg_mono (w : W) (hw : CloM w) : ∀ (t : Tg) (d : D) (s s' : S), SLe s s' → OLe SLe (asg w t d s) (asg w t d s')
  | .name i, d, s, s', h => by simp only [asg]; exact OLe.ok (h.set i (some d))
  | .tup ts, d, s, s', h => by
    simp only [asg]
    rw [← h.1]
    exact OLe.bindE fun xs => OLe.bindE fun _ => asgs_mono w hw ts xs s s' h
  | .sub o i, d, s, s', h => by
    simp only [asg]
    refine OLe.bindP (evE_mono w hw o s s' h) fun x t t' k => OLe.bindP (evE_mono w hw i t t' k) fun y u u' k => ?_
    rw [← k.1]
    exact OLe.bindE fun m => OLe.ok (k.mem m)
  | .att o f, d, s, s', h => by
    simp only [asg]
    refine OLe.bindP (evE_mono w hw o s s' h) fun x t t' k => ?_
    rw [← k.1]
    dsimp only
    cases x with
    | ref kk =>
      dsimp only
      cases t.m[kk]? with
      | none => trivial
      | some o =>
        cases o with
        | obj c fs => exact OLe.bindE fun _ => OLe.ok (k.mem _)
        | _ => trivial
    | _ => trivial
theorem asgs_mono (w : W) (hw : CloM w) : ∀ (t : Tgs) (d : List D) (s s' : S), SLe s s' → OLe SLe (asgs w t d s) (asgs w t d s')
  | .nil, [], s, s', h => by simp only [asgs]; exact OLe.ok h
  | .cons t r, d :: ds, s, s', h => by
    simp only [asgs]
    exact OLe.bind (asg_mono w hw t d s s' h) fun u u' k => asgs_mono w hw r ds u u' k
  | .nil, _ :: _, s, s', h => by simp only [asgs]; trivial
  | .cons _ _, [], s, s', h => by simp only [asgs]; trivial
end
def selM (xs : List D) : List (Str × Option Nat) → Nat → Option (Nat × Option (Nat × D))
  | [], _ => none
  | (z, none) :: r, n => match xs with
    | [.str y] => if y = z then some (n, none) else selM xs r (n + 1)
    | _ => selM xs r (n + 1)
  | (z, some i) :: r, n => match xs with
    | [.str y, d] => if y = z then some (n, some (i, d)) else selM xs r (n + 1)
    | _ => selM xs r (n + 1)
def updM (s : S) : Option (Nat × D) → S
  | none => s
  | some (i, d) => ⟨s.e.set i (some d), s.m⟩
theorem matP_eq (s : S) (xs : List D) : ∀ (ps : List (Str × Option Nat)) (n : Nat), matP s xs ps n = (selM xs ps n).map fun p => (p.1, updM s p.2)
  | [], n => rfl
  | (z, none) :: r, n => by
    have ih := matP_eq s xs r (n + 1)
    rcases xs with _ | ⟨d, _ | ⟨d2, xs⟩⟩
    · simp only [matP, selM]; exact ih
    · cases d with
      | str y =>
        simp only [matP, selM]
        by_cases hz : y = z
        · rw [if_pos hz, if_pos hz]; rfl
        · rw [if_neg hz, if_neg hz]; exact ih
      | _ => simp only [matP, selM]; exact ih
    · simp only [matP, selM]; exact ih
  | (z, some i) :: r, n => by
    have ih := matP_eq s xs r (n + 1)
    rcases xs with _ | ⟨d, _ | ⟨d2, _ | ⟨d3, xs⟩⟩⟩
    · simp only [matP, selM]; exact ih
    · simp only [matP, selM]; exact ih
    · cases d with
      | str y =>
        simp only [matP, selM]
        by_cases hz : y = z
        · rw [if_pos hz, if_pos hz]; rfl
        · rw [if_neg hz, if_neg hz]; exact ih
      | _ => simp only [matP, selM]; exact ih
    · simp only [matP, selM]; exact ih
theorem SLe.updM {s s' : S} (h : SLe s s') (o : Option (Nat × D)) : SLe (SV.updM s o) (SV.updM s' o) := by
  rcases o with _ | ⟨i, d⟩
  · exact h
  · exact h.set i _
mutual
theorem exS_mono (w : W) (hw : CloM w) (x : Option (Nat × D)) : ∀ (a : Sm) (s s' : S), SLe s s' → OLe PLe (exS w x a s) (exS w x a s')
  | .asg t a, s, s', h => by
    simp only [exS]
    exact OLe.bindP (evE_mono w hw a s s' h) fun d u u' k => OLe.bind (asg_mono w hw t d u u' k) fun v v' k => OLe.okP k
  | .par ts es, s, s', h => by
    simp only [exS]
    exact OLe.bindP (evEs_mono w hw es s s' h) fun d u u' k => OLe.bind (asgs_mono w hw ts d u u' k) fun v v' k => OLe.okP k
  | .aug i op a, s, s', h => by
    simp only [exS]
    split
    · rename_i d q
      rw [h.2.get q]
      exact OLe.bindP (evE_mono w hw a s s' h) fun y u u' k => OLe.bindE fun z => OLe.okP (k.set i _)
    · trivial
  | .exp a, s, s', h => by
    simp only [exS]
    exact OLe.bindP (evE_mono w hw a s s' h) fun y u u' k => OLe.okP k
  | .ifs c a b, s, s', h => by
    simp only [exS]
    exact OLe.bindP (evE_mono w hw c s s' h) fun y u u' k => OLe.bindE fun q => OLe.cond (exSs_mono w hw x a u u' k) (exSs_mono w hw x b u u' k)
  | .whl c b, s, s', h => by
    simp only [exS]
    exact whlL_mono (fun s s' h => OLe.bindP (evE_mono w hw c s s' h) fun y u u' k => OLe.bindE fun q => OLe.okP k) (fun s s' h => exSs_mono w hw x b s s' h) _ h
  | .for t it b, s, s', h => by
    simp only [exS]
    exact OLe.bindP (evI_mono w hw it s s' h) fun xs u u' k => forL_mono (fun d s s' h => OLe.bind (asg_mono w hw t d s s' h) fun v v' k => exSs_mono w hw x b v v' k) xs k
  | .ret a, s, s', h => by
    simp only [exS]
    exact OLe.bindP (evE_mono w hw a s s' h) fun y u u' k => OLe.okP k
  | .rse c a, s, s', h => by
    simp only [exS]
    exact OLe.bindP (evE_mono w hw a s s' h) fun y u u' k => ⟨_, rfl, k⟩
  | .rers, s, s', h => by
    simp only [exS]
    split
    · exact ⟨_, rfl, h⟩
    · trivial
  | .lok a b, s, s', h => by
    simp only [exS]
    have q := evE_mono w hw a s s' h
    cases h1 : evE w a s with
    | bad => exact OLe.bad
    | exc c d t => exact OLe.bad
    | ok p =>
      obtain ⟨y, t⟩ := p
      rw [h1] at q
      obtain ⟨p', h2, k1, k2⟩ := q
      obtain ⟨y', t'⟩ := p'
      dsimp only at k1
      subst k1
      rw [h2]
      cases y with
      | ref k =>
        dsimp only
        rw [← h.1]
        refine OLe.bindE fun o => OLe.bindE fun mo => OLe.bindP (OLe.noX (exS_mono w hw x b _ _ (h.mem _))) fun y u u' k => ?_
        rw [← k.1]
        exact OLe.bindE fun _ => ⟨_, rfl, rfl, k.mem _⟩
      | _ => exact OLe.bad
  | .try b hh, s, s', h => by
    simp only [exS]
    have := exSs_mono w hw x b s s' h
    cases e : exSs w x b s with
    | ok r =>
      rw [e] at this
      obtain ⟨r', e2, k⟩ := this
      rw [e2]
      exact ⟨_, rfl, k⟩
    | exc c d t =>
      rw [e] at this
      obtain ⟨t', e2, k⟩ := this
      rw [e2]
      exact exSs_mono w hw (some (c, d)) hh t t' k
    | bad => trivial
  | .mat a ps bs, s, s', h => by
    simp only [exS]
    refine OLe.bindP (evE_mono w hw a s s' h) fun d u u' k => ?_
    rw [← k.1]
    refine OLe.bindE fun xs => ?_
    rw [matP_eq, matP_eq]
    cases selM xs ps 0 with
    | none => exact OLe.okP k
    | some p => exact exNth_mono w hw x bs p.1 _ _ (k.updM p.2)
  | .pas, s, s', h => by simp only [exS]; exact OLe.okP h
  | .never, s, s', h => by simp only [exS]; trivial
theorem exSs_mono (w : W) (hw : CloM w) (x : Option (Nat × D)) : ∀ (a : List Sm) (s s' : S), SLe s s' → OLe PLe (exSs w x a s) (exSs w x a s')
  | [], s, s', h => by simp only [exSs]; exact OLe.okP h
  | a :: r, s, s', h => by
    simp only [exSs]
    have := exS_mono w hw x a s s' h
    cases e : exS w x a s with
    | ok p =>
      rw [e] at this
      obtain ⟨⟨c', t'⟩, e2, h1, h2⟩ := this
      rw [e2]
      obtain ⟨c, t⟩ := p
      dsimp only at h1 h2
      subst h1
      cases c with
      | nx => exact exSs_mono w hw x r t t' h2
      | _ => exact OLe.okP h2
    | exc c d t =>
      rw [e] at this
      obtain ⟨t', e2, k⟩ := this
      rw [e2]
      exact ⟨_, rfl, k⟩
    | bad => trivial
theorem exNth_mono (w : W) (hw : CloM w) (x : Option (Nat × D)) : ∀ (a : List Sm) (n : Nat) (s s' : S), SLe s s' → OLe PLe (exNth w x a n s) (exNth w x a n s')
  | [], n, s, s', h => by simp only [exNth]; trivial
  | a :: r, 0, s, s', h => by simp only [exNth]; exact exS_mono w hw x a s s' h
  | a :: r, n + 1, s, s', h => by simp only [exNth]; exact exNth_mono w hw x r n s s' h
end
theorem clo_wN (p : Pg) : ∀ n, CloM (wN p n)
  | 0 => fun k s s' h => trivial
  | n + 1 => fun k s s' h => by
    show OLe PLe (match p.lam k with | some e => evE (wAt p (callF p n).1 (callF p n).2) e s | none => .bad) (match p.lam k with | some e => evE (wAt p (callF p n).1 (callF p n).2) e s' | none => .bad)
    cases p.lam k with
    | none => trivial
    | some e => exact evE_mono (wN p n) (clo_wN p n) e s s' h
/-- what holds with less known holds with more -/
theorem OP_sle {w : W} (hw : CloM w) {x : Option (Nat × D)} {u : List Sm} {s s' : S} (h : SLe s s') {P : Ctl × S → Prop} (hP : ∀ c t t', SLe t t' → P (c, t) → P (c, t')) (q : OP (exSs w x u s) P) : OP (exSs w x u s') P :=
  OLe.OP (exSs_mono w hw x u s s' h) q fun a a' r p => by
    obtain ⟨c, t⟩ := a
    obtain ⟨c', t'⟩ := a'
    obtain ⟨h1, h2⟩ := r
    dsimp only at h1 h2
    subst h1
    exact hP c t t' h2 p
end SV
set_option linter.all false
set_option Elab.async false
set_option maxHeartbeats 4000000
namespace SV
open PySem
/-- what is wanted of an end does not mind more names known -/
def MonP (P : Ctl × S → Prop) : Prop := ∀ c t t', SLe t t' → P (c, t) → P (c, t')
def LoopP (J : S → Prop) (Q : Ctl × S → Prop) (p : Ctl × S) : Prop := match p.1 with
  | .nx => ∃ s', J s' ∧ SLe s' p.2
  | .cnt => ∃ s', J s' ∧ SLe s' p.2
  | .brk => Q (.nx, p.2)
  | .ret d => Q (.ret d, p.2)
section
variable {w : W} {x : Option (Nat × D)} {u r : List Sm} {P Q : Ctl × S → Prop} {s s' : S} {J : S → Prop} {m : List MO} {R : D × List MO → Prop} {t : Tg}
theorem loop_nx : LoopP J Q (.nx, s) ↔ ∃ s', J s' ∧ SLe s' s := Iff.rfl
theorem loop_cnt : LoopP J Q (.cnt, s) ↔ ∃ s', J s' ∧ SLe s' s := Iff.rfl
theorem loop_brk : LoopP J Q (.brk, s) ↔ Q (.nx, s) := Iff.rfl
theorem loop_ret {d : D} : LoopP J Q (.ret d, s) ↔ Q (.ret d, s) := Iff.rfl
theorem mon_lv : MonP (LeaveP m R) := fun c t t' h p => by
  obtain ⟨e, m1⟩ := t
  obtain ⟨e', m2⟩ := t'
  obtain ⟨h1, _⟩ := h
  dsimp only at h1
  subst h1
  cases c <;> exact p
theorem mon_kp : MonP (KeepP R) := fun c t t' h p => by
  obtain ⟨e, m1⟩ := t
  obtain ⟨e', m2⟩ := t'
  obtain ⟨h1, _⟩ := h
  dsimp only at h1
  subst h1
  cases c <;> exact p
theorem mon_nx (hw : CloM w) (hP : MonP P) : MonP (NxP w x r P) := fun c t t' h p => by
  cases c with
  | nx => exact OP_sle hw h hP p
  | _ => exact hP _ t t' h p
theorem mon_loop (hP : MonP Q) : MonP (LoopP J Q) := fun c t t' h p => by
  cases c with
  | nx => obtain ⟨s', j, l⟩ := p; exact ⟨s', j, l.trans h⟩
  | cnt => obtain ⟨s', j, l⟩ := p; exact ⟨s', j, l.trans h⟩
  | brk => exact hP _ t t' h p
  | ret d => exact hP _ t t' h p
theorem forF_mono (hw : CloM w) (d : D) (s s' : S) (h : SLe s s') : OLe PLe (forF w x t u d s) (forF w x t u d s') :=
  OLe.bind (asg_mono w hw t d s s' h) fun v v' k => exSs_mono w hw x u v v' k
/-- a for by what holds ahead of each turn -/
theorem for_I (hw : CloM w) (hQ : MonP Q) {xs : List D} (I : Nat → S → Prop) (h0 : ∃ s', I 0 s' ∧ SLe s' s)
    (hs : ∀ i d s, xs[i]? = some d → I i s → OP (asg w t d s) (fun s => OP (exSs w x u s) (LoopP (I (i + 1)) Q))) (hd : ∀ s, I xs.length s → Q (.nx, s)) : OP (forL (forF w x t u) xs s) Q := by
  refine OP_for (fun i t => ∃ s', I i s' ∧ SLe s' t) h0 ?_ ?_
  · rintro t ⟨s', hI, l⟩
    exact hQ _ _ _ l (hd s' hI)
  · rintro i d t hx ⟨s', hI, l⟩
    have h1 : OP (forF w x _ u d s') (LoopP (I (i + 1)) Q) := OP_bind.mpr (hs i d s' hx hI)
    refine OLe.OP (forF_mono hw d s' t l) h1 fun a a' r p => ?_
    obtain ⟨c, v⟩ := a
    obtain ⟨c', v'⟩ := a'
    obtain ⟨r1, r2⟩ := r
    dsimp only at r1 r2
    subst r1
    have p' := mon_loop (J := I (i + 1)) hQ c v v' r2 p
    cases c <;> exact p'
end
/-- alike but at own slots -/
def outEq : Nat → List Nat → List (Option D) → List (Option D) → Prop
  | _, _, [], [] => True
  | n, own, a :: r, b :: t => (n ∈ own ∨ a = b) ∧ outEq (n + 1) own r t
  | _, _, _, _ => False
theorem outEq_get : ∀ {n : Nat} {own : List Nat} {e e' : List (Option D)}, outEq n own e e' → e.length = e'.length ∧ ∀ j, (n + j) ∉ own → e[j]? = e'[j]?
  | n, own, [], [], _ => ⟨rfl, fun j _ => by simp⟩
  | n, own, a :: r, b :: t, h => by
    obtain ⟨h1, h2⟩ := h
    obtain ⟨h3, h4⟩ := outEq_get h2
    refine ⟨by simp [h3], fun j hj => ?_⟩
    cases j with
    | zero =>
      rcases h1 with h1 | h1
      · exact absurd h1 hj
      · simp [h1]
    | succ j =>
      have := h4 j (by rw [show n + 1 + j = n + (j + 1) from by omega]; exact hj)
      simpa using this
  | _, _, [], _ :: _, h => h.elim
  | _, _, _ :: _, [], h => h.elim
theorem outEq_refl : ∀ (n : Nat) (own : List Nat) (e : List (Option D)), outEq n own e e
  | _, _, [] => trivial
  | n, own, a :: r => ⟨.inr rfl, outEq_refl (n + 1) own r⟩
theorem outEq_wipe {own : List Nat} {e e' : List (Option D)} (h : outEq 0 own e e') : wipeE own e' = wipeE own e := by
  obtain ⟨h1, h2⟩ := outEq_get h
  apply List.ext_getElem?
  intro j
  rw [wipeE_get, wipeE_get, h1]
  by_cases hj : j ∈ own ∧ j < e'.length
  · rw [if_pos hj, if_pos hj]
  · rw [if_neg hj, if_neg hj]
    by_cases hm : j ∈ own
    · have : ¬ j < e'.length := fun z => hj ⟨hm, z⟩
      rw [List.getElem?_eq_none (by omega), List.getElem?_eq_none (by omega)]
    · exact (h2 j (by simpa using hm)).symm
theorem outEq_back {own : List Nat} {e e' : List (Option D)} (h : outEq 0 own e e') : backE own e e' = e := by
  obtain ⟨h1, h2⟩ := outEq_get h
  apply List.ext_getElem?
  intro j
  rw [back_get e own e' j h1.symm]
  by_cases hj : j ∈ own
  · rw [if_pos hj]
  · rw [if_neg hj]
    exact (h2 j (by simpa using hj)).symm
/-- no name is the place k -/
def nrE (k : Nat) : List (Option D) → Prop
  | [] => True
  | o :: r => o ≠ some (.ref k) ∧ nrE k r
theorem nrE_all {k : Nat} : ∀ {e : List (Option D)}, nrE k e → ∀ o ∈ e, o ≠ some (.ref k)
  | [], _, o, h => by simp at h
  | a :: r, h, o, ho => by
    rcases List.mem_cons.mp ho with rfl | ho
    · exact h.1
    · exact nrE_all h.2 o ho
def lcG (w : W) (e : Ex) (own : List Nat) (t : Tg) (ifs : Exs) (k : Nat) : D → S → Out S := fun x s => noX do
  let s ← asg w t x (wipeS own s)
  let (b, s) ← evA w ifs s
  if b then do
    let (y, s) ← evE w e s
    addM k y s
  else .ok s
section
variable {w : W} {s s' : S} {P : D × S → Prop} {e : Ex} {own : List Nat} {t : Tg} {it : It} {ifs : Exs}
theorem r_lc : OP (evE w (.lc e own t it ifs) s) P ↔ OP (evI w it s) (fun p => OP (lcL (lcG w e own t ifs p.2.m.length) p.1 ⟨p.2.e, p.2.m ++ [.lst []]⟩) (fun s1 => P (.ref p.2.m.length, backS own p.2 s1))) := by
  simp only [evE, OP_bind, OP_ok]
  exact Iff.rfl
theorem r_flc : OP (evE w (.frz (.lc e own t it ifs)) s) P ↔ OP (evI w it s) (fun p => OP (lcL (lcG w e own t ifs p.2.m.length) p.1 ⟨p.2.e, p.2.m ++ [.lst []]⟩) (fun s1 => P (fzS (backS own p.2 s1) (.ref p.2.m.length)))) := by
  rw [r_frz, r_lc]
theorem lc_step {k : Nat} {x : D} {R : S → Prop} (h : OP (asg w t x (wipeS own s)) (fun s => OP (evA w ifs s) (fun p => if p.1 = true then OP (evE w e p.2) (fun q => ∃ ys, q.2.m[k]? = some (.lst ys) ∧ ys.length < sizeL ∧ R ⟨q.2.e, q.2.m.set k (.lst (ys ++ [q.1]))⟩) else R p.2))) : OP (lcG w e own t ifs k x s) R := lc_turn h
/-- by what holds ahead of each turn: how many turns, what is made, the store -/
theorem lc_base {xs : List D} {e0 : List (Option D)} {m0 : List MO} {Q : S → Prop} (I : Nat → List D → List MO → Prop) (hl : xs.length ≤ sizeL) (h0 : I 0 [] m0)
    (ht : ∀ i x ys m, xs[i]? = some x → I i ys m → m.length = m0.length → ys.length ≤ i → OP (asg w t x ⟨wipeE own e0, m ++ [.lst ys]⟩) (fun s => OP (evA w ifs s) (fun p => if p.1 = true then
      OP (evE w e p.2) (fun q => ∃ m', q.2.m = m' ++ [.lst ys] ∧ m'.length = m0.length ∧ outEq 0 own e0 q.2.e ∧ I (i + 1) (ys ++ [q.1]) m') else ∃ m', p.2.m = m' ++ [.lst ys] ∧ m'.length = m0.length ∧ outEq 0 own e0 p.2.e ∧ I (i + 1) ys m')))
    (hd : ∀ ys m e', I xs.length ys m → m.length = m0.length → outEq 0 own e0 e' → Q ⟨e', m ++ [.lst ys]⟩) : OP (lcL (lcG w e own t ifs m0.length) xs ⟨e0, m0 ++ [.lst []]⟩) Q := by
  refine OP_lcL (fun i t => ∃ ys m e', t = ⟨e', m ++ [.lst ys]⟩ ∧ outEq 0 own e0 e' ∧ m.length = m0.length ∧ ys.length ≤ i ∧ I i ys m) ⟨[], m0, e0, rfl, outEq_refl _ _ _, rfl, Nat.le_refl _, h0⟩ ?_ ?_
  · rintro t ⟨ys, m, e', rfl, he, hm, hy, hI⟩
    exact hd ys m e' hI hm he
  · rintro i d t hx ⟨ys, m, e', rfl, he, hm, hy, hI⟩
    have hlt := (List.getElem?_eq_some_iff.mp hx).1
    refine lc_step ?_
    have hws : wipeS own ⟨e', m ++ [MO.lst ys]⟩ = ⟨wipeE own e0, m ++ [.lst ys]⟩ := by
      show (⟨wipeE own e', _⟩ : S) = _
      rw [outEq_wipe he]
    rw [hws]
    refine (ht i d ys m hx hI hm hy).mono fun s1 h1 => h1.mono ?_
    rintro ⟨b, s2⟩ h2
    dsimp only at h2 ⊢
    cases b with
    | true =>
      rw [if_pos rfl] at h2 ⊢
      refine h2.mono ?_
      rintro ⟨y, e3, m3⟩ ⟨m', h3, h4, h5, h6⟩
      dsimp only at h3 h5 h6 ⊢
      subst h3
      refine ⟨ys, by rw [← h4]; simp, by omega, ys ++ [y], m', e3, ?_, h5, h4, by simp; omega, h6⟩
      rw [← h4]; simp
    | false =>
      rw [if_neg (by simp)] at h2 ⊢
      obtain ⟨m', h3, h4, h5, h6⟩ := h2
      obtain ⟨e3, m3⟩ := s2
      dsimp only at h3 h5
      subst h3
      exact ⟨ys, m', e3, rfl, h5, h4, by omega, h6⟩
/-- frozen -/
theorem lc_I {xs : List D} {e0 : List (Option D)} {m0 : List MO} (I : Nat → List D → List MO → Prop) (hn : nrE m0.length e0) (hl : xs.length ≤ sizeL) (h0 : I 0 [] m0)
    (ht : ∀ i x ys m, xs[i]? = some x → I i ys m → m.length = m0.length → ys.length ≤ i → OP (asg w t x ⟨wipeE own e0, m ++ [.lst ys]⟩) (fun s => OP (evA w ifs s) (fun p => if p.1 = true then
      OP (evE w e p.2) (fun q => ∃ m', q.2.m = m' ++ [.lst ys] ∧ m'.length = m0.length ∧ outEq 0 own e0 q.2.e ∧ I (i + 1) (ys ++ [q.1]) m') else ∃ m', p.2.m = m' ++ [.lst ys] ∧ m'.length = m0.length ∧ outEq 0 own e0 p.2.e ∧ I (i + 1) ys m')))
    (hd : ∀ ys m, I xs.length ys m → m.length = m0.length → P (.lst ys, ⟨e0, m ++ [.dead]⟩)) : OP (lcL (lcG w e own t ifs m0.length) xs ⟨e0, m0 ++ [.lst []]⟩) (fun s1 => P (fzS (backS own ⟨e0, m0⟩ s1) (.ref m0.length))) := by
  refine lc_base I hl h0 ht fun ys m e' hI hm he => ?_
  have hb : backS own ⟨e0, m0⟩ ⟨e', m ++ [MO.lst ys]⟩ = ⟨e0, m ++ [.lst ys]⟩ := by
    show (⟨backE own e0 e', _⟩ : S) = _
    rw [outEq_back he]
  rw [hb]
  have hf : fzS ⟨e0, m ++ [MO.lst ys]⟩ (.ref m0.length) = (.lst ys, ⟨e0, m ++ [.dead]⟩) := by
    unfold fzS fzM
    have : (m ++ [MO.lst ys])[m0.length]? = some (.lst ys) := by rw [← hm]; simp
    simp only [this]
    rw [fz_map (nrE_all hn), ← hm]
    simp
  rw [hf]
  exact hd ys m hI hm
end
end SV
set_option linter.all false
set_option Elab.async false
set_option maxHeartbeats 4000000
set_option exponentiation.threshold 4000
namespace SV
open PySem
def k_frz (P : D × S → Prop) : D × S → Prop := fun p => P (fzS p.2 p.1)
theorem k_frz_ (P : D × S → Prop) (pU : D) (pV : S) : k_frz P (pU, pV) ↔ (P (fzS pV pU)) := Iff.rfl
def k_new (P : D × S → Prop) : D × S → Prop := fun p => P (newS p.2 p.1)
theorem k_new_ (P : D × S → Prop) (pU : D) (pV : S) : k_new P (pU, pV) ↔ (P (newS pV pU)) := Iff.rfl
def k_bin2 (w : W) (op : Operator) (x : D) (P : D × S → Prop) : D × S → Prop := fun p => OP (binF w op x p.1 p.2) P
theorem k_bin2_ (w : W) (op : Operator) (x : D) (P : D × S → Prop) (pU : D) (pV : S) : k_bin2 w op x P (pU, pV) ↔ (OP (binF w op x pU pV) P) := Iff.rfl
def k_bin (w : W) (op : Operator) (b : Ex) (P : D × S → Prop) : D × S → Prop := fun p => OP (evE w b p.2) (k_bin2 w op p.1 P)
theorem k_bin_ (w : W) (op : Operator) (b : Ex) (P : D × S → Prop) (pU : D) (pV : S) : k_bin w op b P (pU, pV) ↔ (OP (evE w b pV) (k_bin2 w op pU P)) := Iff.rfl
def k_neg (w : W) (P : D × S → Prop) : D × S → Prop := fun p => OP (negF w p.1 p.2) P
theorem k_neg_ (w : W) (P : D × S → Prop) (pU : D) (pV : S) : k_neg w P (pU, pV) ↔ (OP (negF w pU pV) P) := Iff.rfl
def k_oeq2 (w : W) (ne : Bool) (x : D) (P : D × S → Prop) : D × S → Prop := fun p => OP (oeqF w ne x p.1 p.2) P
theorem k_oeq2_ (w : W) (ne : Bool) (x : D) (P : D × S → Prop) (pU : D) (pV : S) : k_oeq2 w ne x P (pU, pV) ↔ (OP (oeqF w ne x pU pV) P) := Iff.rfl
def k_oeq (w : W) (ne : Bool) (b : Ex) (P : D × S → Prop) : D × S → Prop := fun p => OP (evE w b p.2) (k_oeq2 w ne p.1 P)
theorem k_oeq_ (w : W) (ne : Bool) (b : Ex) (P : D × S → Prop) (pU : D) (pV : S) : k_oeq w ne b P (pU, pV) ↔ (OP (evE w b pV) (k_oeq2 w ne pU P)) := Iff.rfl
def k_cmp2 (w : W) (op : CmpOp) (x : D) (P : D × S → Prop) : D × S → Prop := fun p => OP (cmpF w op x p.1 p.2) P
theorem k_cmp2_ (w : W) (op : CmpOp) (x : D) (P : D × S → Prop) (pU : D) (pV : S) : k_cmp2 w op x P (pU, pV) ↔ (OP (cmpF w op x pU pV) P) := Iff.rfl
def k_cmp (w : W) (op : CmpOp) (b : Ex) (P : D × S → Prop) : D × S → Prop := fun p => OP (evE w b p.2) (k_cmp2 w op p.1 P)
theorem k_cmp_ (w : W) (op : CmpOp) (b : Ex) (P : D × S → Prop) (pU : D) (pV : S) : k_cmp w op b P (pU, pV) ↔ (OP (evE w b pV) (k_cmp2 w op pU P)) := Iff.rfl
def k_pr (s : S) (P : D × S → Prop) : D → Prop := fun p => P (p, s)
theorem k_pr_ (s : S) (P : D × S → Prop) (pU : D) : k_pr s P pU ↔ (P (pU, s)) := Iff.rfl
def k_chn4 (o2 : CmpOp) (y : D) (P : D × S → Prop) : D × S → Prop := fun p => OP (cmpD p.2.m o2 y p.1) (k_pr p.2 P)
theorem k_chn4_ (o2 : CmpOp) (y : D) (P : D × S → Prop) (pU : D) (pV : S) : k_chn4 o2 y P (pU, pV) ↔ (OP (cmpD pV.m o2 y pU) (k_pr pV P)) := Iff.rfl
def k_chn3 (w : W) (o2 : CmpOp) (c : Ex) (y : D) (s : S) (P : D × S → Prop) : D → Prop := fun p => ∃ k, p = .bl k ∧ (if k = true then OP (evE w c s) (k_chn4 o2 y P) else P (.bl false, s))
theorem k_chn3_ (w : W) (o2 : CmpOp) (c : Ex) (y : D) (s : S) (P : D × S → Prop) (pU : D) : k_chn3 w o2 c y s P pU ↔ (∃ k, pU = .bl k ∧ (if k = true then OP (evE w c s) (k_chn4 o2 y P) else P (.bl false, s))) := Iff.rfl
def k_chn2 (w : W) (o1 o2 : CmpOp) (c : Ex) (x : D) (P : D × S → Prop) : D × S → Prop := fun p => OP (cmpD p.2.m o1 x p.1) (k_chn3 w o2 c p.1 p.2 P)
theorem k_chn2_ (w : W) (o1 o2 : CmpOp) (c : Ex) (x : D) (P : D × S → Prop) (pU : D) (pV : S) : k_chn2 w o1 o2 c x P (pU, pV) ↔ (OP (cmpD pV.m o1 x pU) (k_chn3 w o2 c pU pV P)) := Iff.rfl
def k_chn (w : W) (o1 o2 : CmpOp) (b c : Ex) (P : D × S → Prop) : D × S → Prop := fun p => OP (evE w b p.2) (k_chn2 w o1 o2 c p.1 P)
theorem k_chn_ (w : W) (o1 o2 : CmpOp) (b c : Ex) (P : D × S → Prop) (pU : D) (pV : S) : k_chn w o1 o2 b c P (pU, pV) ↔ (OP (evE w b pV) (k_chn2 w o1 o2 c pU P)) := Iff.rfl
def k_and (w : W) (b : Ex) (P : D × S → Prop) : D × S → Prop := fun p => ∃ k, p.1 = .bl k ∧ (if k = true then OP (evE w b p.2) P else P (.bl false, p.2))
theorem k_and_ (w : W) (b : Ex) (P : D × S → Prop) (pU : D) (pV : S) : k_and w b P (pU, pV) ↔ (∃ k, pU = .bl k ∧ (if k = true then OP (evE w b pV) P else P (.bl false, pV))) := Iff.rfl
def k_or (w : W) (b : Ex) (P : D × S → Prop) : D × S → Prop := fun p => ∃ k, p.1 = .bl k ∧ (if k = true then P (.bl true, p.2) else OP (evE w b p.2) P)
theorem k_or_ (w : W) (b : Ex) (P : D × S → Prop) (pU : D) (pV : S) : k_or w b P (pU, pV) ↔ (∃ k, pU = .bl k ∧ (if k = true then P (.bl true, pV) else OP (evE w b pV) P)) := Iff.rfl
def k_not (P : D × S → Prop) : D × S → Prop := fun p => ∃ k, p.1 = .bl k ∧ P (.bl (!k), p.2)
theorem k_not_ (P : D × S → Prop) (pU : D) (pV : S) : k_not P (pU, pV) ↔ (∃ k, pU = .bl k ∧ P (.bl (!k), pV)) := Iff.rfl
def k_ite (w : W) (b c : Ex) (P : D × S → Prop) : D × S → Prop := fun p => ∃ k, p.1 = .bl k ∧ (if k = true then OP (evE w b p.2) P else OP (evE w c p.2) P)
theorem k_ite_ (w : W) (b c : Ex) (P : D × S → Prop) (pU : D) (pV : S) : k_ite w b c P (pU, pV) ↔ (∃ k, pU = .bl k ∧ (if k = true then OP (evE w b pV) P else OP (evE w c pV) P)) := Iff.rfl
def k_tup (P : D × S → Prop) : List D × S → Prop := fun p => p.1.length ≤ sizeL ∧ P (.tup p.1, p.2)
theorem k_tup_ (P : D × S → Prop) (pU : List D) (pV : S) : k_tup P (pU, pV) ↔ (pU.length ≤ sizeL ∧ P (.tup pU, pV)) := Iff.rfl
def k_lst (P : D × S → Prop) : List D × S → Prop := fun p => p.1.length ≤ sizeL ∧ P (.lst p.1, p.2)
theorem k_lst_ (P : D × S → Prop) (pU : List D) (pV : S) : k_lst P (pU, pV) ↔ (pU.length ≤ sizeL ∧ P (.lst pU, pV)) := Iff.rfl
def k_dsp (k : Nat) (P : D × S → Prop) : List D × S → Prop := fun p => p.2.m[k]? = some (.dct []) ∧ P (.ref k, ⟨p.2.e, p.2.m.set k (.dct p.1)⟩)
theorem k_dsp_ (k : Nat) (P : D × S → Prop) (pU : List D) (pV : S) : k_dsp k P (pU, pV) ↔ (pV.m[k]? = some (.dct []) ∧ P (.ref k, ⟨pV.e, pV.m.set k (.dct pU)⟩)) := Iff.rfl
def k_ds12 (k : Nat) (x : D) (P : D × S → Prop) : D × S → Prop := fun p => (keyT x = true ∧ p.2.m[k]? = some (.dct [])) ∧ P (.ref k, ⟨p.2.e, p.2.m.set k (.dct [.tup [x, p.1]])⟩)
theorem k_ds12_ (k : Nat) (x : D) (P : D × S → Prop) (pU : D) (pV : S) : k_ds12 k x P (pU, pV) ↔ ((keyT x = true ∧ pV.m[k]? = some (.dct [])) ∧ P (.ref k, ⟨pV.e, pV.m.set k (.dct [.tup [x, pU]])⟩)) := Iff.rfl
def k_ds11 (w : W) (b : Ex) (k : Nat) (P : D × S → Prop) : D × S → Prop := fun p => OP (evE w b p.2) (k_ds12 k p.1 P)
theorem k_ds11_ (w : W) (b : Ex) (k : Nat) (P : D × S → Prop) (pU : D) (pV : S) : k_ds11 w b k P (pU, pV) ↔ (OP (evE w b pV) (k_ds12 k pU P)) := Iff.rfl
def k_sub2 (w : W) (x : D) (P : D × S → Prop) : D × S → Prop := fun p => OP (subF w x p.1 p.2) P
theorem k_sub2_ (w : W) (x : D) (P : D × S → Prop) (pU : D) (pV : S) : k_sub2 w x P (pU, pV) ↔ (OP (subF w x pU pV) P) := Iff.rfl
def k_sub (w : W) (b : Ex) (P : D × S → Prop) : D × S → Prop := fun p => OP (evE w b p.2) (k_sub2 w p.1 P)
theorem k_sub_ (w : W) (b : Ex) (P : D × S → Prop) (pU : D) (pV : S) : k_sub w b P (pU, pV) ↔ (OP (evE w b pV) (k_sub2 w pU P)) := Iff.rfl
def k_slc3 (x : D) (l : Option Int) (P : D × S → Prop) : Option Int × S → Prop := fun p => OP (slcD p.2.m x l p.1) (k_pr p.2 P)
theorem k_slc3_ (x : D) (l : Option Int) (P : D × S → Prop) (pU : Option Int) (pV : S) : k_slc3 x l P (pU, pV) ↔ (OP (slcD pV.m x l pU) (k_pr pV P)) := Iff.rfl
def k_slc2 (w : W) (hi : Exo) (x : D) (P : D × S → Prop) : Option Int × S → Prop := fun p => OP (evO w hi p.2) (k_slc3 x p.1 P)
theorem k_slc2_ (w : W) (hi : Exo) (x : D) (P : D × S → Prop) (pU : Option Int) (pV : S) : k_slc2 w hi x P (pU, pV) ↔ (OP (evO w hi pV) (k_slc3 x pU P)) := Iff.rfl
def k_slc (w : W) (lo hi : Exo) (P : D × S → Prop) : D × S → Prop := fun p => OP (evO w lo p.2) (k_slc2 w hi p.1 P)
theorem k_slc_ (w : W) (lo hi : Exo) (P : D × S → Prop) (pU : D) (pV : S) : k_slc w lo hi P (pU, pV) ↔ (OP (evO w lo pV) (k_slc2 w hi pU P)) := Iff.rfl
def k_rev (P : D × S → Prop) : D × S → Prop := fun p => OP (revD p.2.m p.1) (k_pr p.2 P)
theorem k_rev_ (P : D × S → Prop) (pU : D) (pV : S) : k_rev P (pU, pV) ↔ (OP (revD pV.m pU) (k_pr pV P)) := Iff.rfl
def k_fld (f : Nat) (P : D × S → Prop) : D × S → Prop := fun p => OP (fldD p.2.m p.1 f) (k_pr p.2 P)
theorem k_fld_ (f : Nat) (P : D × S → Prop) (pU : D) (pV : S) : k_fld f P (pU, pV) ↔ (OP (fldD pV.m pU f) (k_pr pV P)) := Iff.rfl
def k_prp (w : W) (f : Nat) (P : D × S → Prop) : D × S → Prop := fun p => OP (callM w p.1 f [] p.2) P
theorem k_prp_ (w : W) (f : Nat) (P : D × S → Prop) (pU : D) (pV : S) : k_prp w f P (pU, pV) ↔ (OP (callM w pU f [] pV) P) := Iff.rfl
def k_kcn (w : W) (f : Nat) (P : D × S → Prop) : D × S → Prop := fun p => ∃ cl, clsOf p.2.m p.1 = some cl ∧ ∃ d, w.kcon cl f = some d ∧ P (d, p.2)
theorem k_kcn_ (w : W) (f : Nat) (P : D × S → Prop) (pU : D) (pV : S) : k_kcn w f P (pU, pV) ↔ (∃ cl, clsOf pV.m pU = some cl ∧ ∃ d, w.kcon cl f = some d ∧ P (d, pV)) := Iff.rfl
def k_cal2 (e : List (Option D)) (P : D × S → Prop) : D × List MO → Prop := fun p => P (p.1, ⟨e, p.2⟩)
theorem k_cal2_ (e : List (Option D)) (P : D × S → Prop) (pU : D) (pV : List MO) : k_cal2 e P (pU, pV) ↔ (P (pU, ⟨e, pV⟩)) := Iff.rfl
def k_cal (w : W) (f : Nat) (P : D × S → Prop) : List D × S → Prop := fun p => OP (w.call f p.1 p.2.m) (k_cal2 p.2.e P)
theorem k_cal_ (w : W) (f : Nat) (P : D × S → Prop) (pU : List D) (pV : S) : k_cal w f P (pU, pV) ↔ (OP (w.call f pU pV.m) (k_cal2 pV.e P)) := Iff.rfl
def k_mth2 (w : W) (g : Nat) (x : D) (P : D × S → Prop) : List D × S → Prop := fun p => OP (w.call g (x :: p.1) p.2.m) (k_cal2 p.2.e P)
theorem k_mth2_ (w : W) (g : Nat) (x : D) (P : D × S → Prop) (pU : List D) (pV : S) : k_mth2 w g x P (pU, pV) ↔ (OP (w.call g (x :: pU) pV.m) (k_cal2 pV.e P)) := Iff.rfl
def k_mth (w : W) (f : Nat) (es : Exs) (P : D × S → Prop) : D × S → Prop := fun p => ∃ cl, clsOf p.2.m p.1 = some cl ∧ ∃ g, w.meth cl f = some g ∧ OP (evEs w es p.2) (k_mth2 w g p.1 P)
theorem k_mth_ (w : W) (f : Nat) (es : Exs) (P : D × S → Prop) (pU : D) (pV : S) : k_mth w f es P (pU, pV) ↔ (∃ cl, clsOf pV.m pU = some cl ∧ ∃ g, w.meth cl f = some g ∧ OP (evEs w es pV) (k_mth2 w g pU P)) := Iff.rfl
def k_ctr (w : W) (f : Nat) (P : D × S → Prop) : List D × S → Prop := fun p => OP (makeD w f p.1 p.2) P
theorem k_ctr_ (w : W) (f : Nat) (P : D × S → Prop) (pU : List D) (pV : S) : k_ctr w f P (pU, pV) ↔ (OP (makeD w f pU pV) P) := Iff.rfl
def k_app2 (w : W) (x : D) (P : D × S → Prop) : List D × S → Prop := fun p => OP (callM w x 0 p.1 p.2) P
theorem k_app2_ (w : W) (x : D) (P : D × S → Prop) (pU : List D) (pV : S) : k_app2 w x P (pU, pV) ↔ (OP (callM w x 0 pU pV) P) := Iff.rfl
def k_app (w : W) (es : Exs) (P : D × S → Prop) : D × S → Prop := fun p => isOwn p.2.m p.1 = true ∧ OP (evEs w es p.2) (k_app2 w p.1 P)
theorem k_app_ (w : W) (es : Exs) (P : D × S → Prop) (pU : D) (pV : S) : k_app w es P (pU, pV) ↔ (isOwn pV.m pU = true ∧ OP (evEs w es pV) (k_app2 w pU P)) := Iff.rfl
def k_bif (w : W) (f : Bi) (P : D × S → Prop) : List D × S → Prop := fun p => OP (bifF w f p.1 p.2) P
theorem k_bif_ (w : W) (f : Bi) (P : D × S → Prop) (pU : List D) (pV : S) : k_bif w f P (pU, pV) ↔ (OP (bifF w f pU pV) P) := Iff.rfl
def k_bmt2 (f : Bm) (x : D) (P : D × S → Prop) : List D × S → Prop := fun p => OP (bmD p.2.m f x p.1) (k_cal2 p.2.e P)
theorem k_bmt2_ (f : Bm) (x : D) (P : D × S → Prop) (pU : List D) (pV : S) : k_bmt2 f x P (pU, pV) ↔ (OP (bmD pV.m f x pU) (k_cal2 pV.e P)) := Iff.rfl
def k_bmt (w : W) (f : Bm) (es : Exs) (P : D × S → Prop) : D × S → Prop := fun p => kindM p.2.m f p.1 = true ∧ OP (evEs w es p.2) (k_bmt2 f p.1 P)
theorem k_bmt_ (w : W) (f : Bm) (es : Exs) (P : D × S → Prop) (pU : D) (pV : S) : k_bmt w f es P (pU, pV) ↔ (kindM pV.m f pU = true ∧ OP (evEs w es pV) (k_bmt2 f pU P)) := Iff.rfl
def k_isi2 (s : S) (P : D × S → Prop) : Bool → Prop := fun p => P (.bl p, s)
theorem k_isi2_ (s : S) (P : D × S → Prop) (pU : Bool) : k_isi2 s P pU ↔ (P (.bl pU, s)) := Iff.rfl
def k_isi (t : Ty) (P : D × S → Prop) : D × S → Prop := fun p => OP (isiD p.2.m p.1 t) (k_isi2 p.2 P)
theorem k_isi_ (t : Ty) (P : D × S → Prop) (pU : D) (pV : S) : k_isi t P (pU, pV) ↔ (OP (isiD pV.m pU t) (k_isi2 pV P)) := Iff.rfl
def k_fst (P : D × S → Prop) : D × S → Prop := fun p => ∃ i, p.1 = .int i ∧ i.natAbs < 2 ^ 1900 ∧ P (.str (Str.ofString "near:" ++ strOfInt i), p.2)
theorem k_fst_ (P : D × S → Prop) (pU : D) (pV : S) : k_fst P (pU, pV) ↔ (∃ i, pU = .int i ∧ i.natAbs < 2 ^ 1900 ∧ P (.str (Str.ofString "near:" ++ strOfInt i), pV)) := Iff.rfl
def k_es2 (x : D) (R : List D × S → Prop) : List D × S → Prop := fun p => R (x :: p.1, p.2)
theorem k_es2_ (x : D) (R : List D × S → Prop) (pU : List D) (pV : S) : k_es2 x R (pU, pV) ↔ (R (x :: pU, pV)) := Iff.rfl
def k_es (w : W) (r : Exs) (R : List D × S → Prop) : D × S → Prop := fun p => OP (evEs w r p.2) (k_es2 p.1 R)
theorem k_es_ (w : W) (r : Exs) (R : List D × S → Prop) (pU : D) (pV : S) : k_es w r R (pU, pV) ↔ (OP (evEs w r pV) (k_es2 pU R)) := Iff.rfl
def k_st2 (ys : List D) (R : List D × S → Prop) : List D × S → Prop := fun p => R (ys ++ p.1, p.2)
theorem k_st2_ (ys : List D) (R : List D × S → Prop) (pU : List D) (pV : S) : k_st2 ys R (pU, pV) ↔ (R (ys ++ pU, pV)) := Iff.rfl
def k_st (w : W) (r : Exs) (R : List D × S → Prop) : D × S → Prop := fun p => ∃ ys, seqOf p.2.m p.1 = some ys ∧ OP (evEs w r p.2) (k_st2 ys R)
theorem k_st_ (w : W) (r : Exs) (R : List D × S → Prop) (pU : D) (pV : S) : k_st w r R (pU, pV) ↔ (∃ ys, seqOf pV.m pU = some ys ∧ OP (evEs w r pV) (k_st2 ys R)) := Iff.rfl
def k_o (R : Option Int × S → Prop) : D × S → Prop := fun p => ∃ i, p.1 = .int i ∧ R (some i, p.2)
theorem k_o_ (R : Option Int × S → Prop) (pU : D) (pV : S) : k_o R (pU, pV) ↔ (∃ i, pU = .int i ∧ R (some i, pV)) := Iff.rfl
def k_a (w : W) (r : Exs) (R : Bool × S → Prop) : D × S → Prop := fun p => ∃ k, p.1 = .bl k ∧ (if k = true then OP (evA w r p.2) R else R (false, p.2))
theorem k_a_ (w : W) (r : Exs) (R : Bool × S → Prop) (pU : D) (pV : S) : k_a w r R (pU, pV) ↔ (∃ k, pU = .bl k ∧ (if k = true then OP (evA w r pV) R else R (false, pV))) := Iff.rfl
def k_val (R : List D × S → Prop) : D × S → Prop := fun p => ∃ xs, walkD p.1 = some xs ∧ R (xs, p.2)
theorem k_val_ (R : List D × S → Prop) (pU : D) (pV : S) : k_val R (pU, pV) ↔ (∃ xs, walkD pU = some xs ∧ R (xs, pV)) := Iff.rfl
def k_enm (R : List D × S → Prop) : D × S → Prop := fun p => ∃ xs, seqV p.1 = some xs ∧ R (enumL 0 xs, p.2)
theorem k_enm_ (R : List D × S → Prop) (pU : D) (pV : S) : k_enm R (pU, pV) ↔ (∃ xs, seqV pU = some xs ∧ R (enumL 0 xs, pV)) := Iff.rfl
def k_zip2 (x : D) (R : List D × S → Prop) : D × S → Prop := fun p => ∃ xs, zipD x p.1 = some xs ∧ R (xs, p.2)
theorem k_zip2_ (x : D) (R : List D × S → Prop) (pU : D) (pV : S) : k_zip2 x R (pU, pV) ↔ (∃ xs, zipD x pU = some xs ∧ R (xs, pV)) := Iff.rfl
def k_zip (w : W) (b : Ex) (R : List D × S → Prop) : D × S → Prop := fun p => OP (evE w b p.2) (k_zip2 p.1 R)
theorem k_zip_ (w : W) (b : Ex) (R : List D × S → Prop) (pU : D) (pV : S) : k_zip w b R (pU, pV) ↔ (OP (evE w b pV) (k_zip2 pU R)) := Iff.rfl
def k_rng2 (s : S) (R : List D × S → Prop) : List D → Prop := fun p => R (p, s)
theorem k_rng2_ (s : S) (R : List D × S → Prop) (pU : List D) : k_rng2 s R pU ↔ (R (pU, s)) := Iff.rfl
def k_rng (R : List D × S → Prop) : List D × S → Prop := fun p => OP (rngD p.1) (k_rng2 p.2 R)
theorem k_rng_ (R : List D × S → Prop) (pU : List D) (pV : S) : k_rng R (pU, pV) ↔ (OP (rngD pU) (k_rng2 pV R)) := Iff.rfl
def k_itm (R : List D × S → Prop) : D × S → Prop := fun p => ∃ xs, lkI p.2.m p.1 = some xs ∧ R (xs, p.2)
theorem k_itm_ (R : List D × S → Prop) (pU : D) (pV : S) : k_itm R (pU, pV) ↔ (∃ xs, lkI pV.m pU = some xs ∧ R (xs, pV)) := Iff.rfl
def k_itf (R : List D × S → Prop) : D × S → Prop := fun p => ∃ xs, dctV p.1 = some xs ∧ kindOk xs (.int 0) = true ∧ R (xs, p.2)
theorem k_itf_ (R : List D × S → Prop) (pU : D) (pV : S) : k_itf R (pU, pV) ↔ (∃ xs, dctV pU = some xs ∧ kindOk xs (.int 0) = true ∧ R (xs, pV)) := Iff.rfl
def k_lkv (R : List D × S → Prop) : D × S → Prop := fun p => ∃ xs, lkV p.2.m p.1 = some xs ∧ R (xs, p.2)
theorem k_lkv_ (R : List D × S → Prop) (pU : D) (pV : S) : k_lkv R (pU, pV) ↔ (∃ xs, lkV pV.m pU = some xs ∧ R (xs, pV)) := Iff.rfl
def k_frn (n : Nat) (e : List (Option D)) (P : D × S → Prop) : D × S → Prop := fun p => ∃ k, p.1 = .ref k ∧ frnP k n p.2 e P
theorem k_frn_ (n : Nat) (e : List (Option D)) (P : D × S → Prop) (pU : D) (pV : S) : k_frn n e P (pU, pV) ↔ (∃ k, pU = .ref k ∧ frnP k n pV e P) := Iff.rfl
def k_lok2 (k : Nat) (o mo : MO) (P : D × S → Prop) : D × S → Prop := fun p => p.2.m[k]? = some mo ∧ P (p.1, ⟨p.2.e, p.2.m.set k o⟩)
theorem k_lok2_ (k : Nat) (o mo : MO) (P : D × S → Prop) (pU : D) (pV : S) : k_lok2 k o mo P (pU, pV) ↔ (pV.m[k]? = some mo ∧ P (pU, ⟨pV.e, pV.m.set k o⟩)) := Iff.rfl
def k_lok (w : W) (b : Ex) (s : S) (P : D × S → Prop) : D × S → Prop := fun p => ∃ k, p.1 = .ref k ∧ ∃ o mo, s.m[k]? = some o ∧ lckM o = some mo ∧ OP (evE w b ⟨s.e, s.m.set k mo⟩) (k_lok2 k o mo P)
theorem k_lok_ (w : W) (b : Ex) (s : S) (P : D × S → Prop) (pU : D) (pV : S) : k_lok w b s P (pU, pV) ↔ (∃ k, pU = .ref k ∧ ∃ o mo, s.m[k]? = some o ∧ lckM o = some mo ∧ OP (evE w b ⟨s.e, s.m.set k mo⟩) (k_lok2 k o mo P)) := Iff.rfl
def k_gsb3 (e : List (Option D)) (R : S → Prop) : List MO → Prop := fun p => R ⟨e, p⟩
theorem k_gsb3_ (e : List (Option D)) (R : S → Prop) (pU : List MO) : k_gsb3 e R pU ↔ (R ⟨e, pU⟩) := Iff.rfl
def k_gsb2 (o x : D) (R : S → Prop) : D × S → Prop := fun p => OP (putD p.2.m o p.1 x) (k_gsb3 p.2.e R)
theorem k_gsb2_ (o x : D) (R : S → Prop) (pU : D) (pV : S) : k_gsb2 o x R (pU, pV) ↔ (OP (putD pV.m o pU x) (k_gsb3 pV.e R)) := Iff.rfl
def k_gsb (w : W) (b : Ex) (x : D) (R : S → Prop) : D × S → Prop := fun p => OP (evE w b p.2) (k_gsb2 p.1 x R)
theorem k_gsb_ (w : W) (b : Ex) (x : D) (R : S → Prop) (pU : D) (pV : S) : k_gsb w b x R (pU, pV) ↔ (OP (evE w b pV) (k_gsb2 pU x R)) := Iff.rfl
def k_gat (f : Nat) (x : D) (R : S → Prop) : D × S → Prop := fun p => ∃ k, p.1 = .ref k ∧ ∃ c fs, p.2.m[k]? = some (.obj c fs) ∧ hasF c f = true ∧ fs.length < 16 ∧ R ⟨p.2.e, p.2.m.set k (.obj c (fput fs f x))⟩
theorem k_gat_ (f : Nat) (x : D) (R : S → Prop) (pU : D) (pV : S) : k_gat f x R (pU, pV) ↔ (∃ k, pU = .ref k ∧ ∃ c fs, pV.m[k]? = some (.obj c fs) ∧ hasF c f = true ∧ fs.length < 16 ∧ R ⟨pV.e, pV.m.set k (.obj c (fput fs f x))⟩) := Iff.rfl
def k_gs (w : W) (ts : Tgs) (xs : List D) (R : S → Prop) : S → Prop := fun p => OP (asgs w ts xs p) R
theorem k_gs_ (w : W) (ts : Tgs) (xs : List D) (R : S → Prop) (pU : S) : k_gs w ts xs R pU ↔ (OP (asgs w ts xs pU) R) := Iff.rfl
def k_ss (w : W) (x : Option (Nat × D)) (r : List Sm) (P : Ctl × S → Prop) : S → Prop := fun p => OP (exSs w x r p) P
theorem k_ss_ (w : W) (x : Option (Nat × D)) (r : List Sm) (P : Ctl × S → Prop) (pU : S) : k_ss w x r P pU ↔ (OP (exSs w x r pU) P) := Iff.rfl
def k_tasg (w : W) (x : Option (Nat × D)) (t : Tg) (r : List Sm) (P : Ctl × S → Prop) : D × S → Prop := fun p => OP (asg w t p.1 p.2) (k_ss w x r P)
theorem k_tasg_ (w : W) (x : Option (Nat × D)) (t : Tg) (r : List Sm) (P : Ctl × S → Prop) (pU : D) (pV : S) : k_tasg w x t r P (pU, pV) ↔ (OP (asg w t pU pV) (k_ss w x r P)) := Iff.rfl
def k_tpar (w : W) (x : Option (Nat × D)) (t : Tgs) (r : List Sm) (P : Ctl × S → Prop) : List D × S → Prop := fun p => OP (asgs w t p.1 p.2) (k_ss w x r P)
theorem k_tpar_ (w : W) (x : Option (Nat × D)) (t : Tgs) (r : List Sm) (P : Ctl × S → Prop) (pU : List D) (pV : S) : k_tpar w x t r P (pU, pV) ↔ (OP (asgs w t pU pV) (k_ss w x r P)) := Iff.rfl
def k_taug2 (w : W) (x : Option (Nat × D)) (k : Nat) (s : S) (r : List Sm) (P : Ctl × S → Prop) : D → Prop := fun p => OP (exSs w x r ⟨s.e.set k (some p), s.m⟩) P
theorem k_taug2_ (w : W) (x : Option (Nat × D)) (k : Nat) (s : S) (r : List Sm) (P : Ctl × S → Prop) (pU : D) : k_taug2 w x k s r P pU ↔ (OP (exSs w x r ⟨s.e.set k (some pU), s.m⟩) P) := Iff.rfl
def k_taug (w : W) (x : Option (Nat × D)) (k : Nat) (op : Operator) (d : D) (r : List Sm) (P : Ctl × S → Prop) : D × S → Prop := fun p => OP (augD op d p.1) (k_taug2 w x k p.2 r P)
theorem k_taug_ (w : W) (x : Option (Nat × D)) (k : Nat) (op : Operator) (d : D) (r : List Sm) (P : Ctl × S → Prop) (pU : D) (pV : S) : k_taug w x k op d r P (pU, pV) ↔ (OP (augD op d pU) (k_taug2 w x k pV r P)) := Iff.rfl
def k_texp (w : W) (x : Option (Nat × D)) (r : List Sm) (P : Ctl × S → Prop) : D × S → Prop := fun p => OP (exSs w x r p.2) P
theorem k_texp_ (w : W) (x : Option (Nat × D)) (r : List Sm) (P : Ctl × S → Prop) (pU : D) (pV : S) : k_texp w x r P (pU, pV) ↔ (OP (exSs w x r pV) P) := Iff.rfl
def k_tifs (w : W) (x : Option (Nat × D)) (u v : List Sm) (P : Ctl × S → Prop) : D × S → Prop := fun p => ∃ k, p.1 = .bl k ∧ (if k = true then OP (exSs w x u p.2) P else OP (exSs w x v p.2) P)
theorem k_tifs_ (w : W) (x : Option (Nat × D)) (u v : List Sm) (P : Ctl × S → Prop) (pU : D) (pV : S) : k_tifs w x u v P (pU, pV) ↔ (∃ k, pU = .bl k ∧ (if k = true then OP (exSs w x u pV) P else OP (exSs w x v pV) P)) := Iff.rfl
def k_tret (P : Ctl × S → Prop) : D × S → Prop := fun p => P (.ret p.1, p.2)
theorem k_tret_ (P : Ctl × S → Prop) (pU : D) (pV : S) : k_tret P (pU, pV) ↔ (P (.ret pU, pV)) := Iff.rfl
def k_tfor (w : W) (x : Option (Nat × D)) (t : Tg) (u r : List Sm) (P : Ctl × S → Prop) : List D × S → Prop := fun p => OP (forL (forF w x t u) p.1 p.2) (NxP w x r P)
theorem k_tfor_ (w : W) (x : Option (Nat × D)) (t : Tg) (u r : List Sm) (P : Ctl × S → Prop) (pU : List D) (pV : S) : k_tfor w x t u r P (pU, pV) ↔ (OP (forL (forF w x t u) pU pV) (NxP w x r P)) := Iff.rfl
def k_tlk2 (w : W) (x : Option (Nat × D)) (k : Nat) (o mo : MO) (r : List Sm) (P : Ctl × S → Prop) : Ctl × S → Prop := fun p => p.2.m[k]? = some mo ∧ NxP w x r P (p.1, ⟨p.2.e, p.2.m.set k o⟩)
theorem k_tlk2_ (w : W) (x : Option (Nat × D)) (k : Nat) (o mo : MO) (r : List Sm) (P : Ctl × S → Prop) (pU : Ctl) (pV : S) : k_tlk2 w x k o mo r P (pU, pV) ↔ (pV.m[k]? = some mo ∧ NxP w x r P (pU, ⟨pV.e, pV.m.set k o⟩)) := Iff.rfl
def k_tlok (w : W) (x : Option (Nat × D)) (b : Sm) (r : List Sm) (s : S) (P : Ctl × S → Prop) : D × S → Prop := fun p => ∃ k, p.1 = .ref k ∧ ∃ o mo, s.m[k]? = some o ∧ lckM o = some mo ∧ OP (exSs w x [b] ⟨s.e, s.m.set k mo⟩) (k_tlk2 w x k o mo r P)
theorem k_tlok_ (w : W) (x : Option (Nat × D)) (b : Sm) (r : List Sm) (s : S) (P : Ctl × S → Prop) (pU : D) (pV : S) : k_tlok w x b r s P (pU, pV) ↔ (∃ k, pU = .ref k ∧ ∃ o mo, s.m[k]? = some o ∧ lckM o = some mo ∧ OP (exSs w x [b] ⟨s.e, s.m.set k mo⟩) (k_tlk2 w x k o mo r P)) := Iff.rfl
def k_lcb (own : List Nat) (s : S) (P : D × S → Prop) : S → Prop := fun p => P (.ref s.m.length, backS own s p)
theorem k_lcb_ (own : List Nat) (s : S) (P : D × S → Prop) (pU : S) : k_lcb own s P pU ↔ (P (.ref s.m.length, backS own s pU)) := Iff.rfl
def k_lc (w : W) (e : Ex) (own : List Nat) (t : Tg) (ifs : Exs) (P : D × S → Prop) : List D × S → Prop := fun p => OP (lcL (lcG w e own t ifs p.2.m.length) p.1 ⟨p.2.e, p.2.m ++ [.lst []]⟩) (k_lcb own p.2 P)
theorem k_lc_ (w : W) (e : Ex) (own : List Nat) (t : Tg) (ifs : Exs) (P : D × S → Prop) (pU : List D) (pV : S) : k_lc w e own t ifs P (pU, pV) ↔ (OP (lcL (lcG w e own t ifs pV.m.length) pU ⟨pV.e, pV.m ++ [.lst []]⟩) (k_lcb own pV P)) := Iff.rfl
def k_flcb (own : List Nat) (s : S) (P : D × S → Prop) : S → Prop := fun p => P (fzS (backS own s p) (.ref s.m.length))
theorem k_flcb_ (own : List Nat) (s : S) (P : D × S → Prop) (pU : S) : k_flcb own s P pU ↔ (P (fzS (backS own s pU) (.ref s.m.length))) := Iff.rfl
def k_flc (w : W) (e : Ex) (own : List Nat) (t : Tg) (ifs : Exs) (P : D × S → Prop) : List D × S → Prop := fun p => OP (lcL (lcG w e own t ifs p.2.m.length) p.1 ⟨p.2.e, p.2.m ++ [.lst []]⟩) (k_flcb own p.2 P)
theorem k_flc_ (w : W) (e : Ex) (own : List Nat) (t : Tg) (ifs : Exs) (P : D × S → Prop) (pU : List D) (pV : S) : k_flc w e own t ifs P (pU, pV) ↔ (OP (lcL (lcG w e own t ifs pV.m.length) pU ⟨pV.e, pV.m ++ [.lst []]⟩) (k_flcb own pV P)) := Iff.rfl
def k_ds2 (w : W) (r : Exs) (es : List D) (x : D) (R : List D × S → Prop) : D × S → Prop := fun p => (kindOk es x = true ∧ es.length < 15) ∧ OP (evDs w r p.2 (dput es x p.1)) R
theorem k_ds2_ (w : W) (r : Exs) (es : List D) (x : D) (R : List D × S → Prop) (pU : D) (pV : S) : k_ds2 w r es x R (pU, pV) ↔ ((kindOk es x = true ∧ es.length < 15) ∧ OP (evDs w r pV (dput es x pU)) R) := Iff.rfl
def k_ds (w : W) (b : Ex) (r : Exs) (es : List D) (R : List D × S → Prop) : D × S → Prop := fun p => OP (evE w b p.2) (k_ds2 w r es p.1 R)
theorem k_ds_ (w : W) (b : Ex) (r : Exs) (es : List D) (R : List D × S → Prop) (pU : D) (pV : S) : k_ds w b r es R (pU, pV) ↔ (OP (evE w b pV) (k_ds2 w r es pU R)) := Iff.rfl
section
variable {w : W} {s : S} {P : D × S → Prop} {a b c : Ex} {es : Exs} {x y : D} {i j : Int} {k : Nat} {R : List D × S → Prop}
theorem q_cst {d : D} : OP (evE w (.cst d) s) P ↔ P (d, s) := r_cst
theorem q_var : OP (evE w (.var k) s) P ↔ ∃ d, s.e[k]? = some (some d) ∧ P (d, s) := r_var
theorem q_frzV : OP (evE w (.frz (.var k)) s) P ↔ OP (evE w (.var k) s) (k_frz P) := r_frz
theorem q_frzD {ps : Exs} : OP (evE w (.frz (.dsp ps)) s) P ↔ OP (evE w (.dsp ps) s) (k_frz P) := r_frz
theorem q_frzC {v : Ex} {own : List Nat} {t : Tg} {it : It} : OP (evE w (.frz (.dc a v own t it)) s) P ↔ OP (evE w (.dc a v own t it) s) (k_frz P) := r_frz
theorem q_frz2 {own o1 : List Nat} {t t1 : Tg} {it it1 : It} : OP (evE w (.frz (.lc2 a own o1 t it t1 it1)) s) P ↔ OP (evE w (.lc2 a own o1 t it t1 it1) s) (k_frz P) := r_frz
theorem q_new : OP (evE w (.new a) s) P ↔ OP (evE w a s) (k_new P) := r_new
theorem q_bin {op : Operator} : OP (evE w (.bin op a b) s) P ↔ OP (evE w a s) (k_bin w op b P) := r_bin
theorem q_neg : OP (evE w (.neg a) s) P ↔ OP (evE w a s) (k_neg w P) := r_neg
theorem q_oeq {ne : Bool} : OP (evE w (.oeq ne a b) s) P ↔ OP (evE w a s) (k_oeq w ne b P) := r_oeq
theorem q_cmp {op : CmpOp} : OP (evE w (.cmp op a b) s) P ↔ OP (evE w a s) (k_cmp w op b P) := r_cmp
theorem q_chn {o1 o2 : CmpOp} : OP (evE w (.chn o1 o2 a b c) s) P ↔ OP (evE w a s) (k_chn w o1 o2 b c P) := r_chn
theorem q_and : OP (evE w (.and a b) s) P ↔ OP (evE w a s) (k_and w b P) := r_and
theorem q_or : OP (evE w (.or a b) s) P ↔ OP (evE w a s) (k_or w b P) := r_or
theorem q_not : OP (evE w (.not a) s) P ↔ OP (evE w a s) (k_not P) := r_not
theorem q_ite : OP (evE w (.ite a b c) s) P ↔ OP (evE w a s) (k_ite w b c P) := r_ite
theorem q_tup : OP (evE w (.tup es) s) P ↔ OP (evEs w es s) (k_tup P) := r_tup
theorem q_lst : OP (evE w (.lst es) s) P ↔ OP (evEs w es s) (k_lst P) := r_lst
theorem q_dsp0 : OP (evE w (.dsp .nil) s) P ↔ P (.dct [], s) := r_dsp0
theorem q_ds1 : OP (evE w (.ds1 a b) s) P ↔ OP (evE w a ⟨s.e, s.m ++ [.dct []]⟩) (k_ds11 w b s.m.length P) := r_ds1
theorem q_frzD1 : OP (evE w (.frz (.ds1 a b)) s) P ↔ OP (evE w (.ds1 a b) s) (k_frz P) := r_frz
theorem q_sub : OP (evE w (.sub a b) s) P ↔ OP (evE w a s) (k_sub w b P) := r_sub
theorem q_slc {lo hi : Exo} : OP (evE w (.slc a lo hi) s) P ↔ OP (evE w a s) (k_slc w lo hi P) := r_slc
theorem q_rev : OP (evE w (.rev a) s) P ↔ OP (evE w a s) (k_rev P) := r_rev
theorem q_fld {f : Nat} : OP (evE w (.fld a f) s) P ↔ OP (evE w a s) (k_fld f P) := r_fld
theorem q_prp {f : Nat} : OP (evE w (.prp a f) s) P ↔ OP (evE w a s) (k_prp w f P) := r_prp
theorem q_kcn {f : Nat} : OP (evE w (.kcn a f) s) P ↔ OP (evE w a s) (k_kcn w f P) := r_kcn
theorem q_cal {f : Nat} : OP (evE w (.cal f es) s) P ↔ OP (evEs w es s) (k_cal w f P) := r_cal
theorem q_mth {f : Nat} : OP (evE w (.mth a f es) s) P ↔ OP (evE w a s) (k_mth w f es P) := r_mth
theorem q_smt {f cl : Nat} : OP (evE w (.smt f cl es) s) P ↔ OP (evEs w es s) (k_cal w f P) := r_smt
theorem q_ctr {f : Nat} : OP (evE w (.ctr f es) s) P ↔ OP (evEs w es s) (k_ctr w f P) := r_ctr
theorem q_ctv {f : Nat} : OP (evE w (.ctv k f es) s) P ↔ s.e[k]? = some (some (.cls f)) ∧ OP (evEs w es s) (k_ctr w f P) := r_ctv
theorem q_app : OP (evE w (.app a es) s) P ↔ OP (evE w a s) (k_app w es P) := r_app
theorem q_bif {f : Bi} : OP (evE w (.bif f es) s) P ↔ OP (evEs w es s) (k_bif w f P) := r_bif
theorem q_bmt {f : Bm} : OP (evE w (.bmt f a es) s) P ↔ OP (evE w a s) (k_bmt w f es P) := r_bmt
theorem q_isi {t : Ty} : OP (evE w (.isi a t) s) P ↔ OP (evE w a s) (k_isi t P) := r_isi
theorem q_fst : OP (evE w (.fst a) s) P ↔ OP (evE w a s) (k_fst P) := r_fst
theorem q_snil : OP (evEs w .nil s) R ↔ R ([], s) := rs_nil
theorem q_scons : OP (evEs w (.cons a es) s) R ↔ OP (evE w a s) (k_es w es R) := rs_cons
theorem q_sstar : OP (evEs w (.star a es) s) R ↔ OP (evE w a s) (k_st w es R) := rs_star
theorem q_onone {R : Option Int × S → Prop} : OP (evO w .none s) R ↔ R (none, s) := ro_none
theorem q_osome {R : Option Int × S → Prop} : OP (evO w (.some a) s) R ↔ OP (evE w a s) (k_o R) := ro_some
theorem q_anil {R : Bool × S → Prop} : OP (evA w .nil s) R ↔ R (true, s) := ra_nil
theorem q_acons {R : Bool × S → Prop} : OP (evA w (.cons a es) s) R ↔ OP (evE w a s) (k_a w es R) := ra_cons
theorem q_ival : OP (evI w (.val a) s) R ↔ OP (evE w a s) (k_val R) := ri_val
theorem q_ienm : OP (evI w (.enm a) s) R ↔ OP (evE w a s) (k_enm R) := ri_enm
theorem q_izip : OP (evI w (.zip a b) s) R ↔ OP (evE w a s) (k_zip w b R) := ri_zip
theorem q_irng : OP (evI w (.rng es) s) R ↔ OP (evEs w es s) (k_rng R) := ri_rng
theorem q_iitm : OP (evI w (.itm a) s) R ↔ OP (evE w a s) (k_itm R) := ri_itm
theorem q_iitf : OP (evI w (.itf a) s) R ↔ OP (evE w a s) (k_itf R) := ri_itf
theorem q_ilkv : OP (evI w (.lkv a) s) R ↔ OP (evE w a s) (k_lkv R) := ri_lkv
theorem q_frn : OP (evE w (.frn a) s) P ↔ OP (evE w a s) (k_frn s.m.length s.e P) := r_frn
theorem q_lok : OP (evE w (.lok a b) s) P ↔ OP (evE w a s) (k_lok w b s P) := r_lok
theorem q_gnm {R : S → Prop} : OP (asg w (.name k) x s) R ↔ R ⟨s.e.set k (some x), s.m⟩ := rg_nm
theorem q_gtp {R : S → Prop} {ts : Tgs} : OP (asg w (.tup ts) x s) R ↔ ∃ xs, seqOf s.m x = some xs ∧ xs.length = tgN ts ∧ OP (asgs w ts xs s) R := rg_tp
theorem q_gsb {R : S → Prop} : OP (asg w (.sub a b) x s) R ↔ OP (evE w a s) (k_gsb w b x R) := rg_sb
theorem q_gat {R : S → Prop} {f : Nat} : OP (asg w (.att a f) x s) R ↔ OP (evE w a s) (k_gat f x R) := rg_at
theorem q_gsnil {R : S → Prop} : OP (asgs w .nil [] s) R ↔ R s := rgs_nil
theorem q_gscons {R : S → Prop} {t : Tg} {ts : Tgs} {xs : List D} : OP (asgs w (.cons t ts) (x :: xs) s) R ↔ OP (asg w t x s) (k_gs w ts xs R) := rgs_cons
theorem q_dspC {r : Exs} : OP (evE w (.dsp (.cons a r)) s) P ↔ OP (evDs w (.cons a r) ⟨s.e, s.m ++ [.dct []]⟩ []) (k_dsp s.m.length P) := by simp only [evE, nilEs, Bool.false_eq_true, if_false, OP_bind, OP_gd, OP_ok, decide_eq_true_eq]; exact Iff.rfl
theorem q_dnil {l : List D} : OP (evDs w .nil s l) R ↔ R (l, s) := by simp only [evDs, OP_ok]
theorem q_dcons {r : Exs} {l : List D} : OP (evDs w (.cons a (.cons b r)) s l) R ↔ OP (evE w a s) (k_ds w b r l R) := by simp only [evDs, OP_bind, OP_gd, Bool.and_eq_true, decide_eq_true_eq]; exact Iff.rfl
theorem q_lc {e : Ex} {own : List Nat} {t : Tg} {it : It} {ifs : Exs} : OP (evE w (.lc e own t it ifs) s) P ↔ OP (evI w it s) (k_lc w e own t ifs P) := r_lc
theorem q_flc {e : Ex} {own : List Nat} {t : Tg} {it : It} {ifs : Exs} : OP (evE w (.frz (.lc e own t it ifs)) s) P ↔ OP (evI w it s) (k_flc w e own t ifs P) := r_flc
end
section
variable {w : W} {s : S} {P : Ctl × S → Prop} {a b c : Ex} {es : Exs} {x : Option (Nat × D)} {k : Nat} {u v r : List Sm}
theorem q_tnil : OP (exSs w x [] s) P ↔ P (.nx, s) := t_nil
theorem q_tasg {t : Tg} : OP (exSs w x (.asg t a :: r) s) P ↔ OP (evE w a s) (k_tasg w x t r P) := t_asg
theorem q_tpar {ts : Tgs} : OP (exSs w x (.par ts es :: r) s) P ↔ OP (evEs w es s) (k_tpar w x ts r P) := t_par
theorem q_taug {op : Operator} : OP (exSs w x (.aug k op a :: r) s) P ↔ ∃ d, s.e[k]? = some (some d) ∧ OP (evE w a s) (k_taug w x k op d r P) := t_aug
theorem q_texp : OP (exSs w x (.exp a :: r) s) P ↔ OP (evE w a s) (k_texp w x r P) := t_exp
theorem q_tifs : OP (exSs w x (.ifs a u v :: r) s) P ↔ OP (evE w a s) (k_tifs w x (u ++ r) (v ++ r) P) := t_ifs
theorem q_tret : OP (exSs w x (.ret a :: r) s) P ↔ OP (evE w a s) (k_tret P) := t_ret
theorem q_tpas : OP (exSs w x (.pas :: r) s) P ↔ OP (exSs w x r s) P := t_pas
theorem q_tfor {t : Tg} {it : It} : OP (exSs w x (.for t it u :: r) s) P ↔ OP (evI w it s) (k_tfor w x t u r P) := t_for
theorem q_tlok {b : Sm} : OP (exSs w x (.lok a b :: r) s) P ↔ OP (evE w a s) (k_tlok w x b r s P) := t_lok
theorem q_twhl : OP (exSs w x (.whl a u :: r) s) P ↔ OP (whlL (whlC w a) (fun s => exSs w x u s) w.fuel s) (NxP w x r P) := t_whl
end
section
variable {w : W} {P : D × S → Prop} {e : Ex} {own : List Nat} {t : Tg} {ifs : Exs}
theorem l_I {xs : List D} {e0 : List (Option D)} {m0 m1 : List MO} {k : Nat} (I : Nat → List D → List MO → Prop) (hn : nrE k e0) (hl : xs.length ≤ sizeL) (h0 : I 0 [] m0)
    (ht : ∀ i x ys m, xs[i]? = some x → I i ys m → m.length = m0.length → ys.length ≤ i → OP (asg w t x ⟨wipeE own e0, m ++ [.lst ys]⟩) (fun s => OP (evA w ifs s) (fun p => if p.1 = true then
      OP (evE w e p.2) (fun q => ∃ m', q.2.m = m' ++ [.lst ys] ∧ m'.length = m0.length ∧ outEq 0 own e0 q.2.e ∧ I (i + 1) (ys ++ [q.1]) m') else ∃ m', p.2.m = m' ++ [.lst ys] ∧ m'.length = m0.length ∧ outEq 0 own e0 p.2.e ∧ I (i + 1) ys m')))
    (hd : ∀ ys m, I xs.length ys m → m.length = m0.length → P (.lst ys, ⟨e0, m ++ [.dead]⟩)) (hk : k = m0.length := by first | rfl | simp) (hm1 : m1 = m0 ++ [.lst []] := by first | rfl | simp) : OP (lcL (lcG w e own t ifs k) xs ⟨e0, m1⟩) (k_flcb own ⟨e0, m0⟩ P) := by subst hk; subst hm1; exact lc_I I hn hl h0 ht hd
end
end SV
set_option linter.all false
set_option Elab.async false
set_option maxHeartbeats 4000000
set_option exponentiation.threshold 4000
namespace SV
open PySem
section
variable {w : W} {s : S} {P : D × S → Prop} {Q : D → Prop} {x y : D} {i j : Int} {k : Nat} {m : List MO} {xs ys : List D} {a b : Str}
theorem v_binF {op : Operator} (h : op ≠ .RShift) : OP (binF w op x y s) P ↔ OP (binD s.m op x y) (fun z => P (z, s)) := by
  unfold binF
  rw [if_neg h]
  simp only [OP_bind, OP_ok]
theorem v_add : OP (binF w .Add (.int i) (.int j) s) P ↔ P (.int (i + j), s) := by rw [v_binF (by decide)]; exact OP_ok
theorem v_addS : OP (binF w .Add (.str a) (.str b) s) P ↔ a.length + b.length ≤ sizeL ∧ P (.str (a ++ b), s) := by
  rw [v_binF (by decide)]
  simp only [binD, OP_bind, OP_gd, OP_ok, decide_eq_true_eq]
theorem v_addT : OP (binF w .Add (.tup xs) (.tup ys) s) P ↔ xs.length + ys.length ≤ sizeL ∧ P (.tup (xs ++ ys), s) := by
  rw [v_binF (by decide)]
  simp only [binD, OP_bind, OP_gd, OP_ok, decide_eq_true_eq]
theorem v_addL : OP (binF w .Add (.lst xs) (.lst ys) s) P ↔ xs.length + ys.length ≤ sizeL ∧ P (.lst (xs ++ ys), s) := by
  rw [v_binF (by decide)]
  simp only [binD, rslv, OP_bind, OP_gd, OP_ok, decide_eq_true_eq]
theorem v_sub : OP (binF w .Sub (.int i) (.int j) s) P ↔ P (.int (i - j), s) := by rw [v_binF (by decide)]; exact OP_ok
theorem v_mul : OP (binF w .Mult (.int i) (.int j) s) P ↔ ((-(2 ^ 64) < i ∧ i < 2 ^ 64) ∨ (-(2 ^ 64) < j ∧ j < 2 ^ 64)) ∧ P (.int (i * j), s) := by
  rw [v_binF (by decide)]
  simp only [binD, OP_bind, OP_gd, OP_ok, decide_eq_true_eq]
theorem v_mulT : OP (binF w .Mult (.tup xs) (.int j) s) P ↔ (xs ≠ [] ∧ xs.length ≤ 1000 ∧ -(2 ^ 62) < j ∧ j ≤ 1000) ∧ P (.tup (List.replicate j.toNat xs).flatten, s) := by
  rw [v_binF (by decide)]
  simp only [binD, OP_bind, OP_gd, OP_ok, decide_eq_true_eq]
theorem v_mulL : OP (binF w .Mult (.lst xs) (.int j) s) P ↔ (xs.length * j.toNat ≤ sizeL ∧ -(2 ^ 62) < j ∧ j < 2 ^ 62) ∧ P (.lst (List.replicate j.toNat xs).flatten, s) := by
  rw [v_binF (by decide)]
  simp only [binD, rslv, OP_bind, OP_gd, OP_ok, decide_eq_true_eq]
theorem v_div : OP (binF w .FloorDiv (.int i) (.int j) s) P ↔ (0 < j ∧ j < 2 ^ 62) ∧ P (.int (i / j), s) := by
  rw [v_binF (by decide)]
  simp only [binD, OP_bind, OP_gd, OP_ok, decide_eq_true_eq]
theorem v_mod : OP (binF w .Mod (.int i) (.int j) s) P ↔ 0 < j ∧ P (.int (i % j), s) := by
  rw [v_binF (by decide)]
  simp only [binD, OP_bind, OP_gd, OP_ok, decide_eq_true_eq]
theorem v_pow : OP (binF w .Pow (.int i) (.int j) s) P ↔ (0 ≤ j ∧ j ≤ 1000000 ∧ i.natAbs < 2 ^ 64) ∧ P (.int (i ^ j.toNat), s) := by
  rw [v_binF (by decide)]
  simp only [binD, OP_bind, OP_gd, OP_ok, decide_eq_true_eq]
theorem v_rsh : OP (binF w .RShift x y s) P ↔ clsOf s.m x = clsOf s.m y ∧ OP (callM w x 5 [y] s) P := by
  unfold binF
  rw [if_pos rfl]
  by_cases h : clsOf s.m x = clsOf s.m y
  · simp [h]
  · simp [h, OP_bad]
theorem v_neg : OP (negF w (.int i) s) P ↔ P (.int (-i), s) := OP_ok
theorem v_negI {c : Nat} : OP (negF w (.ins c xs) s) P ↔ OP (callM w (.ins c xs) 2 [] s) P := Iff.rfl
theorem v_aug : OP (augD .Add (.int i) (.int j)) Q ↔ Q (.int (i + j)) := OP_ok
theorem v_cmpN {op : CmpOp} (h : op ≠ .Eq) : OP (cmpF w op x y s) P ↔ OP (cmpD s.m op x y) (fun z => P (z, s)) := by
  unfold cmpF
  rw [if_neg (by simp [h])]
  simp only [OP_bind, OP_ok]
theorem v_cmpE (h : isOwn s.m x = false) : OP (cmpF w .Eq x y s) P ↔ OP (cmpD s.m .Eq x y) (fun z => P (z, s)) := by
  unfold cmpF
  rw [if_neg (by simp [h])]
  simp only [OP_bind, OP_ok]
theorem ne1 : (CmpOp.NotEq) ≠ .Eq := by decide
theorem ne2 : (CmpOp.Lt) ≠ .Eq := by decide
theorem ne3 : (CmpOp.Gt) ≠ .Eq := by decide
theorem ne4 : (CmpOp.LtE) ≠ .Eq := by decide
theorem ne5 : (CmpOp.GtE) ≠ .Eq := by decide
theorem ne6 : (CmpOp.Is) ≠ .Eq := by decide
theorem ne7 : (CmpOp.IsNot) ≠ .Eq := by decide
theorem ne8 : (CmpOp.In) ≠ .Eq := by decide
theorem ne9 : (CmpOp.NotIn) ≠ .Eq := by decide
/-- == by eqD -/
theorem d_eq {k : Bool} (h : eqD (rslv m x) (rslv m y) = some k) : OP (cmpD m .Eq x y) Q ↔ Q (.bl k) := by
  have : cmpD m .Eq x y = .ok (.bl k) := by unfold cmpD; dsimp only; rw [h]
  rw [this, OP_ok]
theorem d_ne {k : Bool} (h : eqD (rslv m x) (rslv m y) = some k) : OP (cmpD m .NotEq x y) Q ↔ Q (.bl (!k)) := by
  have : cmpD m .NotEq x y = .ok (.bl (!k)) := by unfold cmpD; dsimp only; rw [h]
  rw [this, OP_ok]
theorem c_eqI' : OP (cmpF w .Eq (.int i) (.int j) s) P ↔ P (.bl (decide (i = j)), s) := by
  rw [v_cmpE rfl, d_eq (k := decide (i = j))]
  rfl
theorem c_neI' : OP (cmpF w .NotEq (.int i) (.int j) s) P ↔ P (.bl (!decide (i = j)), s) := by
  rw [v_cmpN ne1, d_ne (k := decide (i = j))]
  rfl
theorem str_beq : (a == b) = decide (a = b) := by
  by_cases h : a = b
  · subst h; simp
  · simp [h]
theorem c_eqT : OP (cmpF w .Eq (.str a) (.str b) s) P ↔ P (.bl (decide (a = b)), s) := by
  rw [v_cmpE rfl, d_eq (k := decide (a = b))]
  show some (a == b) = _
  rw [str_beq]
theorem c_neT : OP (cmpF w .NotEq (.str a) (.str b) s) P ↔ P (.bl (!decide (a = b)), s) := by
  rw [v_cmpN ne1, d_ne (k := decide (a = b))]
  show some (a == b) = _
  rw [str_beq]
theorem d_lt : OP (cmpD m .Lt (.int i) (.int j)) Q ↔ Q (.bl (decide (i < j))) := OP_ok
theorem d_gt : OP (cmpD m .Gt (.int i) (.int j)) Q ↔ Q (.bl (decide (j < i))) := OP_ok
theorem not_lt_dec : (!decide (j < i)) = decide (i ≤ j) := by
  by_cases hh : j < i
  · rw [decide_eq_true hh, decide_eq_false (by omega)]; rfl
  · rw [decide_eq_false hh, decide_eq_true (by omega)]; rfl
theorem d_le : OP (cmpD m .LtE (.int i) (.int j)) Q ↔ Q (.bl (decide (i ≤ j))) := by
  show OP (Out.ok (D.bl (!decide (j < i)))) Q ↔ _
  rw [not_lt_dec, OP_ok]
theorem d_ge : OP (cmpD m .GtE (.int i) (.int j)) Q ↔ Q (.bl (decide (j ≤ i))) := by
  show OP (Out.ok (D.bl (!decide (i < j)))) Q ↔ _
  rw [not_lt_dec, OP_ok]
theorem c_lt' : OP (cmpF w .Lt (.int i) (.int j) s) P ↔ P (.bl (decide (i < j)), s) := by rw [v_cmpN ne2, d_lt]
theorem c_gt' : OP (cmpF w .Gt (.int i) (.int j) s) P ↔ P (.bl (decide (j < i)), s) := by rw [v_cmpN ne3, d_gt]
theorem c_le' : OP (cmpF w .LtE (.int i) (.int j) s) P ↔ P (.bl (decide (i ≤ j)), s) := by rw [v_cmpN ne4, d_le]
theorem c_ge' : OP (cmpF w .GtE (.int i) (.int j) s) P ↔ P (.bl (decide (j ≤ i)), s) := by rw [v_cmpN ne5, d_ge]
theorem c_isN {b : Bool} (h : nonD s.m x = some b) : OP (cmpF w .Is x .non s) P ↔ P (.bl b, s) := by
  rw [v_cmpN ne6]
  show OP (do .ok (.bl (← opt (nonD s.m x))) : Out D) _ ↔ _
  rw [h]
  exact OP_ok
theorem c_isnN {b : Bool} (h : nonD s.m x = some b) : OP (cmpF w .IsNot x .non s) P ↔ P (.bl (!b), s) := by
  rw [v_cmpN ne7]
  show OP (do .ok (.bl (!(← opt (nonD s.m x)))) : Out D) _ ↔ _
  rw [h]
  exact OP_ok
theorem non_OD {o : Option Int} : nonD m (OD o) = some o.isNone := by cases o <;> rfl
theorem non_non : nonD m .non = some true := rfl
theorem non_int : nonD m (.int i) = some false := rfl
theorem non_str : nonD m (.str a) = some false := rfl
theorem non_lst : nonD m (.lst xs) = some false := rfl
theorem non_tup : nonD m (.tup xs) = some false := rfl
theorem non_ins {c : Nat} : nonD m (.ins c xs) = some false := rfl
theorem own_lst : isOwn m (.lst xs) = false := rfl
theorem own_tup : isOwn m (.tup xs) = false := rfl
theorem own_str : isOwn m (.str a) = false := rfl
theorem own_dct : isOwn m (.dct xs) = false := rfl
theorem own_ref : isOwn m (.ref k) = (match m[k]? with | some (.obj _ _) => true | _ => false) := by
  unfold isOwn
  show (match m[k]? with | some (.obj c _) => some c | _ => none).isSome = _
  split <;> rfl
theorem u_sub (h : isOwn s.m x = false) : OP (subF w x y s) P ↔ OP (subD s.m x y) (fun z => P (z, s)) := by
  unfold subF
  rw [if_neg (by simp [h])]
  simp only [OP_bind, OP_ok]
theorem sq_lst : seqOf m (.lst xs) = some xs := rfl
theorem sq_tup : seqOf m (.tup xs) = some xs := rfl
theorem dr_lst : dctR m (.lst xs) = none := rfl
theorem dr_tup : dctR m (.tup xs) = none := rfl
theorem dr_dct : dctR m (.dct xs) = some xs := rfl
theorem kT_str {z : Str} : kindT xs (.str z) = false := rfl
theorem kT_int : kindT xs (.int i) = false := rfl
theorem kO_tup {ys : List D} : kindOk xs (.tup ys) = false := rfl
theorem dc_lst : dctOf m (.lst xs) = none := rfl
theorem dc_tup : dctOf m (.tup xs) = none := rfl
theorem dc_dct : dctOf m (.dct xs) = some xs := rfl
theorem sD_lst : OP (subD m (.lst xs) (.int i)) Q ↔ ∃ k, ixOf i xs.length = some k ∧ ∃ d, xs[k]? = some d ∧ Q d := by
  simp only [subD, dr_lst, subSq, sq_lst, OP_bind, OP_opt, Option.some.injEq, exists_eq_left']
theorem sD_tup : OP (subD m (.tup xs) (.int i)) Q ↔ ∃ k, ixOf i xs.length = some k ∧ ∃ d, xs[k]? = some d ∧ Q d := by
  simp only [subD, dr_tup, subSq, sq_tup, OP_bind, OP_opt, Option.some.injEq, exists_eq_left']
theorem sD_refL (h : m[k]? = some (.lst xs)) : OP (subD m (.ref k) (.int i)) Q ↔ ∃ k, ixOf i xs.length = some k ∧ ∃ d, xs[k]? = some d ∧ Q d := by
  simp only [subD, dctR, h, subSq, seqOf, OP_bind, OP_opt, Option.some.injEq, exists_eq_left']
theorem sD_dct : OP (subD m (.dct xs) x) Q ↔ (kindOk xs x || kindT xs x) = true ∧ ∃ d, dget xs x = some d ∧ Q d := by
  simp only [subD, dr_dct, OP_bind, OP_gd, OP_opt]
theorem ix_nat {n : Nat} : ixOf (k : Int) n = if k < n then some k else none := by
  unfold ixOf
  rw [if_pos (by omega)]
  by_cases h : k < n
  · rw [if_pos (by omega), if_pos h]; rfl
  · rw [if_neg (by omega), if_neg h]
theorem ix_lit {n p : Nat} : ixOf (OfNat.ofNat p) n = if p < n then some p else none := ix_nat (k := p)
theorem ix_0 {n : Nat} : ixOf 0 n = if 0 < n then some 0 else none := ix_nat (k := 0)
theorem ix_1 {n : Nat} : ixOf 1 n = if 1 < n then some 1 else none := ix_nat (k := 1)
theorem if_some {c : Prop} [Decidable c] {n k : Nat} : ((if c then some n else none) = some k) ↔ c ∧ n = k := by
  by_cases h : c <;> simp [h]
theorem f_lenL : OP (bifF w .len [.lst xs] s) P ↔ P (.int xs.length, s) := by
  show OP (lenF w (.lst xs) s) P ↔ _
  unfold lenF
  rw [if_neg (by simp [own_lst])]
  exact OP_ok
theorem f_lenT : OP (bifF w .len [.tup xs] s) P ↔ P (.int xs.length, s) := by
  show OP (lenF w (.tup xs) s) P ↔ _
  unfold lenF
  rw [if_neg (by simp [own_tup])]
  exact OP_ok
theorem f_lenS : OP (bifF w .len [.str a] s) P ↔ a.length ≤ sizeL ∧ P (.int a.length, s) := by
  show OP (lenF w (.str a) s) P ↔ _
  unfold lenF
  rw [if_neg (by simp [own_str])]
  simp only [biD, biLen, OP_bind, OP_gd, OP_ok, decide_eq_true_eq]
theorem f_bif {b : Bi} (h : b ≠ .len) : OP (bifF w b xs s) P ↔ OP (biD s.m b xs) (fun z => P (z, s)) := by
  have e : bifF w b xs s = (do let z ← biD s.m b xs; .ok (z, s)) := by cases b <;> first | exact absurd rfl h | rfl
  rw [e]
  simp only [OP_bind, OP_ok]
theorem f_abs : OP (bifF w .abs [.int i] s) P ↔ P (.int (absI i), s) := by rw [f_bif (by decide)]; exact OP_ok
theorem f_min2 : OP (bifF w .min2 [.int i, .int j] s) P ↔ P (.int (min i j), s) := by
  rw [f_bif (by decide)]
  have : biD s.m .min2 [.int i, .int j] = .ok (.int (min i j)) := by
    show Out.ok (D.int (if j < i then j else i)) = _
    congr 2
    split <;> omega
  rw [this, OP_ok]
theorem f_max2 : OP (bifF w .max2 [.int i, .int j] s) P ↔ P (.int (max i j), s) := by
  rw [f_bif (by decide)]
  have : biD s.m .max2 [.int i, .int j] = .ok (.int (max i j)) := by
    show Out.ok (D.int (if j > i then j else i)) = _
    congr 2
    split <;> omega
  rw [this, OP_ok]
theorem f_intB {q : Bool} : OP (bifF w .int [.bl q] s) P ↔ P (.int (if q then 1 else 0), s) := by rw [f_bif (by decide)]; exact OP_ok
theorem f_intI : OP (bifF w .int [.int i] s) P ↔ P (.int i, s) := by rw [f_bif (by decide)]; exact OP_ok
theorem f_list (h : seqOf s.m x = some xs) : OP (bifF w .list [x] s) P ↔ P (.lst xs, s) := by
  rw [f_bif (by decide)]
  show OP (do .ok (.lst (← opt (seqOf s.m x))) : Out D) _ ↔ _
  rw [h]; exact OP_ok
theorem f_tuple (h : seqOf s.m x = some xs) : OP (bifF w .tuple [x] s) P ↔ P (.tup xs, s) := by
  rw [f_bif (by decide)]
  show OP (do .ok (.tup (← opt (seqOf s.m x))) : Out D) _ ↔ _
  rw [h]; exact OP_ok
theorem intL_map : ∀ l : List Int, intL (l.map D.int) = some l
  | [] => rfl
  | a :: r => by simp only [List.map_cons, intL, intL_map r, Option.map_some]
theorem f_sorted {l : List Int} : OP (bifF w .sorted [.lst (l.map D.int)] s) P ↔ P (.lst ((l.mergeSort (fun a b => decide (a ≤ b))).map .int), s) := by
  rw [f_bif (by decide)]
  show OP (match intL (l.map D.int) with | some is => .ok (.lst ((is.mergeSort (fun a b => decide (a ≤ b))).map .int)) | none => _ : Out D) _ ↔ _
  rw [intL_map]; exact OP_ok
theorem sq_ref : seqOf m (.ref k) = (match m[k]? with | some (.lst xs) => some xs | _ => none) := rfl
theorem dc_ref : dctOf m (.ref k) = (match m[k]? with | some (.dct xs) => some xs | _ => none) := rfl
theorem rs_ref : rslv m (.ref k) = (match m[k]? with | some (.lst xs) => .lst xs | some (.dct xs) => .dct xs | _ => .ref k) := rfl
theorem rs_lst : rslv m (.lst xs) = .lst xs := rfl
theorem rs_tup : rslv m (.tup xs) = .tup xs := rfl
theorem rs_int : rslv m (.int i) = .int i := rfl
theorem kd_apR : kindM m .append (.ref k) = (match m[k]? with | some (.lst _) => true | _ => false) := by
  show (match rslv m (.ref k) with | .lst _ => true | _ => false) = _
  cases h : m[k]? with
  | none => simp [rslv, h]
  | some o => cases o <;> simp [rslv, h]
theorem m_appI {Q2 : D × List MO → Prop} : OP (bmD m .append (.ref k) [x]) Q2 ↔ ∃ ys, m[k]? = some (.lst ys) ∧ ys.length < sizeL ∧ Q2 (.non, m.set k (.lst (ys ++ [x]))) := by
  simp only [bmD]
  split
  · rename_i ys h
    simp only [OP_bind, OP_gd, OP_ok, decide_eq_true_eq, h, Option.some.injEq, MO.lst.injEq, exists_eq_left']
  · rename_i h
    rw [OP_bad]
    constructor
    · exact False.elim
    · rintro ⟨ys, h1, _⟩; exact (h ys h1).elim
theorem f_lenI : OP (bifF w .len [.ref k] s) P ↔ (match s.m[k]? with | some (.lst xs) => P (.int xs.length, s) | some (.dct es) => kindOk es (.int 0) = true ∧ P (.int es.length, s) | some (.obj _ _) => OP (lenF w (.ref k) s) P | _ => False) := by
  show OP (lenF w (.ref k) s) P ↔ _
  split
  · rename_i xs h
    unfold lenF
    rw [if_neg (by simp [own_ref, h])]
    simp only [biD, biLen, dctOf, seqOf, h, OP_bind, OP_ok, OP_opt, Option.some.injEq, exists_eq_left']
  · rename_i xs h
    unfold lenF
    rw [if_neg (by simp [own_ref, h])]
    simp only [biD, biLen, dctOf, h, OP_bind, OP_ok, OP_gd]
  · exact Iff.rfl
  · rename_i h1 h2 h3
    unfold lenF
    have hc : isOwn s.m (.ref k) = false := by
      rw [own_ref]
      split
      · rename_i c fs h; exact (h3 _ _ h).elim
      · rfl
    rw [if_neg (by simp [hc])]
    have e1 : dctOf s.m (.ref k) = none := by
      rw [dc_ref]; split
      · rename_i es h; exact (h2 _ h).elim
      · rfl
    have e2 : seqOf s.m (.ref k) = none := by
      rw [sq_ref]; split
      · rename_i es h; exact (h1 _ h).elim
      · rfl
    simp only [biD, biLen, e1, e2]
    constructor
    · intro h
      obtain ⟨a, h4, _⟩ := OP_opt.mp (OP_bind.mp (OP_bind.mp h))
      cases h4
    · exact False.elim
theorem sD_refI {Q : D → Prop} : OP (subD m (.ref k) (.int i)) Q ↔ (match m[k]? with | some (.lst xs) => ∃ k, ixOf i xs.length = some k ∧ ∃ d, xs[k]? = some d ∧ Q d | some (.dct es) => kindOk es (.int i) = true ∧ ∃ d, dget es (.int i) = some d ∧ Q d | some (.lkd es) => kindOk es (.int i) = true ∧ ∃ d, dget es (.int i) = some d ∧ Q d | _ => False) := by
  split
  · rename_i xs h; exact sD_refL h
  · rename_i es h
    simp only [subD, dctR, h, OP_bind, OP_gd, OP_opt, kT_int, Bool.or_false]
  · rename_i es h
    simp only [subD, dctR, h, OP_bind, OP_gd, OP_opt, kT_int, Bool.or_false]
  · rename_i h1 h2 h3
    unfold subD
    have e1 : dctR m (.ref k) = none := by
      show (match m[k]? with | some (.dct es) => some es | some (.lkd es) => some es | _ => none) = none
      split
      · rename_i es h; exact (h2 _ h).elim
      · rename_i es h; exact (h3 _ h).elim
      · rfl
    have e2 : seqOf m (.ref k) = none := by
      rw [sq_ref]; split
      · rename_i es h; exact (h1 _ h).elim
      · rfl
    rw [e1]
    simp only [subSq, e2]
    constructor
    · intro h
      obtain ⟨a, h4, _⟩ := OP_opt.mp (OP_bind.mp h)
      cases h4
    · exact False.elim
theorem rng1 {Q : List D → Prop} : OP (rngD [.int i]) Q ↔ (-(2 ^ 61) ≤ i ∧ i < 2 ^ 61) ∧ Q (rangeL 0 i.toNat 1) := by
  simp only [rngD, OP_bind, OP_gd, OP_ok, decide_eq_true_eq]
theorem rng2 {Q : List D → Prop} : OP (rngD [.int i, .int j]) Q ↔ (-(2 ^ 61) ≤ i ∧ i < 2 ^ 61 ∧ -(2 ^ 61) ≤ j ∧ j < 2 ^ 61) ∧ Q (rangeL i (j - i).toNat 1) := by
  simp only [rngD, OP_bind, OP_gd, OP_ok, decide_eq_true_eq]
theorem sub_all {P : D × S → Prop} {v : Int} (h0 : 0 ≤ v) (h1 : v < xs.length) (k : ∀ d ∈ xs, P (d, s)) : OP (subF w (.lst xs) (.int v) s) P := by
  rw [u_sub own_lst, sD_lst]
  obtain ⟨n, rfl⟩ : ∃ n : Nat, v = n := ⟨v.toNat, by omega⟩
  have hn : n < xs.length := by omega
  refine ⟨n, ?_, xs[n], List.getElem?_eq_getElem hn, k _ (List.getElem_mem hn)⟩
  unfold ixOf
  rw [if_pos (by omega), if_pos (by omega)]
  rfl
theorem sz_lit {n : Nat} : (no_index (OfNat.ofNat n) ≤ sizeL) ↔ (no_index (OfNat.ofNat n)) ≤ 16777216 := Iff.rfl
theorem sz_lt {n : Nat} : (no_index (OfNat.ofNat n) < sizeL) ↔ (no_index (OfNat.ofNat n)) < 16777216 := Iff.rfl
theorem sz_1 : 1 ≤ sizeL := by decide
theorem sz_01 : 0 < sizeL := by decide
theorem natc {n : Nat} : ((no_index (OfNat.ofNat n) : Nat) : Int) = OfNat.ofNat n := rfl
theorem natc0 : ((0 : Nat) : Int) = 0 := rfl
theorem natc1 : ((1 : Nat) : Int) = 1 := rfl
def chD (c : Nat) : D := .str (strOf [c])
theorem signs_eq {z : Str} : signs z = (z.cps.toList).map chD := rfl
theorem c_inC {c : Nat} {P : D × S → Prop} : OP (cmpF w .In (chD c) (.str b) s) P ↔ P (.bl (b.cps.toList.contains c), s) := by
  rw [v_cmpN ne8]
  have : cmpD s.m .In (chD c) (.str b) = .ok (.bl (b.cps.toList.contains c)) := by
    show (do gd (decide ((strOf [c]).length = 1)); .ok (.bl (match (strOf [c]).cps.toList with | [c] => b.cps.toList.contains c | _ => false)) : Out D) = _
    have h1 : (strOf [c]).length = 1 := by simp [strOf, Str.length]
    have h2 : (strOf [c]).cps.toList = [c] := by simp [strOf]
    rw [decide_eq_true h1, h2]
    rfl
  rw [this, OP_ok]
theorem c_eqC {c : Nat} {P : D × S → Prop} : OP (cmpF w .Eq (chD c) (.str b) s) P ↔ P (.bl (decide (strOf [c] = b)), s) := c_eqT
theorem c_neC {c : Nat} {P : D × S → Prop} : OP (cmpF w .NotEq (chD c) (.str b) s) P ↔ P (.bl (!decide (strOf [c] = b)), s) := c_neT
theorem strOf_inj {l k : List Nat} : strOf l = strOf k ↔ l = k := by
  constructor
  · intro h
    have := congrArg (fun z : Str => z.cps.toList) h
    simpa [strOf] using this
  · intro h; rw [h]
theorem c_inD {P : D × S → Prop} : OP (cmpF w .In x (.dct xs) s) P ↔ (kindOk xs x || kindT xs x) = true ∧ P (.bl (dget xs x).isSome, s) := by
  rw [v_cmpN ne8]
  have : cmpD s.m .In x (.dct xs) = (do gd (kindOk xs x || kindT xs x); .ok (.bl (dget xs x).isSome)) := by cases x <;> rfl
  rw [this]
  simp only [OP_bind, OP_gd, OP_ok]
theorem c_ninD {P : D × S → Prop} : OP (cmpF w .NotIn x (.dct xs) s) P ↔ (kindOk xs x || kindT xs x) = true ∧ P (.bl (!(dget xs x).isSome), s) := by
  rw [v_cmpN ne9]
  have : cmpD s.m .NotIn x (.dct xs) = (do gd (kindOk xs x || kindT xs x); .ok (.bl (!(dget xs x).isSome))) := by cases x <;> rfl
  rw [this]
  simp only [OP_bind, OP_gd, OP_ok]
theorem boolL_map : ∀ l : List Bool, boolL (l.map D.bl) = some l
  | [] => rfl
  | a :: r => by simp only [List.map_cons, boolL, boolL_map r, Option.map_some]
theorem f_all {α : Type} {l : List α} {f : α → Bool} : OP (bifF w .all [.lst (l.map fun a => .bl (f a))] s) P ↔ P (.bl (l.all f), s) := by
  rw [f_bif (by decide)]
  have e : (l.map fun a => D.bl (f a)) = (l.map f).map D.bl := by rw [List.map_map]; rfl
  rw [e]
  show OP (do let bs ← opt (boolL ((l.map f).map D.bl)); .ok (.bl (bs.all id)) : Out D) _ ↔ _
  rw [boolL_map]
  simp [opt, OP_ok, Bind.bind, Out.bind, List.all_map]
theorem f_intS {z : Str} : OP (bifF w .int [.str z] s) P ↔ z.length ≤ 600 ∧ ∃ i, intOf z = some i ∧ P (.int i, s) := by
  rw [f_bif (by decide)]
  show OP (do gd (decide (z.length ≤ 600)); .ok (.int (← opt (intOf z))) : Out D) _ ↔ _
  simp only [OP_bind, OP_gd, OP_opt, OP_ok, decide_eq_true_eq]
theorem f_strI : OP (bifF w .str [.int i] s) P ↔ i.natAbs < 2 ^ 1900 ∧ P (.str (strOfInt i), s) := by
  rw [f_bif (by decide)]
  show OP (do gd (decide (i.natAbs < 2 ^ 1900)); .ok (.str (strOfInt i)) : Out D) _ ↔ _
  simp only [OP_bind, OP_gd, OP_ok, decide_eq_true_eq]
theorem u_str {z : Str} : OP (subF w (.str z) (.int i) s) P ↔ z.length ≤ sizeL ∧ ∃ k, ixOf i z.cps.toList.length = some k ∧ ∃ c, z.cps.toList[k]? = some c ∧ P (chD c, s) := by
  rw [u_sub rfl]
  show OP (do gd (decide (z.length ≤ sizeL)); let k ← opt (ixOf i z.cps.toList.length); let c ← opt z.cps.toList[k]?; .ok (.str (strOf [c])) : Out D) _ ↔ _
  simp only [OP_bind, OP_gd, OP_opt, OP_ok, decide_eq_true_eq]
  rfl
theorem v_slcL {lo hi : Option Int} : OP (slcD m (.lst xs) lo hi) Q ↔ Q (.lst (sliceL xs lo hi)) := by simp only [slcD, rslv, OP_ok]
theorem v_slcT {lo hi : Option Int} : OP (slcD m (.tup xs) lo hi) Q ↔ Q (.tup (sliceL xs lo hi)) := by simp only [slcD, OP_ok]
theorem v_slcS {lo hi : Option Int} : OP (slcD m (.str a) lo hi) Q ↔ a.length ≤ sizeL ∧ Q (.str (Str.sub a lo hi)) := by simp only [slcD, OP_bind, OP_gd, OP_ok, decide_eq_true_eq]
theorem v_rev : OP (revD m (.lst xs)) Q ↔ Q (.lst xs.reverse) := by simp only [revD, rslv, OP_ok]
theorem kd_cnt : kindM m .count (.lst xs) = true := rfl
theorem kd_idx : kindM m .index (.lst xs) = true := rfl
theorem kd_join : kindM m .join (.str a) = true := rfl
theorem kd_split : kindM m .split (.str a) = true := rfl
variable {Q2 : D × List MO → Prop}
theorem m_split : OP (bmD m .split (.str a) [.str b]) Q2 ↔ (0 < b.length ∧ a.length + 2 ≤ sizeL) ∧ Q2 (.lst ((Txt.split a b).map .str), m) := by
  simp only [bmD, OP_bind, OP_gd, OP_ok, decide_eq_true_eq]
theorem cls_ins {c : Nat} : clsOf m (.ins c xs) = some c := rfl
theorem cls_ref : clsOf m (.ref k) = (match m[k]? with | some (.obj c _) => some c | _ => none) := rfl
theorem i_own {c t : Nat} (h : (t = 0 ∧ c ≤ 4) ∨ (t = 5 ∧ c ≤ 5)) {R : Bool → Prop} : OP (isiD m (.ins c xs) (.own t)) R ↔ R (isSub c t) := by
  simp only [isiD, kindD, if_pos h, OP_ok]
theorem i_own0 {c : Nat} (h : c ≤ 4) {R : Bool → Prop} : OP (isiD m (.ins c xs) (.own 0)) R ↔ R (isSub c 0) := i_own (.inl ⟨rfl, h⟩)
theorem i_int {t : Ty} (h : ∀ c, t ≠ .own c) {R : Bool → Prop} : OP (isiD m (.int i) t) R ↔ R (decide (t = .int)) := by
  cases t <;> simp [isiD, kindD, OP_ok] at *
theorem i_tup {t : Ty} (h : ∀ c, t ≠ .own c) {R : Bool → Prop} : OP (isiD m (.tup xs) t) R ↔ R (decide (t = .tuple)) := by
  cases t <;> simp [isiD, kindD, OP_ok] at *
theorem i_lst {t : Ty} (h : ∀ c, t ≠ .own c) {R : Bool → Prop} : OP (isiD m (.lst xs) t) R ↔ R (decide (t = .list)) := by
  cases t <;> simp [isiD, kindD, OP_ok] at *
theorem i_str {t : Ty} (h : ∀ c, t ≠ .own c) {R : Bool → Prop} : OP (isiD m (.str a) t) R ↔ R (decide (t = .str)) := by
  cases t <;> simp [isiD, kindD, OP_ok] at *
theorem i_bl {q : Bool} {t : Ty} (h : ∀ c, t ≠ .own c) {R : Bool → Prop} : OP (isiD m (.bl q) t) R ↔ R (decide (t = .bool ∨ t = .int)) := by
  cases t <;> simp [isiD, kindD, OP_ok] at *
theorem i_non {t : Ty} (h : ∀ c, t ≠ .own c) {R : Bool → Prop} : OP (isiD m .non t) R ↔ R false := by
  cases t <;> simp [isiD, kindD, OP_ok] at *
theorem nrE_nil {k : Nat} : nrE k [] ↔ True := Iff.rfl
theorem nrE_cons {k : Nat} {o : Option D} {r : List (Option D)} : nrE k (o :: r) ↔ o ≠ some (.ref k) ∧ nrE k r := Iff.rfl
theorem outEq_nil {n : Nat} {own : List Nat} : outEq n own [] [] ↔ True := Iff.rfl
theorem outEq_cons {n : Nat} {own : List Nat} {a b : Option D} {r t : List (Option D)} : outEq n own (a :: r) (b :: t) ↔ (n ∈ own ∨ a = b) ∧ outEq (n + 1) own r t := Iff.rfl
end
end SV
set_option linter.all false
set_option Elab.async false
set_option maxHeartbeats 4000000
namespace SV
open PySem
class MonC (P : Ctl × S → Prop) : Prop where
  mon : MonP P
instance {m : List MO} {R : D × List MO → Prop} : MonC (LeaveP m R) := ⟨mon_lv⟩
instance {R : D × List MO → Prop} : MonC (KeepP R) := ⟨mon_kp⟩
instance {p : Pg} {n : Nat} {x : Option (Nat × D)} {r : List Sm} {P : Ctl × S → Prop} [h : MonC P] : MonC (NxP (wN p n) x r P) := ⟨mon_nx (clo_wN _ _) h.mon⟩
instance {J : S → Prop} {P : Ctl × S → Prop} [h : MonC P] : MonC (LoopP J P) := ⟨mon_loop h.mon⟩
theorem rangeL_len : ∀ (n : Nat) (a st : Int), (rangeL a n st).length = n
  | 0, _, _ => rfl
  | n + 1, a, st => by simp [rangeL, rangeL_len n]
theorem rangeL_gt : ∀ (n : Nat) (a st : Int) (i : Nat), (rangeL a n st)[i]? = if i < n then some (.int (a + i * st)) else none
  | 0, a, st, i => by simp [rangeL]
  | n + 1, a, st, 0 => by simp [rangeL]
  | n + 1, a, st, i + 1 => by
    simp only [rangeL, List.getElem?_cons_succ, rangeL_gt n]
    by_cases h : i < n
    · rw [if_pos h, if_pos (by omega)]
      congr 2
      have : ((i + 1 : Nat) : Int) = (i : Int) + 1 := by omega
      rw [this, Int.add_mul]
      omega
    · rw [if_neg h, if_neg (by omega)]
theorem get_range {n : Nat} {a : Int} {i : Nat} {d : D} (h : (rangeL a n 1)[i]? = some d) : i < n ∧ d = .int (a + i) := by
  rw [rangeL_gt] at h
  by_cases hi : i < n
  · rw [if_pos hi] at h
    refine ⟨hi, ?_⟩
    have := (Option.some.inj h).symm
    rw [Int.mul_one] at this
    exact this
  · rw [if_neg hi] at h; cases h
section
variable {p : Pg} {n : Nat} {x : Option (Nat × D)} {u : List Sm} {Q : Ctl × S → Prop} {s : S} {t : Tg} {α β : Type} {enc : α → D} {e1 : α → D} {e2 : β → D} {l : List α} {k : List β}
theorem fR_I {a : Int} {c : Nat} (I : Nat → S → Prop) (h0 : ∃ s', I 0 s' ∧ SLe s' s) (hs : ∀ (i : Nat) s, i < c → I i s → OP (asg (wN p n) t (.int (a + i)) s) (fun s => OP (exSs (wN p n) x u s) (LoopP (I (i + 1)) Q)))
    (hd : ∀ s, I c s → Q (.nx, s)) [hQ : MonC Q] : OP (forL (forF (wN p n) x t u) (rangeL a c 1) s) Q :=
  for_I (clo_wN _ _) hQ.mon I h0 (fun i d s hx hI => by obtain ⟨ha, rfl⟩ := get_range hx; exact hs i s ha hI) (fun s hI => hd s (by rwa [rangeL_len] at hI))
/-- a def starts -/
theorem run_L {i : Nat} {f : Fn} {xs ys : List D} {m : List MO} {P : D × List MO → Prop} (h : p.fn i = some f) (ha : argsOf f xs = some ys) (hk : f.keep = false)
    (hb : OP (exSs (wN p n) none f.body ⟨ys.map some ++ List.replicate (f.ns - ys.length) none, m⟩) (LeaveP m P)) : OP ((callF p (n + 1)).1 i xs m) P := by
  rw [call_succ h]
  exact run_leave _ ha hk rfl hb
theorem run_K {i : Nat} {f : Fn} {xs ys : List D} {m : List MO} {P : D × List MO → Prop} (h : p.fn i = some f) (ha : argsOf f xs = some ys) (hk : f.keep = true)
    (hb : OP (exSs (wN p n) none f.body ⟨ys.map some ++ List.replicate (f.ns - ys.length) none, m⟩) (KeepP P)) : OP ((callF p (n + 1)).1 i xs m) P := by
  rw [call_succ h]
  exact run_keep _ ha hk rfl hb
end
end SV
namespace SV
open PySem
section
variable {p : Pg} {n i : Nat} {xs : List D} {m : List MO} {a : D × List MO} {P : D × List MO → Prop}
theorem OPw (h : OP ((callF p n).1 i xs m) (fun r => r = a)) : OP ((wN p n).call i xs m) P ↔ P a := OPe h
theorem wN_meth : (wN p n).meth = p.meth := rfl
theorem wN_kcon : (wN p n).kcon = p.kcon := rfl
theorem wN_init : (wN p n).init = p.init := rfl
theorem wN_fuel : (wN p n).fuel = p.fuel := rfl
end
end SV
set_option linter.all false
set_option Elab.async false
set_option maxHeartbeats 4000000
namespace SV
open PySem
/-- the signs of a text -/
abbrev cl (s : Str) : List Nat := s.cps.toList
theorem cl_app (a b : Str) : cl (a ++ b) = cl a ++ cl b := by simp [cl, Str.cps_append]
theorem cl_inj {a b : Str} (h : cl a = cl b) : a = b := Str.ext' (Array.toList_inj.mp h)
theorem cl_len (a : Str) : (cl a).length = a.length := by simp [cl, Str.length]
theorem cl_ofS (s : String) : cl (Str.ofString s) = s.toList.map Char.toNat := by rw [Str.ofString_eq_toList]
theorem cl_strOf (l : List Nat) : cl (strOf l) = l := by simp [cl, strOf]
/-- the digits of a number -/
def dg (n : Nat) : List Nat := (Nat.toDigits 10 n).map Char.toNat
theorem dg_ne (n : Nat) : dg n ≠ [] := by simp [dg]
theorem digitChar_toNat : ∀ n, n < 10 → (Nat.digitChar n).toNat = 48 + n := by decide
theorem dg_eq (n : Nat) : dg n = if n < 10 then [48 + n] else dg (n / 10) ++ [48 + n % 10] := by
  unfold dg
  rw [Nat.toDigits_eq_if (by decide)]
  by_cases h : n < 10
  · rw [if_pos h, if_pos h]; simp [digitChar_toNat n h]
  · rw [if_neg h, if_neg h]; simp [digitChar_toNat (n % 10) (Nat.mod_lt _ (by decide))]
theorem dg_dig (n : Nat) : ∀ c ∈ dg n, 48 ≤ c ∧ c ≤ 57 := by
  induction n using Nat.strongRecOn with
  | _ n ih =>
    intro c hc
    rw [dg_eq] at hc
    by_cases h : n < 10
    · rw [if_pos h] at hc
      have := List.mem_singleton.mp hc
      omega
    · rw [if_neg h] at hc
      rcases List.mem_append.mp hc with h1 | h1
      · exact ih (n / 10) (by omega) c h1
      · have := List.mem_singleton.mp h1
        omega
theorem natOf_app : ∀ (a b : List Nat) (n : Nat), natOf (a ++ b) n = (natOf a n).bind (natOf b)
  | [], b, n => by simp [natOf]
  | c :: r, b, n => by
    simp only [List.cons_append, natOf]
    cases digVal c with
    | none => rfl
    | some k => exact natOf_app r b _
theorem natOf_dg (n : Nat) : natOf (dg n) 0 = some n := by
  induction n using Nat.strongRecOn with
  | _ n ih =>
    rw [dg_eq]
    by_cases h : n < 10
    · rw [if_pos h]
      have h1 : 48 ≤ 48 + n ∧ 48 + n ≤ 57 := by omega
      simp [natOf, digVal, h1]
    · rw [if_neg h, natOf_app, ih (n / 10) (by omega)]
      have h1 : 48 ≤ 48 + n % 10 ∧ 48 + n % 10 ≤ 57 := by omega
      simp only [Option.bind_some, natOf, digVal, if_pos h1]
      congr 1
      omega
theorem dg_inj {a b : Nat} (h : dg a = dg b) : a = b := by
  have h1 := natOf_dg a
  rw [h, natOf_dg b] at h1
  exact (Option.some.inj h1).symm
theorem dg_len {n : Nat} (h : n ≤ 1000000000) : 1 ≤ (dg n).length ∧ (dg n).length ≤ 10 := by
  unfold dg
  rw [List.length_map]
  refine ⟨Nat.length_toDigits_pos, (Nat.length_toDigits_le_iff (by decide) (by decide)).mpr ?_⟩
  exact Nat.lt_of_le_of_lt h (by decide)
theorem cl_int_nat (n : Nat) : cl (strOfInt (n : Int)) = dg n := by
  unfold strOfInt
  rw [cl_ofS]
  show ((Nat.repr n).toList).map Char.toNat = _
  rw [Nat.toList_repr]
  rfl
theorem cl_int_neg (n : Nat) : cl (strOfInt (-((n + 1 : Nat) : Int))) = 45 :: dg (n + 1) := by
  unfold strOfInt
  rw [cl_ofS]
  have : (-((n + 1 : Nat) : Int)) = Int.negSucc n := by omega
  rw [this]
  show (("-" ++ Nat.repr (n + 1) : String).toList).map Char.toNat = _
  rw [String.toList_append, List.map_append, Nat.toList_repr]
  rfl
/-- a number's text -/
def zt (i : Int) : List Nat := if i < 0 then 45 :: dg i.natAbs else dg i.natAbs
theorem cl_int (i : Int) : cl (strOfInt i) = zt i := by
  unfold zt
  by_cases h : i < 0
  · rw [if_pos h]
    obtain ⟨n, hn⟩ : ∃ n : Nat, i = -((n + 1 : Nat) : Int) := ⟨i.natAbs - 1, by omega⟩
    rw [hn, cl_int_neg]
    congr 2
  · rw [if_neg h]
    obtain ⟨n, hn⟩ : ∃ n : Nat, i = (n : Int) := ⟨i.natAbs, by omega⟩
    rw [hn, cl_int_nat]
    rfl
theorem zt_inj {a b : Int} (h : zt a = zt b) : a = b := by
  unfold zt at h
  have no : ∀ n r, dg n ≠ 45 :: r := fun n r e => by have := dg_dig n 45 (by rw [e]; simp); omega
  by_cases ha : a < 0
  · rw [if_pos ha] at h
    by_cases hb : b < 0
    · rw [if_pos hb] at h
      have := dg_inj (List.cons.inj h).2
      omega
    · rw [if_neg hb] at h; exact absurd h.symm (no _ _)
  · rw [if_neg ha] at h
    by_cases hb : b < 0
    · rw [if_pos hb] at h; exact absurd h (no _ _)
    · rw [if_neg hb] at h
      have := dg_inj h
      omega
theorem intOf_zt (i : Int) {s : Str} (h : cl s = zt i) : intOf s = some i := by
  unfold intOf
  have h : s.cps.toList = zt i := h
  rw [h]
  unfold zt
  by_cases hi : i < 0
  · rw [if_pos hi]
    show (if (dg i.natAbs).isEmpty then none else match natOf (dg i.natAbs) 0 with | some n => some (-(n : Int)) | none => none) = _
    have : (dg i.natAbs).isEmpty = false := by
      cases e : dg i.natAbs with
      | nil => exact absurd e (dg_ne _)
      | cons a r => rfl
    rw [this, natOf_dg]
    simp
    omega
  · rw [if_neg hi]
    have hne := dg_ne i.natAbs
    cases e : dg i.natAbs with
    | nil => exact absurd e hne
    | cons a r =>
      have ha := dg_dig i.natAbs a (by rw [e]; simp)
      have hn := natOf_dg i.natAbs
      rw [e] at hn
      have : a ≠ 45 := by omega
      split
      · rename_i h2; cases h2
      · rename_i h2; cases h2; exact absurd rfl this
      · rw [hn]; simp; omega
def nearL : List Nat := [110, 101, 97, 114, 58]
theorem cl_near (m : Int) : cl (labK (.near m)) = nearL ++ zt m := by
  show cl (Str.ofString "near:" ++ strOfInt m) = _
  rw [cl_app, cl_ofS, cl_int]
  rfl
theorem cl_lab (c : CK) : cl (labK c) = match c with | .first => [102, 105, 114, 115, 116] | .last => [108, 97, 115, 116] | .less => [108, 101, 115, 115] | .greater => [103, 114, 101, 97, 116, 101, 114] | .near m => nearL ++ zt m := by
  cases c with
  | near m => exact cl_near m
  | first => show cl (Str.ofString "first") = _; rw [cl_ofS]; rfl
  | last => show cl (Str.ofString "last") = _; rw [cl_ofS]; rfl
  | less => show cl (Str.ofString "less") = _; rw [cl_ofS]; rfl
  | greater => show cl (Str.ofString "greater") = _; rw [cl_ofS]; rfl
theorem zt_sg (i : Int) : ∀ c ∈ zt i, c = 45 ∨ (48 ≤ c ∧ c ≤ 57) := by
  intro c hc
  unfold zt at hc
  by_cases h : i < 0
  · rw [if_pos h] at hc
    rcases List.mem_cons.mp hc with rfl | h1
    · exact .inl rfl
    · exact .inr (dg_dig _ _ h1)
  · rw [if_neg h] at hc
    exact .inr (dg_dig _ _ hc)
theorem lab_inj {a b : CK} (h : labK a = labK b) : a = b := by
  have h := congrArg cl h
  rw [cl_lab, cl_lab] at h
  cases a <;> cases b <;> first | rfl | (simp [nearL] at h; done) | skip
  rename_i x y
  have := zt_inj (List.append_cancel_left h)
  rw [this]
theorem lab_eq {a b : CK} : labK a = labK b ↔ a = b := ⟨lab_inj, fun h => h ▸ rfl⟩
/-- the marks that are allowed -/
def okK : CK → Bool
  | .near m => decide (-1000000000 ≤ m ∧ m ≤ 1000000000)
  | _ => true
theorem zt_len {i : Int} (h : -1000000000 ≤ i ∧ i ≤ 1000000000) : 1 ≤ (zt i).length ∧ (zt i).length ≤ 11 := by
  have := dg_len (n := i.natAbs) (by omega)
  unfold zt
  split
  · simp; omega
  · omega
theorem lab_len {c : CK} (h : okK c = true) : 1 ≤ (labK c).length ∧ (labK c).length ≤ 16 := by
  rw [← cl_len, cl_lab]
  cases c with
  | near m =>
    have := zt_len (of_decide_eq_true h)
    simp [nearL]; omega
  | _ => simp
theorem lab_cps {c : CK} : (labK c).cps.all (· < 0x110000) = true := by
  rw [Array.all_eq_true']
  intro x hx
  have hx : x ∈ cl (labK c) := by simpa [cl] using hx
  rw [cl_lab] at hx
  have key : x < 1114112 := by
    cases c with
    | near m =>
      rcases List.mem_append.mp hx with h | h
      · simp [nearL] at h; omega
      · have := zt_sg m x h; omega
    | _ => simp at hx; omega
  exact decide_eq_true key
end SV
set_option linter.all false
set_option Elab.async false
set_option maxHeartbeats 4000000
namespace SV
open PySem
section
variable {w : W} {s : S} {P : D × S → Prop} {a b : Ex} {ps r : Exs} {es : List D} {Q : List D × S → Prop} {m t : List MO} {k : Nat}
theorem getA : (m ++ t)[m.length + k]? = t[k]? := by
  rw [List.getElem?_append_right (by omega)]
  congr 1
  omega
theorem getA0 : (m ++ t)[m.length]? = t[0]? := getA (k := 0)
theorem setA {o : MO} : (m ++ t).set (m.length + k) o = m ++ t.set k o := by
  rw [List.set_append_right _ _ (by omega)]
  congr 2
  omega
theorem setA0 {o : MO} : (m ++ t).set m.length o = m ++ t.set 0 o := setA (k := 0)
theorem fz_ref {e : List (Option D)} : fzS ⟨e, m⟩ (.ref k) = (match m[k]? with | some (.lst xs) => (.lst xs, ⟨e.map fun o => if o = some (.ref k) then some (.lst xs) else o, m.set k .dead⟩) | some (.dct xs) => (.dct xs, ⟨e.map fun o => if o = some (.ref k) then some (.dct xs) else o, m.set k .dead⟩) | _ => (.ref k, ⟨e, m⟩)) := by
  unfold fzS fzM
  dsimp only
  cases m[k]? with
  | none => rfl
  | some o => cases o <;> rfl
theorem r_1n {x : Nat} : (1 = x + 1 + 1) = False := by simp
theorem r_n1 {x : Nat} : (x + 1 + 1 = 1) = False := by simp
theorem fz_lst {xs : List D} : fzS s (.lst xs) = (.lst xs, s) := rfl
theorem fz_tup {xs : List D} : fzS s (.tup xs) = (.tup xs, s) := rfl
theorem fz_int {i : Int} : fzS s (.int i) = (.int i, s) := rfl
theorem fz_str {i : Str} : fzS s (.str i) = (.str i, s) := rfl
theorem fz_non : fzS s .non = (.non, s) := rfl
theorem fz_ins {c : Nat} {xs : List D} : fzS s (.ins c xs) = (.ins c xs, s) := rfl
theorem fz_dct {xs : List D} : fzS s (.dct xs) = (.dct xs, s) := rfl
theorem fz_OD {o : Option Int} : fzS s (OD o) = (OD o, s) := by cases o <;> rfl
section
variable {i : Int} {xs : List D} {P : D × S → Prop}
theorem su_LN : OP (subF w (.lst xs) (.int (k : Int)) s) P ↔ ∃ d, xs[k]? = some d ∧ P (d, s) := by
  rw [u_sub own_lst, sD_lst]
  constructor
  · rintro ⟨j, h1, h2⟩
    rw [ix_nat] at h1
    by_cases h : k < xs.length
    · rw [if_pos h] at h1; cases h1; exact h2
    · rw [if_neg h] at h1; cases h1
  · rintro ⟨d, h1, h2⟩
    refine ⟨k, ?_, d, h1, h2⟩
    rw [ix_nat, if_pos (List.getElem?_eq_some_iff.mp h1).1]
theorem su_TN : OP (subF w (.tup xs) (.int (k : Int)) s) P ↔ ∃ d, xs[k]? = some d ∧ P (d, s) := by
  rw [u_sub own_tup, sD_tup]
  constructor
  · rintro ⟨j, h1, h2⟩
    rw [ix_nat] at h1
    by_cases h : k < xs.length
    · rw [if_pos h] at h1; cases h1; exact h2
    · rw [if_neg h] at h1; cases h1
  · rintro ⟨d, h1, h2⟩
    refine ⟨k, ?_, d, h1, h2⟩
    rw [ix_nat, if_pos (List.getElem?_eq_some_iff.mp h1).1]
theorem su_L0 : OP (subF w (.lst xs) (.int 0) s) P ↔ ∃ d, xs[0]? = some d ∧ P (d, s) := su_LN (k := 0)
theorem su_L1 : OP (subF w (.lst xs) (.int 1) s) P ↔ ∃ d, xs[1]? = some d ∧ P (d, s) := su_LN (k := 1)
theorem su_LL {n : Nat} : OP (subF w (.lst xs) (.int (no_index (OfNat.ofNat n))) s) P ↔ ∃ d, xs[n]? = some d ∧ P (d, s) := su_LN (k := n)
theorem su_T0 : OP (subF w (.tup xs) (.int 0) s) P ↔ ∃ d, xs[0]? = some d ∧ P (d, s) := su_TN (k := 0)
theorem su_T1 : OP (subF w (.tup xs) (.int 1) s) P ↔ ∃ d, xs[1]? = some d ∧ P (d, s) := su_TN (k := 1)
theorem su_TL {n : Nat} : OP (subF w (.tup xs) (.int (no_index (OfNat.ofNat n))) s) P ↔ ∃ d, xs[n]? = some d ∧ P (d, s) := su_TN (k := n)
end
theorem lenA : (m ++ t).length = m.length + t.length := List.length_append
theorem ref_inj {j k : Nat} : (D.ref j = D.ref k) ↔ j = k := by simp
end
theorem mk_V {p : Pg} {n c f : Nat} {gs : List Nat} {xs : List D} {s : S} {fs : List (Nat × D)} {vs : List D} {t : List MO} (hi : p.init c = some f) (hg : flds c = some gs) (hc : OP ((callF p n).1 f (.ref s.m.length :: xs) (s.m ++ [.obj c []])) (fun r => r = (.non, s.m ++ .obj c fs :: t)))
    (h1 : fs.map (·.1) = gs) (h2 : fs.map (fun q => rsK s.m.length (s.m ++ .obj c fs :: t) q.2) = vs) (h3 : cloDs s.m.length vs = true) : OP (makeD (wN p n) c xs s) (fun r => r = (.ins c vs, s)) := by
  obtain ⟨r, e1, rfl⟩ := hc
  refine ⟨_, ?_, rfl⟩
  unfold makeD
  rw [show (wN p n).init c = some f from hi]
  dsimp only
  rw [show (wN p n).call f (.ref s.m.length :: xs) (s.m ++ [.obj c []]) = _ from e1]
  rw [show inS s (Out.ok (D.non, s.m ++ MO.obj c fs :: t)) = .ok (.non, ⟨s.e, s.m ++ .obj c fs :: t⟩) from rfl]
  dsimp only
  rw [hg]
  dsimp only
  rw [getA0]
  show (if c = c ∧ fs.map (·.1) = gs ∧ exOk s.m.length s.m (s.m ++ MO.obj c fs :: t) = true ∧ cloDs s.m.length (fs.map (fun q => rsK s.m.length (s.m ++ .obj c fs :: t) q.2)) = true then _ else _) = _
  rw [h2, if_pos ⟨rfl, h1, exOk_app _ _ _, h3⟩, List.take_left]
/-- the program's first part: chains are made, called -/
structure PC (p : Pg) : Prop where
  f0 : p.fn 0 = some F0
  f1 : p.fn 1 = some F1
  f2 : p.fn 2 = some F2
  f3 : p.fn 3 = some F3
  f4 : p.fn 4 = some F4
  f8 : p.fn 8 = some F8
  f10 : p.fn 10 = some F10
  f12 : p.fn 12 = some F12
  f14 : p.fn 14 = some F14
  f15 : p.fn 15 = some F15
  f17 : p.fn 17 = some F17
  f18 : p.fn 18 = some F18
  f19 : p.fn 19 = some F19
  f20 : p.fn 20 = some F20
  f21 : p.fn 21 = some F21
  f23 : p.fn 23 = some F23
  f29 : p.fn 29 = some F29
  i0 : p.init 0 = some 3
  i1 : p.init 1 = some 3
  i2 : p.init 2 = some 3
  i3 : p.init 3 = some 3
  i4 : p.init 4 = some 14
  i5 : p.init 5 = some 20
  k0 : p.kcon 0 0 = some (.str "first")
  k1 : p.kcon 1 0 = some (.str "last")
  k2 : p.kcon 2 0 = some (.str "less")
  k3 : p.kcon 3 0 = some (.str "greater")
  k4 : p.kcon 4 0 = some (.str "near")
  m00 : p.meth 0 0 = some 4
  m10 : p.meth 1 0 = some 8
  m20 : p.meth 2 0 = some 10
  m30 : p.meth 3 0 = some 12
  m40 : p.meth 4 0 = some 15
  m46 : p.meth 4 6 = some 3
  m50 : p.meth 5 0 = some 29
  mE : p.meth 5 12 = some 23
theorem PC.cell {p : Pg} (h : PC p) (c : CK) : CellH p c := by
  cases c
  · exact ⟨h.m00, h.f4⟩
  · exact ⟨h.m10, h.f8⟩
  · exact ⟨h.m20, h.f10⟩
  · exact ⟨h.m30, h.f12⟩
  · exact ⟨h.m40, h.f15⟩
theorem PC.cells {p : Pg} (h : PC p) (cs : List CK) : ∀ c ∈ cs, CellH p c := fun c _ => h.cell c
section
variable {p : Pg} {n : Nat} {s : S} {P : D × S → Prop}
end
section
variable {m : List MO} {k : Nat} {xs : List D} {o mo : MO}
end
end SV
set_option linter.all false
set_option Elab.async false
set_option maxHeartbeats 4000000
set_option maxRecDepth 4000
set_option exponentiation.threshold 4000
set_option pp.deepTerms false
set_option pp.deepTerms.threshold 5
namespace SV
open PySem
local macro_rules | `(tactic| simp_arith [$xs,*]) => `(tactic| simp only [↓q_cst, ↓q_var, ↓q_frzV, ↓q_frzD, ↓q_frzC, ↓q_frz2, ↓q_new, ↓q_bin, ↓q_neg, ↓q_oeq, ↓q_cmp, ↓q_chn, ↓q_and, ↓q_or, ↓q_not, ↓q_ite, ↓q_tup, ↓q_lst, ↓q_dsp0, ↓q_ds1, ↓q_frzD1, ↓q_sub, ↓q_slc, ↓q_rev, ↓q_fld, ↓q_prp, ↓q_kcn, ↓q_cal, ↓q_mth, ↓q_smt, ↓q_ctr, ↓q_ctv, ↓q_app, ↓q_bif, ↓q_bmt, ↓q_isi, ↓q_fst, ↓q_snil, ↓q_scons, ↓q_sstar, ↓q_onone, ↓q_osome, ↓q_anil, ↓q_acons, ↓q_ival, ↓q_ienm, ↓q_izip, ↓q_irng, ↓q_iitm, ↓q_iitf, ↓q_ilkv, ↓q_frn, ↓q_lok, ↓q_gnm, ↓q_gtp, ↓q_gsb, ↓q_gat, ↓q_gsnil, ↓q_gscons, ↓q_dspC, ↓q_dnil, ↓q_dcons, ↓q_lc, ↓q_flc, ↓q_tnil, ↓q_tasg, ↓q_tpar, ↓q_taug, ↓q_texp, ↓q_tifs, ↓q_tret, ↓q_tpas, ↓q_tfor, ↓q_tlok, ↓q_twhl,
  ↓k_frz_, ↓k_new_, ↓k_bin2_, ↓k_bin_, ↓k_neg_, ↓k_oeq2_, ↓k_oeq_, ↓k_cmp2_, ↓k_cmp_, ↓k_pr_, ↓k_chn4_, ↓k_chn3_, ↓k_chn2_, ↓k_chn_, ↓k_and_, ↓k_or_, ↓k_not_, ↓k_ite_, ↓k_tup_, ↓k_lst_, ↓k_dsp_, ↓k_ds12_, ↓k_ds11_, ↓k_sub2_, ↓k_sub_, ↓k_slc3_, ↓k_slc2_, ↓k_slc_, ↓k_rev_, ↓k_fld_, ↓k_prp_, ↓k_kcn_, ↓k_cal2_, ↓k_cal_, ↓k_mth2_, ↓k_mth_, ↓k_ctr_, ↓k_app2_, ↓k_app_, ↓k_bif_, ↓k_bmt2_, ↓k_bmt_, ↓k_isi2_, ↓k_isi_, ↓k_fst_, ↓k_es2_, ↓k_es_, ↓k_st2_, ↓k_st_, ↓k_o_, ↓k_a_, ↓k_val_, ↓k_enm_, ↓k_zip2_, ↓k_zip_, ↓k_rng2_, ↓k_rng_, ↓k_itm_, ↓k_itf_, ↓k_lkv_, ↓k_frn_, ↓k_lok2_, ↓k_lok_, ↓k_gsb3_, ↓k_gsb2_, ↓k_gsb_, ↓k_gat_, ↓k_gs_, ↓k_ss_, ↓k_tasg_, ↓k_tpar_, ↓k_taug2_, ↓k_taug_, ↓k_texp_, ↓k_tifs_, ↓k_tret_, ↓k_tfor_, ↓k_tlk2_, ↓k_tlok_, ↓k_lcb_, ↓k_lc_, ↓k_flcb_, ↓k_flc_, ↓k_ds2_, ↓k_ds_,
  ↓nx_nx, ↓nx_ret, ↓nx_nil, ↓loop_nx, ↓loop_cnt, ↓loop_brk, ↓loop_ret, ↓lvR, ↓lvT, ↓lvN, ↓lvNT, ↓kpR, ↓kpN,
  ↓v_add, ↓v_addS, ↓v_addT, ↓v_addL, ↓v_sub, ↓v_mul, ↓v_mulT, ↓v_mulL, ↓v_div, ↓v_mod, ↓v_pow, ↓v_rsh, ↓v_neg, ↓v_negI, ↓v_aug, ↓c_eqI', ↓c_neI', ↓c_eqT, ↓c_neT, ↓c_lt', ↓c_gt', ↓c_le', ↓c_ge', ↓d_le, ↓d_lt, ↓d_gt, ↓d_ge, ↓c_isN non_OD, ↓c_isN non_non, ↓c_isN non_int, ↓c_isN non_str, ↓c_isN non_lst, ↓c_isN non_tup, ↓c_isN non_ins, ↓c_isnN non_OD, ↓c_isnN non_non, ↓c_isnN non_int, ↓c_isnN non_str, ↓c_isnN non_lst, ↓c_isnN non_tup, ↓c_isnN non_ins,
  ↓u_sub own_dct, ↓sD_dct, kT_str, kT_int, kO_tup, ↓su_LN, ↓su_TN, ↓su_L0, ↓su_L1, ↓su_LL, ↓su_T0, ↓su_T1, ↓su_TL, ↓f_lenL, ↓f_lenT, ↓f_lenS, ↓f_abs, ↓f_min2, ↓f_max2, ↓f_intB, ↓f_intI, ↓f_list sq_lst, ↓f_list sq_tup, ↓f_tuple sq_lst, ↓f_tuple sq_tup, ↓f_sorted, sz_lit, sz_lt, sz_1, sz_01, Nat.reducePow, Int.zero_add, ↓m_appI, ↓rng1, ↓rng2, ↓f_lenI, ↓sD_refI, kd_apR, sq_ref, dc_ref, rs_ref, rs_lst, rs_tup, rs_int, ↓c_inC, ↓c_inD, ↓c_ninD, Nat.zero_le, ↓c_eqC, ↓c_neC, strOf_inj, ↓f_all, ↓f_intS, ↓f_strI, ↓u_str, signs_eq, natc, natc0, natc1, Bool.not_eq_true', decide_eq_false_iff_not, ite_not, ↓v_slcL, ↓v_slcT, ↓v_slcS, ↓v_rev, ↓m_split, kd_cnt, kd_idx, kd_join, kd_split,  cls_ins, cls_ref, own_ref, fldD, hasF, fput, fget, flds, getAt, MO.obj.injEq, MO.lst.injEq, MO.dct.injEq, D.ins.injEq, and_assoc, exists_and_left, exists_and_right, beq_self_eq_true, Bool.or_true, Bool.true_or, Bool.or_false, Bool.false_or, Nat.reduceBEq, Nat.reduceEqDiff, OP_ok, OP_bind, OP_gd, OP_opt,  ↓i_int, ↓i_tup, ↓i_lst, ↓i_str, ↓i_bl, ↓i_non, sq_lst, sq_tup, dc_lst, dc_tup, dc_dct,
  wN_meth, wN_kcon, wN_init, wN_fuel, ix_nat, ix_0, ix_1, ix_lit, if_some, nrE_nil, nrE_cons, outEq_nil, outEq_cons, sle_iff, ele_nil, ele_none, ele_some, getA, getA0, setA, setA0, lenA, fz_ref, r_1n, r_n1, fz_lst, fz_tup, fz_int, fz_str, fz_non, fz_ins, fz_dct, fz_OD, ref_inj, newS, walkD, seqV, tgN, wipeE, cloD, cloDs, List.foldl_cons, List.foldl_nil, List.append_assoc, List.cons_append, List.nil_append, List.append_nil,
  List.getElem?_cons_succ, List.getElem?_cons_zero, List.set_cons_succ, List.set_cons_zero, List.length_cons, List.length_nil, List.map_cons, List.map_nil, Nat.reduceAdd, Nat.reduceSub, Nat.reduceLT, Nat.reduceLeDiff, Nat.reduceEqDiff, Nat.add_one_sub_one, Int.reduceLE, Int.reduceLT, Int.reduceNeg, Int.reduceAdd, Int.reduceSub, Int.reduceMul, Int.reducePow, Int.reduceToNat, Int.reduceEq, Int.reduceAbs, List.reduceReplicate,  List.length_map, D.bl.injEq, D.int.injEq, D.lst.injEq, D.tup.injEq, D.str.injEq, exists_eq_left', exists_eq_left, exists_eq, exists_eq', Option.some.injEq, if_true, if_false, decide_true, decide_false, Bool.false_eq_true, Bool.not_false, Bool.not_true, Bool.true_and, Bool.and_true, Bool.false_and, Bool.and_false, Bool.and_eq_true, and_self, true_and, and_true, decide_eq_true_eq, Prod.mk.injEq, S.mk.injEq, List.cons.injEq, ne_eq, reduceCtorEq, not_false_eq_true, not_true_eq_false, implies_true, Option.isNone_none, Option.isNone_some, List.mem_cons, List.not_mem_nil, or_false, false_or, or_true, true_or, $xs,*])
section
variable {p : Pg} {n : Nat} {m : List MO}
theorem szL : sizeL = 16777216 := rfl
end
section
variable {p : Pg} {n : Nat} {zs zs' : List D} {t u : List MO} {d : D} {e : List (Option D)} {P : D × List MO → Prop}
theorem Dz.ints (h : Dz zs) : ∃ l : List Int, zs = l.map .int := by
  obtain ⟨a, b, bigs, rfl, _⟩ := h
  exact ⟨a :: b :: bigs, rfl⟩
theorem Dz.clo (h : Dz zs) (k : Nat) : cloDs k zs = true := by
  obtain ⟨l, rfl⟩ := h.ints
  exact intsL l k
theorem exOk_Z (h : Dz zs') (k : Nat) : exOk k (.dead :: .lst zs :: t) (.dead :: .lst zs' :: (t ++ u)) = true := by
  have := h.clo k
  simp [exOk, exOk_app, cloM, this]
theorem lvZ (h : Dz zs') : LeaveP (.dead :: .lst zs :: t) P (.ret d, ⟨e, .dead :: .lst zs' :: (t ++ u)⟩) ↔ cloD (t.length + 1 + 1) d = true ∧ P (d, .dead :: .lst zs' :: t) := by
  rw [lv_iff]
  simp [exOk_Z h]
/-- a number is drawn -/
theorem draw (h : p.fn 101 = some F101) (hD : Dz zs) {c : Int} (hc : 0 < c ∧ c < 2 ^ 62) (k : ∀ v zs', 0 ≤ v → v < c → Dz zs' → P (.int v, .dead :: .lst zs' :: t)) : OP ((wN p (n + 1)).call 101 [.ref 1, .int c] (.dead :: .lst zs :: t)) P := by
  refine OP.mono (run101 (n := n) (m := .dead :: .lst zs :: t) (k := 1) h rfl hD c hc) ?_
  rintro r ⟨v, ys, rfl, h1, h2, h3⟩
  exact k v ys h1 h2 h3
theorem int_app {row : List Int} {a b v : Int} (h1 : ∀ x ∈ row, a ≤ x ∧ x ≤ b) (h2 : a ≤ v ∧ v ≤ b) : ∀ x ∈ row ++ [v], a ≤ x ∧ x ≤ b := by
  intro x hx
  rcases List.mem_append.mp hx with h | h
  · exact h1 x h
  · rw [List.mem_singleton.mp h]; exact h2
end
section
variable {w : W} {e : Ex} {own : List Nat} {tg : Tg} {P : D × S → Prop} {zs t : List D}
/-- a comprehension over a range that draws numbers -/
theorem l_D {t : List MO} {e0 : List (Option D)} {a : Int} {c : Nat} (I : Nat → List D → Prop) (hn : nrE (t.length + 1 + 1) e0) (hl : c ≤ sizeL) (hD : Dz zs) (h0 : I 0 [])
    (ht : ∀ (i : Nat) ys zs, i < c → I i ys → Dz zs → ys.length ≤ i → OP (asg w tg (.int (a + i)) ⟨wipeE own e0, .dead :: .lst zs :: (t ++ [.lst ys])⟩) (fun s =>
      OP (evE w e s) (fun q => ∃ zs', Dz zs' ∧ q.2.m = .dead :: .lst zs' :: (t ++ [.lst ys]) ∧ outEq 0 own e0 q.2.e ∧ I (i + 1) (ys ++ [q.1]))))
    (hd : ∀ ys zs, Dz zs → I c ys → P (.lst ys, ⟨e0, .dead :: .lst zs :: (t ++ [.dead])⟩)) :
    OP (lcL (lcG w e own tg .nil (t.length + 1 + 1)) (rangeL a c 1) ⟨e0, .dead :: .lst zs :: (t ++ [.lst []])⟩) (k_flcb own ⟨e0, .dead :: .lst zs :: t⟩ P) := by
  refine l_I (m0 := .dead :: .lst zs :: t) (fun i ys m => ∃ zs', Dz zs' ∧ m = .dead :: .lst zs' :: t ∧ I i ys) hn (by rw [rangeL_len]; exact hl) ⟨zs, hD, rfl, h0⟩ ?_ ?_
  · rintro i x ys m hx ⟨zs', hD', rfl, hI⟩ hm hy
    obtain ⟨hi, rfl⟩ := get_range hx
    refine (ht i ys zs' hi hI hD' hy).mono fun s1 h1 => ?_
    rw [ra_nil, if_pos rfl]
    refine h1.mono ?_
    rintro ⟨y, s3⟩ ⟨zs2, h5, h6, h7, h8⟩
    exact ⟨.dead :: .lst zs2 :: t, h6, rfl, h7, zs2, h5, rfl, h8⟩
  · rintro ys m ⟨zs', hD', rfl, hI⟩ hm
    rw [rangeL_len] at hI
    exact hd ys zs' hD' hI
end
/-- values that are compared by their contents -/
class EncQ {α : Type} [DecidableEq α] (e : α → D) (d : outParam Nat) : Prop where
  ok : ∀ a k, d ≤ k → okD k (e a) = true
  eq : ∀ a b, eqB (e a) (e b) = decide (a = b)
instance : EncQ D.int 0 where
  ok := fun a k _ => by cases k <;> rfl
  eq := fun a b => by show (a == b) = _; by_cases h : a = b <;> simp [h]
instance : EncQ OD 0 where
  ok := fun a k _ => ok_OD a k
  eq := eqB_OD
section
variable {α : Type} [DecidableEq α] {e : α → D}
theorem eqBs_map {d : Nat} [h : EncQ e d] : ∀ a b : List α, eqBs (a.map e) (b.map e) = decide (a = b)
  | [], [] => rfl
  | [], _ :: _ => rfl
  | _ :: _, [] => rfl
  | x :: a, y :: b => by
    show (eqB (e x) (e y) && eqBs (a.map e) (b.map e)) = _
    rw [h.eq, eqBs_map a b]
    by_cases h : x = y <;> by_cases h2 : a = b <;> simp [h, h2]
theorem all_okD {d : Nat} [h : EncQ e d] (l : List α) {k : Nat} (hk : d ≤ k) : (l.map e).all (okD k) = true := by
  rw [List.all_eq_true]
  intro x hx
  obtain ⟨o, _, rfl⟩ := List.mem_map.mp hx
  exact h.ok _ _ hk
instance encL {d : Nat} [h : EncQ e d] : EncQ (fun l : List α => D.lst (l.map e)) (d + 1) where
  ok := fun a k hk => by
    obtain ⟨k, rfl⟩ : ∃ j, k = j + 1 := ⟨k - 1, by omega⟩
    exact all_okD a (by omega)
  eq := fun a b => eqBs_map a b
instance encT {d : Nat} [h : EncQ e d] : EncQ (fun l : List α => D.tup (l.map e)) (d + 1) where
  ok := fun a k hk => by
    obtain ⟨k, rfl⟩ : ∃ j, k = j + 1 := ⟨k - 1, by omega⟩
    exact all_okD a (by omega)
  eq := fun a b => eqBs_map a b
end
def resD (r : List (Option Int) × List (Option Int)) : D := .tup [.lst (r.1.map OD), .tup (r.2.map OD)]
instance : EncQ resD 2 where
  ok := fun a k hk => by
    obtain ⟨k, rfl⟩ : ∃ j, k = j + 2 := ⟨k - 2, by omega⟩
    show (okD (k + 1) (.lst _) && (okD (k + 1) (.tup _) && true)) = true
    have h1 : okD (k + 1) (.lst (a.1.map OD)) = true := all_okD a.1 (Nat.zero_le _)
    have h2 : okD (k + 1) (.tup (a.2.map OD)) = true := all_okD a.2 (Nat.zero_le _)
    rw [h1, h2]; rfl
  eq := fun a b => by
    obtain ⟨a1, a2⟩ := a
    obtain ⟨b1, b2⟩ := b
    show (eqBs (a1.map OD) (b1.map OD) && (eqBs (a2.map OD) (b2.map OD) && true)) = _
    rw [eqBs_map, eqBs_map]
    by_cases h1 : a1 = b1 <;> by_cases h2 : a2 = b2 <;> simp [h1, h2]
section
variable {α : Type} [DecidableEq α] {e : α → D} {w : W} {s : S} {P : D × S → Prop}
end
theorem sl_from {α : Type} (xs : List α) (i : Nat) : sliceL xs (some (i : Int)) none = xs.drop i := by
  cases i with
  | zero => unfold sliceL clampI; simp
  | succ i => exact sl_drop xs i
def negK : CK → CK
  | .less => .greater
  | .greater => .less
  | .near k => .near (-k)
  | c => c
theorem negK_ok {c : CK} (h : okK c = true) : okK (negK c) = true := by
  cases c with
  | near k =>
    have hk : -1000000000 ≤ k ∧ k ≤ 1000000000 := of_decide_eq_true h
    exact decide_eq_true (by omega)
  | _ => rfl
/-- - of cells and chains -/
structure PN (p : Pg) : Prop extends PC p where
  f6 : p.fn 6 = some F6
  f9 : p.fn 9 = some F9
  f11 : p.fn 11 = some F11
  f13 : p.fn 13 = some F13
  f16 : p.fn 16 = some F16
  f28 : p.fn 28 = some F28
  m02 : p.meth 0 2 = some 6
  m12 : p.meth 1 2 = some 9
  m22 : p.meth 2 2 = some 11
  m32 : p.meth 3 2 = some 13
  m42 : p.meth 4 2 = some 16
  m52 : p.meth 5 2 = some 28
section
variable {p : Pg} {n : Nat} {m : List MO} {s : S} {P : D × S → Prop}
theorem row_app {row : List Int} {v : Int} (h1 : ∀ x ∈ row, -1000000000 ≤ x ∧ x ≤ 1000000000) (h2 : -1000000000 ≤ v ∧ v ≤ 1000000000) : ∀ x ∈ row ++ [v], -1000000000 ≤ x ∧ x ≤ 1000000000 := int_app h1 h2
/-- a random row -/
theorem run103 {zs : List D} {t : List MO} (h1 : p.fn 101 = some F101) (h3 : p.fn 103 = some F103) (hD : Dz zs) {k : Int} (hk : 0 ≤ k ∧ k ≤ 1000) :
    OP ((callF p (n + 2)).1 103 [.ref 1, .int k] (.dead :: .lst zs :: t)) (fun r => ∃ (row : List Int) (ys : List D), r = (.lst (row.map D.int), .dead :: .lst ys :: t) ∧ Dz ys ∧ (row.length : Int) ≤ k ∧ ∀ x ∈ row, -1000000000 ≤ x ∧ x ≤ 1000000000) := by
  refine run_L h3 rfl rfl ?_
  simp_arith [F103]
  refine draw h1 hD (by decide) fun v zs hv0 hv1 hD => ?_
  simp_arith []
  refine sub_all hv0 (by exact hv1) fun d hd => ?_
  obtain ⟨top, rfl, ht1, ht2⟩ : ∃ c : Int, d = .int c ∧ 3 ≤ c ∧ c ≤ 1000000000 := by
    simp at hd
    rcases hd with rfl | rfl | rfl
    · exact ⟨3, rfl, by decide, by decide⟩
    · exact ⟨9, rfl, by decide, by decide⟩
    · exact ⟨_, rfl, by decide, by decide⟩
  simp_arith []
  refine draw h1 hD (by omega) fun v zs hv0 hv1 hD => ?_
  simp_arith []
  refine ⟨by omega, by omega, ?_⟩
  refine l_D (t := t) (fun i ys => ∃ row : List Int, ys = row.map D.int ∧ row.length = i ∧ ∀ x ∈ row, -1000000000 ≤ x ∧ x ≤ 1000000000) (by simp_arith []) (by rw [szL]; omega) hD ⟨[], rfl, rfl, by simp⟩ ?_ ?_
  · rintro i ys zs hi ⟨row, rfl, hl, hr⟩ hD _
    simp_arith []
    refine draw h1 hD (by omega) fun v zs hv0 hv1 hD => ?_
    simp_arith []
    exact ⟨zs, hD, rfl, row ++ [v - top], by simp, by simp; omega, row_app hr ⟨by omega, by omega⟩⟩
  rintro ys zs hD ⟨row, rfl, hl, hr⟩
  simp_arith []
  refine (lvZ hD).mpr ⟨intsL _ _, row, zs, rfl, hD, by omega, hr⟩
end
section
variable {w : W} {s : S} {P : D × S → Prop} {i j : Int}
theorem sl_takeM {α : Type} {e : α → D} (xs : List α) (i : Nat) : sliceL (xs.map e) none (some (i : Int)) = (xs.take i).map e := by rw [sl_take, List.map_take]
theorem endI {zs : List D} {e e' : List (Option D)} {m : List MO} (hD : Dz zs) (he : ELe e e') : ∃ s', (∃ zs, Dz zs ∧ ∃ t, s' = ⟨e, .dead :: .lst zs :: t⟩) ∧ SLe s' ⟨e', .dead :: .lst zs :: m⟩ := ⟨_, ⟨zs, hD, _, rfl⟩, ⟨rfl, he⟩⟩
end
section
variable {p : Pg} {n : Nat}
theorem run103' (h1 : p.fn 101 = some F101) (h2 : p.fn 103 = some F103) {zs : List D} {t : List MO} (hD : Dz zs) {k : Int} (hk : 0 ≤ k ∧ k ≤ 1000) {P : D × List MO → Prop}
    (q : ∀ (row : List Int) (ys : List D), Dz ys → (row.length : Int) ≤ k → (∀ x ∈ row, -1000000000 ≤ x ∧ x ≤ 1000000000) → P (.lst (row.map D.int), .dead :: .lst ys :: t)) :
    OP ((wN p (n + 2)).call 103 [.ref 1, .int k] (.dead :: .lst zs :: t)) P :=
  (run103 (n := n) h1 h2 hD hk).mono fun r ⟨cs, ys, e, a, b, c⟩ => by subst e; exact q cs ys a b c
end
section
variable {p : Pg} {n : Nat}
end
section
variable {p : Pg} {n : Nat} {m : List MO}
theorem lab_ne (k : Int) : labK (.near k) ≠ Str.ofString "last" ∧ labK (.near k) ≠ Str.ofString "less" ∧ labK (.near k) ≠ Str.ofString "greater" ∧ labK (.near k) ≠ Str.ofString "first" := by
  have key : ∀ s : String, (cl (Str.ofString s)).head? ≠ some 110 → labK (.near k) ≠ Str.ofString s := by
    intro s hs e
    apply hs
    rw [← e, cl_lab]
    rfl
  refine ⟨key _ ?_, key _ ?_, key _ ?_, key _ ?_⟩ <;> rw [cl_ofS] <;> decide
theorem sub_near (k : Int) : Str.sub (labK (.near k)) (some 5) none = strOfInt k := by
  apply cl_inj
  unfold Str.sub
  rw [cl_strOf, show (labK (.near k)).cps.toList = cl (labK (.near k)) from rfl, cl_lab]
  show sliceL (nearL ++ zt k) (some ((5 : Nat) : Int)) none = _
  rw [sl_from, cl_int]
  rfl
theorem run105K (h : p.fn 105 = some F105) (c : CK) (hc : okK c = true) (a b : Int) : OP ((callF p (n + 1)).1 105 [.str (labK c), .int a, .int b] m) (fun r => r = (.tup [.int (keep1 c a b).1, .int (keep1 c a b).2], m)) := by
  cases c with
  | near k =>
    have hk : -1000000000 ≤ k ∧ k ≤ 1000000000 := of_decide_eq_true hc
    obtain ⟨e1, e2, e3, e4⟩ := lab_ne k
    have hi : intOf (strOfInt k) = some k := intOf_zt k (cl_int k)
    have hl : (strOfInt k).length ≤ 600 := by
      have := zt_len hk
      rw [← cl_len, cl_int]; omega
    refine run_L h rfl rfl ?_
    simp_arith [F105, e1, e2, e3, e4, sub_near, hi, hl]
    refine ⟨by have := (lab_len hc).2; rw [szL]; omega, ?_⟩
    simp only [keep1]
    split <;> exact ⟨rfl, rfl⟩
  | _ => exact run105 h _ rfl a b
theorem c_eqB' {w : W} {s : S} {P : D × S → Prop} {a b : Bool} : OP (cmpF w .Eq (.bl a) (.bl b) s) P ↔ P (.bl (a == b), s) := by
  rw [v_cmpE rfl, d_eq (k := (a == b))]
  rfl
theorem c_neB' {w : W} {s : S} {P : D × S → Prop} {a b : Bool} : OP (cmpF w .NotEq (.bl a) (.bl b) s) P ↔ P (.bl (!(a == b)), s) := by
  rw [v_cmpN ne1, d_ne (k := (a == b))]
  rfl
end
section
variable {p : Pg} {n : Nat} {zs : List D} {t post : List MO} {cs : List CK} {hs : List (Option Int)} {os : List Int} {a b c : Nat} {e : List (Option D)} {P : D × S → Prop}
end
section
variable {p : Pg} {n : Nat} {s : S} {P : D × S → Prop} {w : W}
theorem lb_cell (h : p.fn 7 = some F7) {c : CK} (hm : p.meth (cK c) 10 = some 7) : OP (callM (wN p (n + 1)) (cellD c) 10 [] s) P ↔ P (.str (labK c), s) := OPe (lab_cell h c hm s)
end
/-- == of cells and chains -/
structure PQ1 (p : Pg) : Prop where
  e5 : p.fn 5 = some F5
  e26 : p.fn 26 = some F26
  q : ∀ c : CK, p.meth (cK c) 1 = some 5
  q5 : p.meth 5 1 = some 26
def tlK : CK → List D
  | .near k => [.int k]
  | _ => []
theorem cell_form (c : CK) : cellD c = .ins (cK c) (.str (labK c) :: tlK c) := by cases c <;> rfl
theorem cK_lt (c : CK) : cK c < 5 := by cases c <;> simp [cK]
instance : EncQ lab 0 where
  ok := fun a k _ => by
    have : okD k (.str (labK a)) = (labK a).cps.all (· < 0x110000) := by cases k <;> rfl
    exact this.trans lab_cps
  eq := fun a b => by
    show (labK a == labK b) = _
    by_cases h : a = b
    · simp [h]
    · have : ¬ labK a = labK b := fun e => h (lab_inj e)
      rw [decide_eq_false h]
      exact beq_eq_false_iff_ne.mpr this
section
variable {p : Pg} {n : Nat} {m : List MO} {s : S} {P : D × S → Prop}
theorem run5 (h : p.fn 5 = some F5) (c e : CK) : OP ((callF p (n + 1)).1 5 [cellD c, cellD e] m) (fun r => r = (.bl (decide (c = e)), m)) := by
  refine run_L h rfl rfl ?_
  rw [cell_form c, cell_form e]
  have h1 : isSub (cK e) 0 = true := by cases e <;> rfl
  have h2 : (labK c = labK e) = (c = e) := propext lab_eq
  have h3 : flds (cK c) = some (0 :: (flds (cK c)).getD [] |>.drop 0) ∨ True := .inr trivial
  cases c <;> cases e <;> simp_arith [F5, cK, tlK, isSub, ↓i_own0, h2]
theorem negK_neg (c : CK) : negK (negK c) = c := by cases c <;> simp [negK]
end
/-- a worktop in any store: its object at k, its lists at a (past) and b (undone) -/
structure WT (m : List MO) (k a b : Nat) (now : D) (past und : List D) : Prop where
  ob : ∃ c, m[k]? = some (.obj 8 [(7, now), (9, .ref a), (10, .ref b), (11, .ref c)])
  pa : m[a]? = some (.lst past)
  un : m[b]? = some (.lst und)
  ab : a ≠ b
  ak : a ≠ k
  bk : b ≠ k
section
variable {p : Pg} {n : Nat} {m : List MO} {k a b : Nat} {now : D} {past und : List D}
theorem WT.lt (h : WT m k a b now past und) : k < m.length ∧ a < m.length ∧ b < m.length := by
  obtain ⟨c, hk⟩ := h.ob
  exact ⟨(List.getElem?_eq_some_iff.mp hk).1, (List.getElem?_eq_some_iff.mp h.pa).1, (List.getElem?_eq_some_iff.mp h.un).1⟩
theorem WT.app (h : WT m k a b now past und) (t : List MO) : WT (m ++ t) k a b now past und := by
  obtain ⟨l1, l2, l3⟩ := h.lt
  obtain ⟨c, hk⟩ := h.ob
  exact ⟨⟨c, by rw [List.getElem?_append_left l1]; exact hk⟩, by rw [List.getElem?_append_left l2]; exact h.pa, by rw [List.getElem?_append_left l3]; exact h.un, h.ab, h.ak, h.bk⟩
end
section
variable {p : Pg} {n : Nat} {m : List MO} {k a b : Nat} {past und : List D} {cs : List CK} {hs : List (Option Int)} {os : List Int} {e : List (Option D)} {P : D × S → Prop}
theorem WT.cls {now : D} (hw : WT m k a b now past und) : clsOf m (.ref k) = some 8 := by
  obtain ⟨c, hk⟩ := hw.ob
  simp [clsOf, hk]
end
section
variable {w : W} {P : D × S → Prop} {e : Ex} {own : List Nat} {tg : Tg}
end
section
end
section
variable {p : Pg} {n : Nat} {m : List MO} {k a b : Nat} {now : D} {past und : List D}
end
end SV
set_option linter.all false
set_option Elab.async false
set_option maxRecDepth 100000
set_option maxHeartbeats 4000000
namespace SV
open PySem PySem.Spec PyProof.Rows L2
def topS (i : Nat) : Stmt := PySem.Challenge.pw_siftchain_k01_cells_and_labels.main.body.getD i (.Pass ⟨0, 0, 0, 0⟩)
def lFns : List (Str × Nat) := [("is_int_in", 0), ("check_number", 1), ("_law_random", 100), ("_law_below", 101), ("_law_row", 103), ("_law_equal", 108), ("_law_kept", 105)]
def lCls : List (Str × Nat) := [("Cell", 0), ("Last", 1), ("Less", 2), ("Greater", 3), ("Near", 4)]
def lAsk : List Nat := [0]
def lCI : List (Str × Int) := [("GREAT", 1000000000)]
def lCS : List (Str × Str) := []
def lCM : List (Nat × Nat) := []
def lExs : List (Str × Nat) := [("InvalidNumber", 21)]
def lExi : List (Str × Nat) := []
def lLam : Nat → Option Ex
  | 3200 => some (.ctr 4 (.cons (.var 12) .nil))
  | _ => none
abbrev s999 : Stmt := (topS 27)
abbrev c999 : Tc := ⟨errN, defScope s999, [], [], 0, false⟩
theorem v999_2 : slotOf c999 "_law_kinds" = some 2 := by decide +kernel
theorem k999_2 : (c999.sc.names.lookup ("_law_kinds" : Str) == some NameKind.local || c999.sc.names.lookup ("_law_kinds" : Str) == some NameKind.cell) = true := by decide +kernel
theorem v999_3 : slotOf c999 "_law_names" = some 3 := by decide +kernel
theorem k999_3 : (c999.sc.names.lookup ("_law_names" : Str) == some NameKind.local || c999.sc.names.lookup ("_law_names" : Str) == some NameKind.cell) = true := by decide +kernel
theorem v999_4 : slotOf c999 "_law_name" = some 4 := by decide +kernel
theorem k999_4 : (c999.sc.names.lookup ("_law_name" : Str) == some NameKind.local || c999.sc.names.lookup ("_law_name" : Str) == some NameKind.cell) = true := by decide +kernel
theorem bErr {X : Cx} {g : Cfg} {c : Nat} (G : Gd X g c999) (hfn : ∀ x, X.fn x = true) (E : ErrX X g c none none none lErr) : PSs X (suiteOf (defBody s999)) (tS g W0 false (exSs wE none (suiteE c none none none))) :=
    (pss_consD (s_asg (x_lst (a_cons (E.isi "InvalidNumber" 21 (by decide +kernel) _ _ _ _) (a_cons (E.isi "InvalidChain" 22 (by decide +kernel) _ _ _ _) (a_cons (E.isi "UnknownCell" 23 (by decide +kernel) _ _ _ _) pa_nilD rfl) rfl) rfl)) (g_name G v999_2 k999_2 (hfn _)) rfl rfl rfl)
    (pss_consD (s_asg (x_bin G (by decide) (ev_var G v999_2) (x_lst (a_cons (E.isi "InvalidRow" 24 (by decide +kernel) _ _ _ _) (a_cons (E.isi "InvalidText" 25 (by decide +kernel) _ _ _ _) (a_cons (E.isi "TooMany" 26 (by decide +kernel) _ _ _ _) pa_nilD rfl) rfl) rfl))) (g_name G v999_2 k999_2 (hfn _)) rfl rfl rfl)
    (pss_consD (s_asg (x_bin G (by decide) (ev_var G v999_2) (x_lst (a_cons (E.isi "Contradiction" 27 (by decide +kernel) _ _ _ _) (a_cons (E.isi "InvalidName" 28 (by decide +kernel) _ _ _ _) (a_cons (E.isi "UnknownName" 29 (by decide +kernel) _ _ _ _) pa_nilD rfl) rfl) rfl))) (g_name G v999_2 k999_2 (hfn _)) rfl rfl rfl)
    (pss_consD (s_asg (x_bin G (by decide) (ev_var G v999_2) (x_lst (a_cons (E.isi "InvalidOperation" 30 (by decide +kernel) _ _ _ _) pa_nilD rfl))) (g_name G v999_2 k999_2 (hfn _)) rfl rfl rfl)
    (pss_consD (ps_ifD (t_or (t_cmp G (x_Mcount G rfl (ev_var G v999_2) (a_cons ev_cbl pa_nilD rfl) rfl (by decide) rfl) ev_cint rfl) (w_or1 (pt_not2 (t_val (E.ive _ _ _ _) (fun _ => rfl))))) (pss_consD (ps_retD (ev_tup (a_cons ev_cstr (a_cons ev_cint pa_nilD rfl) rfl)))
    pss_nilD) pss_nilD)
    (pss_consD (s_asg (x_lst (a_cons ev_cstr (a_cons ev_cstr (a_cons ev_cstr (a_cons ev_cstr (a_cons ev_cstr (a_cons ev_cstr (a_cons ev_cstr (a_cons ev_cstr (a_cons ev_cstr (a_cons ev_cstr pa_nilD rfl) rfl) rfl) rfl) rfl) rfl) rfl) rfl) rfl) rfl)) (g_name G v999_3 k999_3 (hfn _)) rfl rfl rfl)
    (pss_consD (s_asg (x_subL G (ev_var G v999_3) (x_Mindex G rfl (ev_var G v999_2) (a_cons ev_cbl pa_nilD rfl) rfl (by decide) rfl) (fun _ _ => rfl)) (g_name G v999_4 k999_4 (hfn _)) rfl rfl rfl)
    (pss_consD (ps_ifD (t_cmp G (ev_var G v999_4) (x_lst (a_cons ev_cstr (a_cons ev_cstr pa_nilD rfl) rfl)) rfl) (pss_consD (ps_retD (ev_tup (a_cons (ev_var G v999_4) (a_cons (E.fix _ _) pa_nilD rfl) rfl)))
    pss_nilD) pss_nilD)
    (pss_consD (ps_retD (ev_tup (a_cons (ev_var G v999_4) (a_cons (ev_ite2 (t_cmp G (ev_var G v999_4) ev_cstr rfl) (E.fwo _ _) (ev_ite2 (t_cmp G (ev_var G v999_4) ev_cstr rfl) (E.fpl _ _) ev_cint)) pa_nilD rfl) rfl)))
    pss_nilD)))))))))
theorem scE : FnScope errN ["_law_call"] (defScope s999) := ⟨rfl, rfl, rfl, by decide +kernel, rfl, by decide +kernel, by decide +kernel⟩
abbrev s0 : Stmt := (topS 14)
def N0 : List Str := ["value", "low", "high"]
abbrev c0 : Tc := ⟨N0, defScope s0, [], [], 0, false⟩
theorem g0_isinstance : isGlob c0 "isinstance" = true := by decide +kernel
theorem v0_0 : slotOf c0 "value" = some 0 := by decide +kernel
theorem g0_int : isGlob c0 "int" = true := by decide +kernel
theorem g0_bool : isGlob c0 "bool" = true := by decide +kernel
theorem v0_1 : slotOf c0 "low" = some 1 := by decide +kernel
theorem v0_2 : slotOf c0 "high" = some 2 := by decide +kernel
theorem b0 {CX : CXT} {P : Program} {wd : World} {K : PySem.W.Frag} {mg : Str → Option Value} {base : Heap} {q : Str} {f : Addr} {cd : Value} {A : Around} {outer : List Env} {s : Shared} {H : Hp} {E : XK} {g : Cfg} {w : SV.W} {k : Nat}
    (G : Gd (cxOf CX P wd K mg base N0 q (defScope s0) f cd A outer s H E) g c0) (T : Fx (cxOf CX P wd K mg base N0 q (defScope s0) f cd A outer s H E) g (WE E) w CX k) (D : Gt g lFns lCls lAsk lCI lCS lCM lExs lExi) :
    PSs (cxOf CX P wd K mg base N0 q (defScope s0) f cd A outer s H E) (defBody s0) (tS g (WE E) false (exSs w none F0.body)) :=
    (pss_consD (ps_retD (x_and (x_isiB G T g0_isinstance (ev_var G v0_0) rfl g0_int ity_int) (x_and (x_not (x_isiB G T g0_isinstance (ev_var G v0_0) rfl g0_bool ity_bool)) (x_b1 (x_chn G (ev_var G v0_1) (ev_var G v0_0) (ev_var G v0_2) rfl)))))
    pss_nilD)
abbrev s1 : Stmt := (topS 15)
def N1 : List Str := ["value", "low", "high"]
abbrev c1 : Tc := ⟨N1, defScope s1, [], [], 0, false⟩
theorem g1_is_int_in : isGlob c1 "is_int_in" = true := by decide +kernel
theorem mF_is_int_in {g : Cfg} (D : Gt g lFns lCls lAsk lCI lCS lCM lExs lExi) : (("is_int_in" : Str), 0) ∈ g.fns := mem_of D.fns (by decide +kernel)
theorem v1_0 : slotOf c1 "value" = some 0 := by decide +kernel
theorem v1_1 : slotOf c1 "low" = some 1 := by decide +kernel
theorem v1_2 : slotOf c1 "high" = some 2 := by decide +kernel
theorem g1_InvalidNumber : isGlob c1 "InvalidNumber" = true := by decide +kernel
theorem mX_InvalidNumber {g : Cfg} (D : Gt g lFns lCls lAsk lCI lCS lCM lExs lExi) : (("InvalidNumber" : Str), 21) ∈ g.exs := mem_of D.exs (by decide +kernel)
theorem b1 {CX : CXT} {P : Program} {wd : World} {K : PySem.W.Frag} {mg : Str → Option Value} {base : Heap} {q : Str} {f : Addr} {cd : Value} {A : Around} {outer : List Env} {s : Shared} {H : Hp} {E : XK} {g : Cfg} {w : SV.W} {k : Nat}
    (G : Gd (cxOf CX P wd K mg base N1 q (defScope s1) f cd A outer s H E) g c1) (T : Fx (cxOf CX P wd K mg base N1 q (defScope s1) f cd A outer s H E) g (WE E) w CX k) (D : Gt g lFns lCls lAsk lCI lCS lCM lExs lExi) :
    PSs (cxOf CX P wd K mg base N1 q (defScope s1) f cd A outer s H E) (defBody s1) (tS g (WE E) false (exSs w none F1.body)) :=
    (pss_consD (ps_ifD (pt_not2 (t_val (ev_cal G T g1_is_int_in (mF_is_int_in D) (by decide) (a_cons (ev_var G v1_0) (a_cons (ev_var G v1_1) (a_cons (ev_var G v1_2) pa_nilD rfl) rfl) rfl) rfl) (fun _ => rfl))) (pss_consD (ps_rse G T g1_InvalidNumber (mX_InvalidNumber D))
    pss_nilD) pss_nilD)
    pss_nilD)
abbrev s3 : Stmt := (inClass (topS 16) 1)
def N3 : List Str := ["self"]
abbrev c3 : Tc := ⟨N3, defScope s3, [], [], 0, false⟩
theorem v3_0 : slotOf c3 "self" = some 0 := by decide +kernel
theorem b3 {CX : CXT} {P : Program} {wd : World} {K : PySem.W.Frag} {mg : Str → Option Value} {base : Heap} {q : Str} {f : Addr} {cd : Value} {A : Around} {outer : List Env} {s : Shared} {H : Hp} {E : XK} {g : Cfg} {w : SV.W} {k : Nat}
    (G : Gd (cxOf CX P wd K mg base N3 q (defScope s3) f cd A outer s H E) g c3) (T : Fx (cxOf CX P wd K mg base N3 q (defScope s3) f cd A outer s H E) g (WE E) w CX k) (D : Gt g lFns lCls lAsk lCI lCS lCM lExs lExi) :
    PSs (cxOf CX P wd K mg base N3 q (defScope s3) f cd A outer s H E) (defBody s3) (tS g (WE E) false (exSs w none F3.body)) :=
    (pss_consD (s_fld G T rfl (ev_var G v3_0) (x_kcn G T rfl (ev_var G v3_0)) rfl)
    pss_nilD)
abbrev s4 : Stmt := (inClass (topS 16) 2)
def N4 : List Str := ["self", "held", "came"]
abbrev c4 : Tc := ⟨N4, defScope s4, [], [], 0, false⟩
theorem v4_1 : slotOf c4 "held" = some 1 := by decide +kernel
theorem v4_2 : slotOf c4 "came" = some 2 := by decide +kernel
theorem b4 {CX : CXT} {P : Program} {wd : World} {K : PySem.W.Frag} {mg : Str → Option Value} {base : Heap} {q : Str} {f : Addr} {cd : Value} {A : Around} {outer : List Env} {s : Shared} {H : Hp} {E : XK} {g : Cfg} {w : SV.W} {k : Nat}
    (G : Gd (cxOf CX P wd K mg base N4 q (defScope s4) f cd A outer s H E) g c4) (T : Fx (cxOf CX P wd K mg base N4 q (defScope s4) f cd A outer s H E) g (WE E) w CX k) (D : Gt g lFns lCls lAsk lCI lCS lCM lExs lExi) :
    PSs (cxOf CX P wd K mg base N4 q (defScope s4) f cd A outer s H E) (defBody s4) (tS g (WE E) false (exSs w none F4.body)) :=
    (pss_consD (ps_retD (ev_tup (a_cons (ev_var G v4_1) (a_cons (ev_var G v4_2) pa_nilD rfl) rfl)))
    pss_nilD)
abbrev s5 : Stmt := (inClass (topS 16) 3)
def N5 : List Str := ["self", "other"]
abbrev c5 : Tc := ⟨N5, defScope s5, [], [], 0, false⟩
theorem g5_isinstance : isGlob c5 "isinstance" = true := by decide +kernel
theorem v5_1 : slotOf c5 "other" = some 1 := by decide +kernel
theorem g5_Cell : isGlob c5 "Cell" = true := by decide +kernel
theorem mA_0 {g : Cfg} (D : Gt g lFns lCls lAsk lCI lCS lCM lExs lExi) : 0 ∈ g.asks := mem_of D.asks (by decide +kernel)
theorem v5_0 : slotOf c5 "self" = some 0 := by decide +kernel
theorem b5 {CX : CXT} {P : Program} {wd : World} {K : PySem.W.Frag} {mg : Str → Option Value} {base : Heap} {q : Str} {f : Addr} {cd : Value} {A : Around} {outer : List Env} {s : Shared} {H : Hp} {E : XK} {g : Cfg} {w : SV.W} {k : Nat}
    (G : Gd (cxOf CX P wd K mg base N5 q (defScope s5) f cd A outer s H E) g c5) (T : Fx (cxOf CX P wd K mg base N5 q (defScope s5) f cd A outer s H E) g (WE E) w CX k) (D : Gt g lFns lCls lAsk lCI lCS lCM lExs lExi) :
    PSs (cxOf CX P wd K mg base N5 q (defScope s5) f cd A outer s H E) (defBody s5) (tS g (WE E) false (exSs w none F5.body)) :=
    (pss_consD (ps_retD (x_and (x_isiO G T g5_isinstance (ev_var G v5_1) rfl g5_Cell (mA_0 D) (by decide +kernel)) (x_b1 (x_cmp G (x_fld G T rfl rfl (ev_var G v5_0)) (x_fld G T rfl rfl (ev_var G v5_1)) rfl))))
    pss_nilD)
abbrev s6 : Stmt := (inClass (topS 16) 4)
def N6 : List Str := ["self"]
abbrev c6 : Tc := ⟨N6, defScope s6, [], [], 0, false⟩
theorem g6_Cell : isGlob c6 "Cell" = true := by decide +kernel
theorem mC_Cell {g : Cfg} (D : Gt g lFns lCls lAsk lCI lCS lCM lExs lExi) : (("Cell" : Str), 0) ∈ g.clss := mem_of D.clss (by decide +kernel)
theorem b6 {CX : CXT} {P : Program} {wd : World} {K : PySem.W.Frag} {mg : Str → Option Value} {base : Heap} {q : Str} {f : Addr} {cd : Value} {A : Around} {outer : List Env} {s : Shared} {H : Hp} {E : XK} {g : Cfg} {w : SV.W} {k : Nat}
    (G : Gd (cxOf CX P wd K mg base N6 q (defScope s6) f cd A outer s H E) g c6) (T : Fx (cxOf CX P wd K mg base N6 q (defScope s6) f cd A outer s H E) g (WE E) w CX k) (D : Gt g lFns lCls lAsk lCI lCS lCM lExs lExi) :
    PSs (cxOf CX P wd K mg base N6 q (defScope s6) f cd A outer s H E) (defBody s6) (tS g (WE E) false (exSs w none F6.body)) :=
    (pss_consD (ps_retD (ev_ctr0 G T g6_Cell (mC_Cell D)))
    pss_nilD)
abbrev s7 : Stmt := (inClass (topS 16) 5)
def N7 : List Str := ["self"]
abbrev c7 : Tc := ⟨N7, defScope s7, [], [], 0, false⟩
theorem v7_0 : slotOf c7 "self" = some 0 := by decide +kernel
theorem b7 {CX : CXT} {P : Program} {wd : World} {K : PySem.W.Frag} {mg : Str → Option Value} {base : Heap} {q : Str} {f : Addr} {cd : Value} {A : Around} {outer : List Env} {s : Shared} {H : Hp} {E : XK} {g : Cfg} {w : SV.W} {k : Nat}
    (G : Gd (cxOf CX P wd K mg base N7 q (defScope s7) f cd A outer s H E) g c7) (T : Fx (cxOf CX P wd K mg base N7 q (defScope s7) f cd A outer s H E) g (WE E) w CX k) (D : Gt g lFns lCls lAsk lCI lCS lCM lExs lExi) :
    PSs (cxOf CX P wd K mg base N7 q (defScope s7) f cd A outer s H E) (defBody s7) (tS g (WE E) false (exSs w none F7.body)) :=
    (pss_consD (ps_retD (x_fld G T rfl rfl (ev_var G v7_0)))
    pss_nilD)
abbrev s8 : Stmt := (inClass (topS 17) 1)
def N8 : List Str := ["self", "held", "came"]
abbrev c8 : Tc := ⟨N8, defScope s8, [], [], 0, false⟩
theorem v8_2 : slotOf c8 "came" = some 2 := by decide +kernel
theorem v8_1 : slotOf c8 "held" = some 1 := by decide +kernel
theorem b8 {CX : CXT} {P : Program} {wd : World} {K : PySem.W.Frag} {mg : Str → Option Value} {base : Heap} {q : Str} {f : Addr} {cd : Value} {A : Around} {outer : List Env} {s : Shared} {H : Hp} {E : XK} {g : Cfg} {w : SV.W} {k : Nat}
    (G : Gd (cxOf CX P wd K mg base N8 q (defScope s8) f cd A outer s H E) g c8) (T : Fx (cxOf CX P wd K mg base N8 q (defScope s8) f cd A outer s H E) g (WE E) w CX k) (D : Gt g lFns lCls lAsk lCI lCS lCM lExs lExi) :
    PSs (cxOf CX P wd K mg base N8 q (defScope s8) f cd A outer s H E) (defBody s8) (tS g (WE E) false (exSs w none F8.body)) :=
    (pss_consD (ps_retD (ev_tup (a_cons (ev_var G v8_2) (a_cons (ev_var G v8_1) pa_nilD rfl) rfl)))
    pss_nilD)
abbrev s9 : Stmt := (inClass (topS 17) 2)
def N9 : List Str := ["self"]
abbrev c9 : Tc := ⟨N9, defScope s9, [], [], 0, false⟩
theorem g9_Last : isGlob c9 "Last" = true := by decide +kernel
theorem mC_Last {g : Cfg} (D : Gt g lFns lCls lAsk lCI lCS lCM lExs lExi) : (("Last" : Str), 1) ∈ g.clss := mem_of D.clss (by decide +kernel)
theorem b9 {CX : CXT} {P : Program} {wd : World} {K : PySem.W.Frag} {mg : Str → Option Value} {base : Heap} {q : Str} {f : Addr} {cd : Value} {A : Around} {outer : List Env} {s : Shared} {H : Hp} {E : XK} {g : Cfg} {w : SV.W} {k : Nat}
    (G : Gd (cxOf CX P wd K mg base N9 q (defScope s9) f cd A outer s H E) g c9) (T : Fx (cxOf CX P wd K mg base N9 q (defScope s9) f cd A outer s H E) g (WE E) w CX k) (D : Gt g lFns lCls lAsk lCI lCS lCM lExs lExi) :
    PSs (cxOf CX P wd K mg base N9 q (defScope s9) f cd A outer s H E) (defBody s9) (tS g (WE E) false (exSs w none F9.body)) :=
    (pss_consD (ps_retD (ev_ctr0 G T g9_Last (mC_Last D)))
    pss_nilD)
abbrev s10 : Stmt := (inClass (topS 18) 1)
def N10 : List Str := ["self", "held", "came"]
abbrev c10 : Tc := ⟨N10, defScope s10, [], [], 0, false⟩
theorem g10_min : isGlob c10 "min" = true := by decide +kernel
theorem v10_1 : slotOf c10 "held" = some 1 := by decide +kernel
theorem v10_2 : slotOf c10 "came" = some 2 := by decide +kernel
theorem g10_max : isGlob c10 "max" = true := by decide +kernel
theorem b10 {CX : CXT} {P : Program} {wd : World} {K : PySem.W.Frag} {mg : Str → Option Value} {base : Heap} {q : Str} {f : Addr} {cd : Value} {A : Around} {outer : List Env} {s : Shared} {H : Hp} {E : XK} {g : Cfg} {w : SV.W} {k : Nat}
    (G : Gd (cxOf CX P wd K mg base N10 q (defScope s10) f cd A outer s H E) g c10) (T : Fx (cxOf CX P wd K mg base N10 q (defScope s10) f cd A outer s H E) g (WE E) w CX k) (D : Gt g lFns lCls lAsk lCI lCS lCM lExs lExi) :
    PSs (cxOf CX P wd K mg base N10 q (defScope s10) f cd A outer s H E) (defBody s10) (tS g (WE E) false (exSs w none F10.body)) :=
    (pss_consD (ps_retD (ev_tup (a_cons (x_Bmin2 G T g10_min (a_cons (ev_var G v10_1) (a_cons (ev_var G v10_2) pa_nilD rfl) rfl) rfl) (a_cons (x_Bmax2 G T g10_max (a_cons (ev_var G v10_1) (a_cons (ev_var G v10_2) pa_nilD rfl) rfl) rfl) pa_nilD rfl) rfl)))
    pss_nilD)
abbrev s11 : Stmt := (inClass (topS 18) 2)
def N11 : List Str := ["self"]
abbrev c11 : Tc := ⟨N11, defScope s11, [], [], 0, false⟩
theorem g11_Greater : isGlob c11 "Greater" = true := by decide +kernel
theorem mC_Greater {g : Cfg} (D : Gt g lFns lCls lAsk lCI lCS lCM lExs lExi) : (("Greater" : Str), 3) ∈ g.clss := mem_of D.clss (by decide +kernel)
theorem b11 {CX : CXT} {P : Program} {wd : World} {K : PySem.W.Frag} {mg : Str → Option Value} {base : Heap} {q : Str} {f : Addr} {cd : Value} {A : Around} {outer : List Env} {s : Shared} {H : Hp} {E : XK} {g : Cfg} {w : SV.W} {k : Nat}
    (G : Gd (cxOf CX P wd K mg base N11 q (defScope s11) f cd A outer s H E) g c11) (T : Fx (cxOf CX P wd K mg base N11 q (defScope s11) f cd A outer s H E) g (WE E) w CX k) (D : Gt g lFns lCls lAsk lCI lCS lCM lExs lExi) :
    PSs (cxOf CX P wd K mg base N11 q (defScope s11) f cd A outer s H E) (defBody s11) (tS g (WE E) false (exSs w none F11.body)) :=
    (pss_consD (ps_retD (ev_ctr0 G T g11_Greater (mC_Greater D)))
    pss_nilD)
abbrev s12 : Stmt := (inClass (topS 19) 1)
def N12 : List Str := ["self", "held", "came"]
abbrev c12 : Tc := ⟨N12, defScope s12, [], [], 0, false⟩
theorem g12_max : isGlob c12 "max" = true := by decide +kernel
theorem v12_1 : slotOf c12 "held" = some 1 := by decide +kernel
theorem v12_2 : slotOf c12 "came" = some 2 := by decide +kernel
theorem g12_min : isGlob c12 "min" = true := by decide +kernel
theorem b12 {CX : CXT} {P : Program} {wd : World} {K : PySem.W.Frag} {mg : Str → Option Value} {base : Heap} {q : Str} {f : Addr} {cd : Value} {A : Around} {outer : List Env} {s : Shared} {H : Hp} {E : XK} {g : Cfg} {w : SV.W} {k : Nat}
    (G : Gd (cxOf CX P wd K mg base N12 q (defScope s12) f cd A outer s H E) g c12) (T : Fx (cxOf CX P wd K mg base N12 q (defScope s12) f cd A outer s H E) g (WE E) w CX k) (D : Gt g lFns lCls lAsk lCI lCS lCM lExs lExi) :
    PSs (cxOf CX P wd K mg base N12 q (defScope s12) f cd A outer s H E) (defBody s12) (tS g (WE E) false (exSs w none F12.body)) :=
    (pss_consD (ps_retD (ev_tup (a_cons (x_Bmax2 G T g12_max (a_cons (ev_var G v12_1) (a_cons (ev_var G v12_2) pa_nilD rfl) rfl) rfl) (a_cons (x_Bmin2 G T g12_min (a_cons (ev_var G v12_1) (a_cons (ev_var G v12_2) pa_nilD rfl) rfl) rfl) pa_nilD rfl) rfl)))
    pss_nilD)
abbrev s13 : Stmt := (inClass (topS 19) 2)
def N13 : List Str := ["self"]
abbrev c13 : Tc := ⟨N13, defScope s13, [], [], 0, false⟩
theorem g13_Less : isGlob c13 "Less" = true := by decide +kernel
theorem mC_Less {g : Cfg} (D : Gt g lFns lCls lAsk lCI lCS lCM lExs lExi) : (("Less" : Str), 2) ∈ g.clss := mem_of D.clss (by decide +kernel)
theorem b13 {CX : CXT} {P : Program} {wd : World} {K : PySem.W.Frag} {mg : Str → Option Value} {base : Heap} {q : Str} {f : Addr} {cd : Value} {A : Around} {outer : List Env} {s : Shared} {H : Hp} {E : XK} {g : Cfg} {w : SV.W} {k : Nat}
    (G : Gd (cxOf CX P wd K mg base N13 q (defScope s13) f cd A outer s H E) g c13) (T : Fx (cxOf CX P wd K mg base N13 q (defScope s13) f cd A outer s H E) g (WE E) w CX k) (D : Gt g lFns lCls lAsk lCI lCS lCM lExs lExi) :
    PSs (cxOf CX P wd K mg base N13 q (defScope s13) f cd A outer s H E) (defBody s13) (tS g (WE E) false (exSs w none F13.body)) :=
    (pss_consD (ps_retD (ev_ctr0 G T g13_Less (mC_Less D)))
    pss_nilD)
abbrev s14 : Stmt := (inClass (topS 20) 1)
def N14 : List Str := ["self", "mark", "__class__"]
abbrev c14 : Tc := ⟨N14, defScope s14, [], [], 0, false⟩
theorem g14_check_number : isGlob c14 "check_number" = true := by decide +kernel
theorem mF_check_number {g : Cfg} (D : Gt g lFns lCls lAsk lCI lCS lCM lExs lExi) : (("check_number" : Str), 1) ∈ g.fns := mem_of D.fns (by decide +kernel)
theorem v14_1 : slotOf c14 "mark" = some 1 := by decide +kernel
theorem g14_GREAT : isGlob c14 "GREAT" = true := by decide +kernel
theorem mI_GREAT {g : Cfg} (D : Gt g lFns lCls lAsk lCI lCS lCM lExs lExi) : (("GREAT" : Str), (1000000000 : Int)) ∈ g.cnI := mem_of D.cnI (by decide +kernel)
theorem v14_0 : slotOf c14 "self" = some 0 := by decide +kernel
theorem b14 {X : Cx} {W : WX} {g : Cfg} {w : SV.W} {k : Nat} {CX : CXT} (G : Gd X g c14) (T : Fx X g W w CX k) (D : Gt g lFns lCls lAsk lCI lCS lCM lExs lExi) : PSs X ((defBody s14).drop 1) (tS g W false (exSs w none (F14.body.drop 1))) :=
    (pss_consD (s_exp (ev_cal G T g14_check_number (mF_check_number D) (by decide) (a_cons (ev_var G v14_1) (a_cons (x_bin G (by decide) ev_cint (ev_gint G T g14_GREAT (mI_GREAT D))) (a_cons (ev_gint G T g14_GREAT (mI_GREAT D)) pa_nilD rfl) rfl) rfl) rfl) rfl)
    (pss_consD (s_fld G T rfl (ev_var G v14_0) (ev_var G v14_1) rfl)
    (pss_consD (s_fld G T rfl (ev_var G v14_0) (ev_fst (ev_var G v14_1)) rfl)
    pss_nilD)))
abbrev s15 : Stmt := (inClass (topS 20) 2)
def N15 : List Str := ["self", "held", "came"]
abbrev c15 : Tc := ⟨N15, defScope s15, [], [], 0, false⟩
theorem g15_abs : isGlob c15 "abs" = true := by decide +kernel
theorem v15_2 : slotOf c15 "came" = some 2 := by decide +kernel
theorem v15_0 : slotOf c15 "self" = some 0 := by decide +kernel
theorem v15_1 : slotOf c15 "held" = some 1 := by decide +kernel
theorem b15 {CX : CXT} {P : Program} {wd : World} {K : PySem.W.Frag} {mg : Str → Option Value} {base : Heap} {q : Str} {f : Addr} {cd : Value} {A : Around} {outer : List Env} {s : Shared} {H : Hp} {E : XK} {g : Cfg} {w : SV.W} {k : Nat}
    (G : Gd (cxOf CX P wd K mg base N15 q (defScope s15) f cd A outer s H E) g c15) (T : Fx (cxOf CX P wd K mg base N15 q (defScope s15) f cd A outer s H E) g (WE E) w CX k) (D : Gt g lFns lCls lAsk lCI lCS lCM lExs lExi) :
    PSs (cxOf CX P wd K mg base N15 q (defScope s15) f cd A outer s H E) (defBody s15) (tS g (WE E) false (exSs w none F15.body)) :=
    (pss_consD (ps_retD (ev_ite2 (t_cmp G (x_Babs G T g15_abs (a_cons (x_bin G (by decide) (ev_var G v15_2) (x_fld G T rfl rfl (ev_var G v15_0))) pa_nilD rfl) rfl) (x_Babs G T g15_abs (a_cons (x_bin G (by decide) (ev_var G v15_1) (x_fld G T rfl rfl (ev_var G v15_0))) pa_nilD rfl) rfl) rfl) (ev_tup (a_cons (ev_var G v15_2) (a_cons (ev_var G v15_1) pa_nilD rfl) rfl)) (ev_tup (a_cons (ev_var G v15_1) (a_cons (ev_var G v15_2) pa_nilD rfl) rfl))))
    pss_nilD)
abbrev s16 : Stmt := (inClass (topS 20) 3)
def N16 : List Str := ["self"]
abbrev c16 : Tc := ⟨N16, defScope s16, [], [], 0, false⟩
theorem g16_Near : isGlob c16 "Near" = true := by decide +kernel
theorem mC_Near {g : Cfg} (D : Gt g lFns lCls lAsk lCI lCS lCM lExs lExi) : (("Near" : Str), 4) ∈ g.clss := mem_of D.clss (by decide +kernel)
theorem v16_0 : slotOf c16 "self" = some 0 := by decide +kernel
theorem b16 {CX : CXT} {P : Program} {wd : World} {K : PySem.W.Frag} {mg : Str → Option Value} {base : Heap} {q : Str} {f : Addr} {cd : Value} {A : Around} {outer : List Env} {s : Shared} {H : Hp} {E : XK} {g : Cfg} {w : SV.W} {k : Nat}
    (G : Gd (cxOf CX P wd K mg base N16 q (defScope s16) f cd A outer s H E) g c16) (T : Fx (cxOf CX P wd K mg base N16 q (defScope s16) f cd A outer s H E) g (WE E) w CX k) (D : Gt g lFns lCls lAsk lCI lCS lCM lExs lExi) :
    PSs (cxOf CX P wd K mg base N16 q (defScope s16) f cd A outer s H E) (defBody s16) (tS g (WE E) false (exSs w none F16.body)) :=
    (pss_consD (ps_retD (ev_ctr G T g16_Near (mC_Near D) (a_cons (x_bin G (by decide) ev_cint (x_fld G T rfl rfl (ev_var G v16_0))) pa_nilD rfl) rfl))
    pss_nilD)
abbrev s100 : Stmt := (topS 22)
def N100 : List Str := ["_law_script", "_law_salt", "_law_seed", "_law_cell", ".0"]
abbrev c100 : Tc := ⟨N100, defScope s100, [], [], 0, false⟩
theorem v100_1 : slotOf c100 "_law_salt" = some 1 := by decide +kernel
theorem v100_2 : slotOf c100 "_law_seed" = some 2 := by decide +kernel
theorem k100_2 : (c100.sc.names.lookup ("_law_seed" : Str) == some NameKind.local || c100.sc.names.lookup ("_law_seed" : Str) == some NameKind.cell) = true := by decide +kernel
theorem v100_0 : slotOf c100 "_law_script" = some 0 := by decide +kernel
theorem v100_3 : slotOf c100 "_law_cell" = some 3 := by decide +kernel
theorem k100_3 : (c100.sc.names.lookup ("_law_cell" : Str) == some NameKind.local || c100.sc.names.lookup ("_law_cell" : Str) == some NameKind.cell) = true := by decide +kernel
theorem g100_abs : isGlob c100 "abs" = true := by decide +kernel
theorem b100 {CX : CXT} {P : Program} {wd : World} {K : PySem.W.Frag} {mg : Str → Option Value} {base : Heap} {q : Str} {f : Addr} {cd : Value} {A : Around} {outer : List Env} {s : Shared} {H : Hp} {E : XK} {g : Cfg} {w : SV.W} {k : Nat}
    (G : Gd (cxOf CX P wd K mg base N100 q (defScope s100) f cd A outer s H E) g c100) (T : Fx (cxOf CX P wd K mg base N100 q (defScope s100) f cd A outer s H E) g (WE E) w CX k) (D : Gt g lFns lCls lAsk lCI lCS lCM lExs lExi) :
    PSs (cxOf CX P wd K mg base N100 q (defScope s100) f cd A outer s H E) (defBody s100) (tS g (WE E) true (exSs w none F100.body)) :=
    (pss_consD (s_asg (ev_var G v100_1) (g_name G v100_2 k100_2 rfl) rfl rfl rfl)
    (pss_consD (ps_forE G T (i_val G (ev_var G v100_0)) (g_name G v100_3 k100_3 rfl) (pss_consD (s_asg (x_bin G (by decide) (x_bin G (by decide) (x_bin G (by decide) (ev_var G v100_2) ev_cint) (x_Babs G T g100_abs (a_cons (ev_var G v100_3) pa_nilD rfl) rfl)) ev_cint) (g_name G v100_2 k100_2 rfl) rfl rfl rfl)
    pss_nilD) (fun _ => rfl))
    (pss_consD (ps_retD (x_bin G (by decide) (x_lst (a_cons (ev_var G v100_2) (a_cons ev_cint pa_nilD rfl) rfl)) (x_frz (ev_lcA G T (by decide +kernel) (by decide +kernel) (i_val G (ev_var G v100_0)) (fun X1 G1 T1 h1 => (w_name G1 (by decide +kernel) (by decide +kernel) (by decide +kernel))) (fun X1 G1 T1 h1 => (pts_oneD (t_cmp G1 (ev_var G1 (by decide +kernel)) (x_bin G1 (by decide) ev_cint ev_cint) rfl))) (fun X1 G1 T1 h1 => (ev_var G1 (by decide +kernel))) (fun _ => rfl)))))
    pss_nilD)))
abbrev s101 : Stmt := (topS 23)
def N101 : List Str := ["_law_d", "_law_limit", "_law_result"]
abbrev c101 : Tc := ⟨N101, defScope s101, [], [], 0, false⟩
theorem v101_0 : slotOf c101 "_law_d" = some 0 := by decide +kernel
theorem g101_len : isGlob c101 "len" = true := by decide +kernel
theorem v101_1 : slotOf c101 "_law_limit" = some 1 := by decide +kernel
theorem v101_2 : slotOf c101 "_law_result" = some 2 := by decide +kernel
theorem k101_2 : (c101.sc.names.lookup ("_law_result" : Str) == some NameKind.local || c101.sc.names.lookup ("_law_result" : Str) == some NameKind.cell) = true := by decide +kernel
theorem b101 {CX : CXT} {P : Program} {wd : World} {K : PySem.W.Frag} {mg : Str → Option Value} {base : Heap} {q : Str} {f : Addr} {cd : Value} {A : Around} {outer : List Env} {s : Shared} {H : Hp} {E : XK} {g : Cfg} {w : SV.W} {k : Nat}
    (G : Gd (cxOf CX P wd K mg base N101 q (defScope s101) f cd A outer s H E) g c101) (T : Fx (cxOf CX P wd K mg base N101 q (defScope s101) f cd A outer s H E) g (WE E) w CX k) (D : Gt g lFns lCls lAsk lCI lCS lCM lExs lExi) :
    PSs (cxOf CX P wd K mg base N101 q (defScope s101) f cd A outer s H E) (defBody s101) (tS g (WE E) false (exSs w none F101.body)) :=
    (pss_consD (ps_ifD (t_and (t_cmp G (x_sub G T (ev_var G v101_0) ev_cint (fun _ _ => rfl) (fun _ _ => rfl)) ev_cint rfl) (w_and1 (t_cmp G (x_Blen G T g101_len (a_cons (ev_var G v101_0) pa_nilD rfl) rfl) ev_cint rfl))) (pss_consD (s_asg (x_Mpop1 G rfl (ev_var G v101_0) (a_cons ev_cint pa_nilD rfl) rfl (by decide) rfl) (g_sub G (ev_var G v101_0) ev_cint rfl) rfl rfl rfl)
    pss_nilD) pss_nilD)
    (pss_consD (ps_ifD (t_cmp G (x_sub G T (ev_var G v101_0) ev_cint (fun _ _ => rfl) (fun _ _ => rfl)) ev_cint rfl) (pss_consD (s_asg (x_bin G (by decide) (x_sub G T (ev_var G v101_0) ev_cint (fun _ _ => rfl) (fun _ _ => rfl)) (ev_var G v101_1)) (g_name G v101_2 k101_2 rfl) rfl rfl rfl)
    (pss_consD (s_asg (x_bin G (by decide) (x_sub G T (ev_var G v101_0) ev_cint (fun _ _ => rfl) (fun _ _ => rfl)) (ev_var G v101_1)) (g_sub G (ev_var G v101_0) ev_cint rfl) rfl rfl rfl)
    (pss_consD (ps_retD (ev_var G v101_2))
    pss_nilD))) pss_nilD)
    (pss_consD (s_asg (x_bin G (by decide) (x_bin G (by decide) (x_bin G (by decide) (x_sub G T (ev_var G v101_0) ev_cint (fun _ _ => rfl) (fun _ _ => rfl)) ev_cint) ev_cint) ev_cint) (g_sub G (ev_var G v101_0) ev_cint rfl) rfl rfl rfl)
    (pss_consD (ps_retD (x_bin G (by decide) (x_bin G (by decide) (x_sub G T (ev_var G v101_0) ev_cint (fun _ _ => rfl) (fun _ _ => rfl)) ev_cint) (ev_var G v101_1)))
    pss_nilD))))
abbrev s103 : Stmt := (topS 24)
def N103 : List Str := ["_law_d", "_law_most", "_law_top", ".0", "_law_k"]
abbrev c103 : Tc := ⟨N103, defScope s103, [], [], 0, false⟩
theorem g103__law_below : isGlob c103 "_law_below" = true := by decide +kernel
theorem mF__law_below {g : Cfg} (D : Gt g lFns lCls lAsk lCI lCS lCM lExs lExi) : (("_law_below" : Str), 101) ∈ g.fns := mem_of D.fns (by decide +kernel)
theorem v103_0 : slotOf c103 "_law_d" = some 0 := by decide +kernel
theorem v103_2 : slotOf c103 "_law_top" = some 2 := by decide +kernel
theorem k103_2 : (c103.sc.names.lookup ("_law_top" : Str) == some NameKind.local || c103.sc.names.lookup ("_law_top" : Str) == some NameKind.cell) = true := by decide +kernel
theorem g103_range : isGlob c103 "range" = true := by decide +kernel
theorem v103_1 : slotOf c103 "_law_most" = some 1 := by decide +kernel
theorem b103 {CX : CXT} {P : Program} {wd : World} {K : PySem.W.Frag} {mg : Str → Option Value} {base : Heap} {q : Str} {f : Addr} {cd : Value} {A : Around} {outer : List Env} {s : Shared} {H : Hp} {E : XK} {g : Cfg} {w : SV.W} {k : Nat}
    (G : Gd (cxOf CX P wd K mg base N103 q (defScope s103) f cd A outer s H E) g c103) (T : Fx (cxOf CX P wd K mg base N103 q (defScope s103) f cd A outer s H E) g (WE E) w CX k) (D : Gt g lFns lCls lAsk lCI lCS lCM lExs lExi) :
    PSs (cxOf CX P wd K mg base N103 q (defScope s103) f cd A outer s H E) (defBody s103) (tS g (WE E) false (exSs w none F103.body)) :=
    (pss_consD (s_asg (x_sub G T (x_lst (a_cons ev_cint (a_cons ev_cint (a_cons (x_bin G (by decide) ev_cint ev_cint) pa_nilD rfl) rfl) rfl)) (ev_cal G T g103__law_below (mF__law_below D) (by decide) (a_cons (ev_var G v103_0) (a_cons ev_cint pa_nilD rfl) rfl) rfl) (fun _ _ => rfl) (fun _ _ => rfl)) (g_name G v103_2 k103_2 rfl) rfl rfl rfl)
    (pss_consD (ps_retD (x_frz (ev_lcA G T (by decide +kernel) (by decide +kernel) (i_rng1 G T g103_range (ev_cal G T g103__law_below (mF__law_below D) (by decide) (a_cons (ev_var G v103_0) (a_cons (x_bin G (by decide) (ev_var G v103_1) ev_cint) pa_nilD rfl) rfl) rfl) rfl) (fun X1 G1 T1 h1 => (w_name G1 (by decide +kernel) (by decide +kernel) (by decide +kernel))) (fun X1 G1 T1 h1 => pts_nilD) (fun X1 G1 T1 h1 => (x_bin G1 (by decide) (ev_cal G1 T1 (by decide +kernel) (mF__law_below D) (by decide) (a_cons (ev_var G1 (by decide +kernel)) (a_cons (x_bin G1 (by decide) (x_bin G1 (by decide) ev_cint (ev_var G1 (by decide +kernel))) ev_cint) pa_nilD rfl) rfl) rfl) (ev_var G1 (by decide +kernel)))) (fun _ => rfl))))
    pss_nilD))
abbrev s108 : Stmt := (topS 25)
def N108 : List Str := ["_law_actual", "_law_expected", ".0", "_law_k"]
abbrev c108 : Tc := ⟨N108, defScope s108, [], [], 0, false⟩
theorem v108_1 : slotOf c108 "_law_expected" = some 1 := by decide +kernel
theorem v108_0 : slotOf c108 "_law_actual" = some 0 := by decide +kernel
theorem g108_isinstance : isGlob c108 "isinstance" = true := by decide +kernel
theorem g108_bool : isGlob c108 "bool" = true := by decide +kernel
theorem g108_int : isGlob c108 "int" = true := by decide +kernel
theorem g108_str : isGlob c108 "str" = true := by decide +kernel
theorem g108_tuple : isGlob c108 "tuple" = true := by decide +kernel
theorem g108_list : isGlob c108 "list" = true := by decide +kernel
theorem g108_len : isGlob c108 "len" = true := by decide +kernel
theorem g108_all : isGlob c108 "all" = true := by decide +kernel
theorem g108_range : isGlob c108 "range" = true := by decide +kernel
theorem mF__law_equal {g : Cfg} (D : Gt g lFns lCls lAsk lCI lCS lCM lExs lExi) : (("_law_equal" : Str), 108) ∈ g.fns := mem_of D.fns (by decide +kernel)
theorem b108 {CX : CXT} {P : Program} {wd : World} {K : PySem.W.Frag} {mg : Str → Option Value} {base : Heap} {q : Str} {f : Addr} {cd : Value} {A : Around} {outer : List Env} {s : Shared} {H : Hp} {E : XK} {g : Cfg} {w : SV.W} {k : Nat}
    (G : Gd (cxOf CX P wd K mg base N108 q (defScope s108) f cd A outer s H E) g c108) (T : Fx (cxOf CX P wd K mg base N108 q (defScope s108) f cd A outer s H E) g (WE E) w CX k) (D : Gt g lFns lCls lAsk lCI lCS lCM lExs lExi) :
    PSs (cxOf CX P wd K mg base N108 q (defScope s108) f cd A outer s H E) (defBody s108) (tS g (WE E) false (exSs w none F108.body)) :=
    (pss_consD (ps_ifD (t_cmp G (ev_var G v108_1) ev_cnon rfl) (pss_consD (ps_retD (x_cmp G (ev_var G v108_0) ev_cnon rfl))
    pss_nilD) pss_nilD)
    (pss_consD (ps_ifD (t_val (x_isiB G T g108_isinstance (ev_var G v108_1) rfl g108_bool ity_bool) (fun _ => rfl)) (pss_consD (ps_retD (x_and (x_isiB G T g108_isinstance (ev_var G v108_0) rfl g108_bool ity_bool) (x_b1 (x_cmp G (ev_var G v108_0) (ev_var G v108_1) rfl))))
    pss_nilD) pss_nilD)
    (pss_consD (ps_ifD (t_val (x_isiB G T g108_isinstance (ev_var G v108_1) rfl g108_int ity_int) (fun _ => rfl)) (pss_consD (ps_retD (x_and (x_isiB G T g108_isinstance (ev_var G v108_0) rfl g108_int ity_int) (x_and (x_not (x_isiB G T g108_isinstance (ev_var G v108_0) rfl g108_bool ity_bool)) (x_b1 (x_cmp G (ev_var G v108_0) (ev_var G v108_1) rfl)))))
    pss_nilD) pss_nilD)
    (pss_consD (ps_ifD (t_val (x_isiB G T g108_isinstance (ev_var G v108_1) rfl g108_str ity_str) (fun _ => rfl)) (pss_consD (ps_retD (x_and (x_isiB G T g108_isinstance (ev_var G v108_0) rfl g108_str ity_str) (x_b1 (x_cmp G (ev_var G v108_0) (ev_var G v108_1) rfl))))
    pss_nilD) pss_nilD)
    (pss_consD (ps_ifD (t_cmp G (x_isiB G T g108_isinstance (ev_var G v108_1) rfl g108_tuple ity_tuple) (x_isiB G T g108_isinstance (ev_var G v108_0) rfl g108_tuple ity_tuple) rfl) (pss_consD (ps_retD ev_cbl)
    pss_nilD) pss_nilD)
    (pss_consD (ps_ifD (t_cmp G (x_isiB G T g108_isinstance (ev_var G v108_1) rfl g108_list ity_list) (x_isiB G T g108_isinstance (ev_var G v108_0) rfl g108_list ity_list) rfl) (pss_consD (ps_retD ev_cbl)
    pss_nilD) pss_nilD)
    (pss_consD (ps_ifD (t_cmp G (x_Blen G T g108_len (a_cons (ev_var G v108_0) pa_nilD rfl) rfl) (x_Blen G T g108_len (a_cons (ev_var G v108_1) pa_nilD rfl) rfl) rfl) (pss_consD (ps_retD ev_cbl)
    pss_nilD) pss_nilD)
    (pss_consD (ps_retD (x_Ball G T g108_all (a_cons (x_frz (ev_lcA G T (by decide +kernel) (by decide +kernel) (i_rng1 G T g108_range (x_Blen G T g108_len (a_cons (ev_var G v108_1) pa_nilD rfl) rfl) rfl) (fun X1 G1 T1 h1 => (w_name G1 (by decide +kernel) (by decide +kernel) (by decide +kernel))) (fun X1 G1 T1 h1 => pts_nilD) (fun X1 G1 T1 h1 => (ev_cal G1 T1 (by decide +kernel) (mF__law_equal D) (by decide) (a_cons (x_sub G1 T1 (ev_var G1 (by decide +kernel)) (ev_var G1 (by decide +kernel)) (fun _ _ => rfl) (fun _ _ => rfl)) (a_cons (x_sub G1 T1 (ev_var G1 (by decide +kernel)) (ev_var G1 (by decide +kernel)) (fun _ _ => rfl) (fun _ _ => rfl)) pa_nilD rfl) rfl) rfl)) (fun _ => rfl))) pa_nilD rfl) rfl))
    pss_nilD))))))))
abbrev s105 : Stmt := (topS 26)
def N105 : List Str := ["_law_label", "_law_held", "_law_came", "_law_mark"]
abbrev c105 : Tc := ⟨N105, defScope s105, [], [], 0, false⟩
theorem v105_0 : slotOf c105 "_law_label" = some 0 := by decide +kernel
theorem v105_2 : slotOf c105 "_law_came" = some 2 := by decide +kernel
theorem v105_1 : slotOf c105 "_law_held" = some 1 := by decide +kernel
theorem g105_min : isGlob c105 "min" = true := by decide +kernel
theorem g105_max : isGlob c105 "max" = true := by decide +kernel
theorem g105_int : isGlob c105 "int" = true := by decide +kernel
theorem v105_3 : slotOf c105 "_law_mark" = some 3 := by decide +kernel
theorem k105_3 : (c105.sc.names.lookup ("_law_mark" : Str) == some NameKind.local || c105.sc.names.lookup ("_law_mark" : Str) == some NameKind.cell) = true := by decide +kernel
theorem g105_abs : isGlob c105 "abs" = true := by decide +kernel
theorem b105 {CX : CXT} {P : Program} {wd : World} {K : PySem.W.Frag} {mg : Str → Option Value} {base : Heap} {q : Str} {f : Addr} {cd : Value} {A : Around} {outer : List Env} {s : Shared} {H : Hp} {E : XK} {g : Cfg} {w : SV.W} {k : Nat}
    (G : Gd (cxOf CX P wd K mg base N105 q (defScope s105) f cd A outer s H E) g c105) (T : Fx (cxOf CX P wd K mg base N105 q (defScope s105) f cd A outer s H E) g (WE E) w CX k) (D : Gt g lFns lCls lAsk lCI lCS lCM lExs lExi) :
    PSs (cxOf CX P wd K mg base N105 q (defScope s105) f cd A outer s H E) (defBody s105) (tS g (WE E) false (exSs w none F105.body)) :=
    (pss_consD (ps_ifD (t_cmp G (ev_var G v105_0) ev_cstr rfl) (pss_consD (ps_retD (ev_tup (a_cons (ev_var G v105_2) (a_cons (ev_var G v105_1) pa_nilD rfl) rfl)))
    pss_nilD) pss_nilD)
    (pss_consD (ps_ifD (t_cmp G (ev_var G v105_0) ev_cstr rfl) (pss_consD (ps_retD (ev_tup (a_cons (x_Bmin1 G T g105_min (a_cons (x_lst (a_cons (ev_var G v105_1) (a_cons (ev_var G v105_2) pa_nilD rfl) rfl)) pa_nilD rfl) rfl) (a_cons (x_Bmax1 G T g105_max (a_cons (x_lst (a_cons (ev_var G v105_1) (a_cons (ev_var G v105_2) pa_nilD rfl) rfl)) pa_nilD rfl) rfl) pa_nilD rfl) rfl)))
    pss_nilD) pss_nilD)
    (pss_consD (ps_ifD (t_cmp G (ev_var G v105_0) ev_cstr rfl) (pss_consD (ps_retD (ev_tup (a_cons (x_Bmax1 G T g105_max (a_cons (x_lst (a_cons (ev_var G v105_1) (a_cons (ev_var G v105_2) pa_nilD rfl) rfl)) pa_nilD rfl) rfl) (a_cons (x_Bmin1 G T g105_min (a_cons (x_lst (a_cons (ev_var G v105_1) (a_cons (ev_var G v105_2) pa_nilD rfl) rfl)) pa_nilD rfl) rfl) pa_nilD rfl) rfl)))
    pss_nilD) pss_nilD)
    (pss_consD (ps_ifD (t_cmp G (ev_var G v105_0) ev_cstr rfl) (pss_consD (s_asg (x_Bint G T g105_int (a_cons (x_slc (ev_var G v105_0) (o_some ev_cint) po_noneD) pa_nilD rfl) rfl) (g_name G v105_3 k105_3 rfl) rfl rfl rfl)
    (pss_consD (ps_ifD (t_cmp G (x_Babs G T g105_abs (a_cons (x_bin G (by decide) (ev_var G v105_2) (ev_var G v105_3)) pa_nilD rfl) rfl) (x_Babs G T g105_abs (a_cons (x_bin G (by decide) (ev_var G v105_1) (ev_var G v105_3)) pa_nilD rfl) rfl) rfl) (pss_consD (ps_retD (ev_tup (a_cons (ev_var G v105_2) (a_cons (ev_var G v105_1) pa_nilD rfl) rfl)))
    pss_nilD) pss_nilD)
    pss_nilD)) pss_nilD)
    (pss_consD (ps_retD (ev_tup (a_cons (ev_var G v105_1) (a_cons (ev_var G v105_2) pa_nilD rfl) rfl)))
    pss_nilD)))))
abbrev s200 : Stmt := (topS 28)
def N200 : List Str := ["_law_script", "_law_d", "_law_step", "_law_mark", "_law_cells", "_law_labels", "_law_opposite", "_law_k", "_law_other", "_law_pair", "_law_held", "_law_came", "_law_odd"]
abbrev c200 : Tc := ⟨N200, defScope s200, [], [], 0, false⟩
def F200 : Fn := ⟨1, 13, false, false, [
  .asg (.name 1) (.new (.cal 100 (.cons (.var 0) (.cons (.cst (.int 1)) .nil)))),
  .for (.name 2) (.rng (.cons (.cst (.int 6)) .nil)) [
    .asg (.name 3) (.sub (.lst (.cons (.cst (.int 0)) (.cons (.bin .Pow (.cst (.int 10)) (.cst (.int 9))) (.cons (.bin .Sub (.cst (.int 0)) (.bin .Pow (.cst (.int 10)) (.cst (.int 9)))) (.cons (.bin .Sub (.cal 101 (.cons (.var 1) (.cons (.cst (.int 9)) .nil))) (.cst (.int 4))) (.cons (.cal 101 (.cons (.var 1) (.cons (.bin .Pow (.cst (.int 10)) (.cst (.int 9))) .nil))) .nil)))))) (.cal 101 (.cons (.var 1) (.cons (.cst (.int 5)) .nil)))),
    .asg (.name 4) (.lst (.cons (.ctr 0 .nil) (.cons (.ctr 1 .nil) (.cons (.ctr 2 .nil) (.cons (.ctr 3 .nil) (.cons (.ctr 4 (.cons (.var 3) .nil)) .nil)))))),
    .asg (.name 5) (.lst (.cons (.cst (.str "first")) (.cons (.cst (.str "last")) (.cons (.cst (.str "less")) (.cons (.cst (.str "greater")) (.cons (.bin .Add (.cst (.str "near:")) (.bif .str (.cons (.var 3) .nil))) .nil)))))),
    .asg (.name 6) (.lst (.cons (.cst (.str "first")) (.cons (.cst (.str "last")) (.cons (.cst (.str "greater")) (.cons (.cst (.str "less")) (.cons (.bin .Add (.cst (.str "near:")) (.bif .str (.cons (.bin .Sub (.cst (.int 0)) (.var 3)) .nil))) .nil)))))),
    .par (.cons (.name 7) (.cons (.name 8) .nil)) (.cons (.cal 101 (.cons (.var 1) (.cons (.cst (.int 5)) .nil))) (.cons (.cal 101 (.cons (.var 1) (.cons (.cst (.int 5)) .nil))) .nil)),
    .asg (.name 9) (.cal 103 (.cons (.var 1) (.cons (.cst (.int 2)) .nil))),
    .asg (.tup (.cons (.name 10) (.cons (.name 11) .nil))) (.slc (.bin .Add (.var 9) (.lst (.cons (.bin .Add (.var 3) (.cst (.int 1))) (.cons (.bin .Sub (.var 3) (.cst (.int 1))) .nil)))) .none (.some (.cst (.int 2)))),
    .ifs (.not (.cal 108 (.cons (.lst (.cons (.prp (.sub (.var 4) (.var 7)) 10) (.cons (.prp (.neg (.sub (.var 4) (.var 7))) 10) .nil))) (.cons (.lst (.cons (.sub (.var 5) (.var 7)) (.cons (.sub (.var 6) (.var 7)) .nil))) .nil)))) [
      .ret (.cst (.bl false))] [],
    .ifs (.not (.cal 108 (.cons (.app (.sub (.var 4) (.var 7)) (.cons (.var 10) (.cons (.var 11) .nil))) (.cons (.cal 105 (.cons (.sub (.var 5) (.var 7)) (.cons (.var 10) (.cons (.var 11) .nil)))) .nil)))) [
      .ret (.cst (.bl false))] [],
    .ifs (.or (.cmp .NotEq (.oeq false (.sub (.var 4) (.var 7)) (.sub (.var 4) (.var 8))) (.cmp .Eq (.var 7) (.var 8))) (.or (.oeq false (.sub (.var 4) (.var 7)) (.sub (.var 5) (.var 7))) (.not (.isi (.sub (.var 4) (.var 7)) (.own 0))))) [
      .ret (.cst (.bl false))] [],
    .ifs (.or (.not (.cal 108 (.cons (.kcn (.sub (.var 4) (.var 7)) 0) (.cons (.sub (.lst (.cons (.cst (.str "first")) (.cons (.cst (.str "last")) (.cons (.cst (.str "less")) (.cons (.cst (.str "greater")) (.cons (.cst (.str "near")) .nil)))))) (.var 7)) .nil)))) (.oeq true (.neg (.neg (.sub (.var 4) (.var 7)))) (.sub (.var 4) (.var 7)))) [
      .ret (.cst (.bl false))] [],
    .ifs (.or (.oeq false (.sub (.var 4) (.cst (.int 4))) (.ctr 4 (.cons (.ite (.cmp .Lt (.var 3) (.bin .Pow (.cst (.int 10)) (.cst (.int 9)))) (.bin .Add (.var 3) (.cst (.int 1))) (.cst (.int 0))) .nil))) (.oeq true (.sub (.var 4) (.cst (.int 4))) (.ctr 4 (.cons (.var 3) .nil)))) [
      .ret (.cst (.bl false))] [],
    .asg (.name 12) (.sub (.lst (.cons (.bin .Add (.bin .Pow (.cst (.int 10)) (.cst (.int 9))) (.cst (.int 1))) (.cons (.bin .Sub (.bin .Sub (.cst (.int 0)) (.bin .Pow (.cst (.int 10)) (.cst (.int 9)))) (.cst (.int 1))) (.cons (.cst .non) (.cons (.cst (.bl true)) (.cons (.cst (.str "1")) (.cons (.tup (.cons (.cst (.int 1)) .nil)) .nil))))))) (.cal 101 (.cons (.var 1) (.cons (.cst (.int 6)) .nil)))),
    .ifs (.cmp .NotEq (.eof (.lam 3200)) (.tup (.cons (.cst (.str "number")) (.cons (.cst (.int 0)) .nil)))) [
      .ret (.cst (.bl false))] []],
  .ret (.cst (.bl true))]⟩
theorem g200__law_random : isGlob c200 "_law_random" = true := by decide +kernel
theorem mF__law_random {g : Cfg} (D : Gt g lFns lCls lAsk lCI lCS lCM lExs lExi) : (("_law_random" : Str), 100) ∈ g.fns := mem_of D.fns (by decide +kernel)
theorem v200_0 : slotOf c200 "_law_script" = some 0 := by decide +kernel
theorem v200_1 : slotOf c200 "_law_d" = some 1 := by decide +kernel
theorem k200_1 : (c200.sc.names.lookup ("_law_d" : Str) == some NameKind.local || c200.sc.names.lookup ("_law_d" : Str) == some NameKind.cell) = true := by decide +kernel
theorem g200_range : isGlob c200 "range" = true := by decide +kernel
theorem v200_2 : slotOf c200 "_law_step" = some 2 := by decide +kernel
theorem k200_2 : (c200.sc.names.lookup ("_law_step" : Str) == some NameKind.local || c200.sc.names.lookup ("_law_step" : Str) == some NameKind.cell) = true := by decide +kernel
theorem g200__law_below : isGlob c200 "_law_below" = true := by decide +kernel
theorem v200_3 : slotOf c200 "_law_mark" = some 3 := by decide +kernel
theorem k200_3 : (c200.sc.names.lookup ("_law_mark" : Str) == some NameKind.local || c200.sc.names.lookup ("_law_mark" : Str) == some NameKind.cell) = true := by decide +kernel
theorem g200_Cell : isGlob c200 "Cell" = true := by decide +kernel
theorem g200_Last : isGlob c200 "Last" = true := by decide +kernel
theorem g200_Less : isGlob c200 "Less" = true := by decide +kernel
theorem g200_Greater : isGlob c200 "Greater" = true := by decide +kernel
theorem g200_Near : isGlob c200 "Near" = true := by decide +kernel
theorem v200_4 : slotOf c200 "_law_cells" = some 4 := by decide +kernel
theorem k200_4 : (c200.sc.names.lookup ("_law_cells" : Str) == some NameKind.local || c200.sc.names.lookup ("_law_cells" : Str) == some NameKind.cell) = true := by decide +kernel
theorem g200_str : isGlob c200 "str" = true := by decide +kernel
theorem v200_5 : slotOf c200 "_law_labels" = some 5 := by decide +kernel
theorem k200_5 : (c200.sc.names.lookup ("_law_labels" : Str) == some NameKind.local || c200.sc.names.lookup ("_law_labels" : Str) == some NameKind.cell) = true := by decide +kernel
theorem v200_6 : slotOf c200 "_law_opposite" = some 6 := by decide +kernel
theorem k200_6 : (c200.sc.names.lookup ("_law_opposite" : Str) == some NameKind.local || c200.sc.names.lookup ("_law_opposite" : Str) == some NameKind.cell) = true := by decide +kernel
theorem v200_7 : slotOf c200 "_law_k" = some 7 := by decide +kernel
theorem v200_8 : slotOf c200 "_law_other" = some 8 := by decide +kernel
theorem l200_7 : (c200.sc.names.lookup ("_law_k" : Str) == some NameKind.local) = true := by decide +kernel
theorem l200_8 : (c200.sc.names.lookup ("_law_other" : Str) == some NameKind.local) = true := by decide +kernel
theorem g200__law_row : isGlob c200 "_law_row" = true := by decide +kernel
theorem mF__law_row {g : Cfg} (D : Gt g lFns lCls lAsk lCI lCS lCM lExs lExi) : (("_law_row" : Str), 103) ∈ g.fns := mem_of D.fns (by decide +kernel)
theorem v200_9 : slotOf c200 "_law_pair" = some 9 := by decide +kernel
theorem k200_9 : (c200.sc.names.lookup ("_law_pair" : Str) == some NameKind.local || c200.sc.names.lookup ("_law_pair" : Str) == some NameKind.cell) = true := by decide +kernel
theorem v200_10 : slotOf c200 "_law_held" = some 10 := by decide +kernel
theorem k200_10 : (c200.sc.names.lookup ("_law_held" : Str) == some NameKind.local || c200.sc.names.lookup ("_law_held" : Str) == some NameKind.cell) = true := by decide +kernel
theorem v200_11 : slotOf c200 "_law_came" = some 11 := by decide +kernel
theorem k200_11 : (c200.sc.names.lookup ("_law_came" : Str) == some NameKind.local || c200.sc.names.lookup ("_law_came" : Str) == some NameKind.cell) = true := by decide +kernel
theorem g200__law_equal : isGlob c200 "_law_equal" = true := by decide +kernel
theorem g200__law_kept : isGlob c200 "_law_kept" = true := by decide +kernel
theorem mF__law_kept {g : Cfg} (D : Gt g lFns lCls lAsk lCI lCS lCM lExs lExi) : (("_law_kept" : Str), 105) ∈ g.fns := mem_of D.fns (by decide +kernel)
theorem g200_isinstance : isGlob c200 "isinstance" = true := by decide +kernel
theorem v200_12 : slotOf c200 "_law_odd" = some 12 := by decide +kernel
theorem k200_12 : (c200.sc.names.lookup ("_law_odd" : Str) == some NameKind.local || c200.sc.names.lookup ("_law_odd" : Str) == some NameKind.cell) = true := by decide +kernel
theorem g200__law_error_of : isGlob c200 "_law_error_of" = true := by decide +kernel
theorem b200 {CX : CXT} {P : Program} {wd : World} {K : PySem.W.Frag} {mg : Str → Option Value} {base : Heap} {q : Str} {f : Addr} {cd : Value} {A : Around} {outer : List Env} {s : Shared} {H : Hp} {E : XK} {g : Cfg} {w : SV.W} {k : Nat} {gA cA PT : Addr}
    (G : Gd (cxOf CX P wd K mg base N200 q (defScope s200) f cd A outer s H E) g c200) (T : Fx (cxOf CX P wd K mg base N200 q (defScope s200) f cd A outer s H E) g (WE E) w CX k) (D : Gt g lFns lCls lAsk lCI lCS lCM lExs lExi) (EE : ErrD (cxOf CX P wd K mg base N200 q (defScope s200) f cd A outer s H E) g gA (defArgs s999) (defBody s999) (defScope s999)) (BL : LamB (cxOf CX P wd K mg base N200 q (defScope s200) f cd A outer s H E) g cA PT) (LM : LamOk (cxOf CX P wd K mg base N200 q (defScope s200) f cd A outer s H E) g w lLam) :
    PSs (cxOf CX P wd K mg base N200 q (defScope s200) f cd A outer s H E) (defBody s200) (tS g (WE E) false (exSs w none F200.body)) :=
    (pss_consD (s_asg (x_new (ev_cal G T g200__law_random (mF__law_random D) (by decide) (a_cons (ev_var G v200_0) (a_cons ev_cint pa_nilD rfl) rfl) rfl)) (g_name G v200_1 k200_1 rfl) rfl rfl rfl)
    (pss_consD (ps_forE G T (i_rng1 G T g200_range ev_cint rfl) (g_name G v200_2 k200_2 rfl) (pss_consD (s_asg (x_sub G T (x_lst (a_cons ev_cint (a_cons (x_bin G (by decide) ev_cint ev_cint) (a_cons (x_bin G (by decide) ev_cint (x_bin G (by decide) ev_cint ev_cint)) (a_cons (x_bin G (by decide) (ev_cal G T g200__law_below (mF__law_below D) (by decide) (a_cons (ev_var G v200_1) (a_cons ev_cint pa_nilD rfl) rfl) rfl) ev_cint) (a_cons (ev_cal G T g200__law_below (mF__law_below D) (by decide) (a_cons (ev_var G v200_1) (a_cons (x_bin G (by decide) ev_cint ev_cint) pa_nilD rfl) rfl) rfl) pa_nilD rfl) rfl) rfl) rfl) rfl)) (ev_cal G T g200__law_below (mF__law_below D) (by decide) (a_cons (ev_var G v200_1) (a_cons ev_cint pa_nilD rfl) rfl) rfl) (fun _ _ => rfl) (fun _ _ => rfl)) (g_name G v200_3 k200_3 rfl) rfl rfl rfl)
    (pss_consD (s_asg (x_lst (a_cons (ev_ctr0 G T g200_Cell (mC_Cell D)) (a_cons (ev_ctr0 G T g200_Last (mC_Last D)) (a_cons (ev_ctr0 G T g200_Less (mC_Less D)) (a_cons (ev_ctr0 G T g200_Greater (mC_Greater D)) (a_cons (ev_ctr G T g200_Near (mC_Near D) (a_cons (ev_var G v200_3) pa_nilD rfl) rfl) pa_nilD rfl) rfl) rfl) rfl) rfl)) (g_name G v200_4 k200_4 rfl) rfl rfl rfl)
    (pss_consD (s_asg (x_lst (a_cons ev_cstr (a_cons ev_cstr (a_cons ev_cstr (a_cons ev_cstr (a_cons (x_bin G (by decide) ev_cstr (x_Bstr G T g200_str (a_cons (ev_var G v200_3) pa_nilD rfl) rfl)) pa_nilD rfl) rfl) rfl) rfl) rfl)) (g_name G v200_5 k200_5 rfl) rfl rfl rfl)
    (pss_consD (s_asg (x_lst (a_cons ev_cstr (a_cons ev_cstr (a_cons ev_cstr (a_cons ev_cstr (a_cons (x_bin G (by decide) ev_cstr (x_Bstr G T g200_str (a_cons (x_bin G (by decide) ev_cint (ev_var G v200_3)) pa_nilD rfl) rfl)) pa_nilD rfl) rfl) rfl) rfl) rfl)) (g_name G v200_6 k200_6 rfl) rfl rfl rfl)
    (pss_consD (s_par G T v200_7 v200_8 (by decide) l200_7 l200_8 (ev_cal G T g200__law_below (mF__law_below D) (by decide) (a_cons (ev_var G v200_1) (a_cons ev_cint pa_nilD rfl) rfl) rfl) (ev_cal G T g200__law_below (mF__law_below D) (by decide) (a_cons (ev_var G v200_1) (a_cons ev_cint pa_nilD rfl) rfl) rfl) rfl rfl rfl)
    (pss_consD (s_asg (ev_cal G T g200__law_row (mF__law_row D) (by decide) (a_cons (ev_var G v200_1) (a_cons ev_cint pa_nilD rfl) rfl) rfl) (g_name G v200_9 k200_9 rfl) rfl rfl rfl)
    (pss_consD (s_asg (x_slc (x_bin G (by decide) (ev_var G v200_9) (x_lst (a_cons (x_bin G (by decide) (ev_var G v200_3) ev_cint) (a_cons (x_bin G (by decide) (ev_var G v200_3) ev_cint) pa_nilD rfl) rfl))) po_noneD (o_some ev_cint)) (pg_tupD G T.calm (pgs_consD (g_name G v200_10 k200_10 rfl) (pgs_consD (g_name G v200_11 k200_11 rfl) pgs_nilD rfl) rfl) rfl rfl) rfl rfl rfl)
    (pss_consD (ps_ifD (pt_not2 (t_val (ev_cal G T g200__law_equal (mF__law_equal D) (by decide) (a_cons (x_lst (a_cons (x_prp T rfl (by decide) (by decide) rfl (x_sub G T (ev_var G v200_4) (ev_var G v200_7) (fun _ _ => rfl) (fun _ _ => rfl))) (a_cons (x_prp T rfl (by decide) (by decide) rfl (x_neg T (x_sub G T (ev_var G v200_4) (ev_var G v200_7) (fun _ _ => rfl) (fun _ _ => rfl)))) pa_nilD rfl) rfl)) (a_cons (x_lst (a_cons (x_sub G T (ev_var G v200_5) (ev_var G v200_7) (fun _ _ => rfl) (fun _ _ => rfl)) (a_cons (x_sub G T (ev_var G v200_6) (ev_var G v200_7) (fun _ _ => rfl) (fun _ _ => rfl)) pa_nilD rfl) rfl)) pa_nilD rfl) rfl) rfl) (fun _ => rfl))) (pss_consD (ps_retD ev_cbl)
    pss_nilD) pss_nilD)
    (pss_consD (ps_ifD (pt_not2 (t_val (ev_cal G T g200__law_equal (mF__law_equal D) (by decide) (a_cons (x_app T (x_sub G T (ev_var G v200_4) (ev_var G v200_7) (fun _ _ => rfl) (fun _ _ => rfl)) (a_cons (ev_var G v200_10) (a_cons (ev_var G v200_11) pa_nilD rfl) rfl) rfl rfl) (a_cons (ev_cal G T g200__law_kept (mF__law_kept D) (by decide) (a_cons (x_sub G T (ev_var G v200_5) (ev_var G v200_7) (fun _ _ => rfl) (fun _ _ => rfl)) (a_cons (ev_var G v200_10) (a_cons (ev_var G v200_11) pa_nilD rfl) rfl) rfl) rfl) pa_nilD rfl) rfl) rfl) (fun _ => rfl))) (pss_consD (ps_retD ev_cbl)
    pss_nilD) pss_nilD)
    (pss_consD (ps_ifD (t_or (t_cmp G (x_oeqE T (x_sub G T (ev_var G v200_4) (ev_var G v200_7) (fun _ _ => rfl) (fun _ _ => rfl)) (x_sub G T (ev_var G v200_4) (ev_var G v200_8) (fun _ _ => rfl) (fun _ _ => rfl)) rfl) (x_cmp G (ev_var G v200_7) (ev_var G v200_8) rfl) rfl) (pw_or2 (t_oeqE T (x_sub G T (ev_var G v200_4) (ev_var G v200_7) (fun _ _ => rfl) (fun _ _ => rfl)) (x_sub G T (ev_var G v200_5) (ev_var G v200_7) (fun _ _ => rfl) (fun _ _ => rfl)) rfl) (w_or1 (pt_not2 (t_val (x_isiO G T g200_isinstance (x_sub G T (ev_var G v200_4) (ev_var G v200_7) (fun _ _ => rfl) (fun _ _ => rfl)) rfl g200_Cell (mA_0 D) (by decide +kernel)) (fun _ => rfl)))))) (pss_consD (ps_retD ev_cbl)
    pss_nilD) pss_nilD)
    (pss_consD (ps_ifD (t_or (pt_not2 (t_val (ev_cal G T g200__law_equal (mF__law_equal D) (by decide) (a_cons (x_kcn G T rfl (x_sub G T (ev_var G v200_4) (ev_var G v200_7) (fun _ _ => rfl) (fun _ _ => rfl))) (a_cons (x_sub G T (x_lst (a_cons ev_cstr (a_cons ev_cstr (a_cons ev_cstr (a_cons ev_cstr (a_cons ev_cstr pa_nilD rfl) rfl) rfl) rfl) rfl)) (ev_var G v200_7) (fun _ _ => rfl) (fun _ _ => rfl)) pa_nilD rfl) rfl) rfl) (fun _ => rfl))) (w_or1 (t_oeqN T (x_neg T (x_neg T (x_sub G T (ev_var G v200_4) (ev_var G v200_7) (fun _ _ => rfl) (fun _ _ => rfl)))) (x_sub G T (ev_var G v200_4) (ev_var G v200_7) (fun _ _ => rfl) (fun _ _ => rfl)) rfl))) (pss_consD (ps_retD ev_cbl)
    pss_nilD) pss_nilD)
    (pss_consD (ps_ifD (t_or (t_oeqE T (x_sub G T (ev_var G v200_4) ev_cint (fun _ _ => rfl) (fun _ _ => rfl)) (ev_ctr G T g200_Near (mC_Near D) (a_cons (ev_ite2 (t_cmp G (ev_var G v200_3) (x_bin G (by decide) ev_cint ev_cint) rfl) (x_bin G (by decide) (ev_var G v200_3) ev_cint) ev_cint) pa_nilD rfl) rfl) rfl) (w_or1 (t_oeqN T (x_sub G T (ev_var G v200_4) ev_cint (fun _ _ => rfl) (fun _ _ => rfl)) (ev_ctr G T g200_Near (mC_Near D) (a_cons (ev_var G v200_3) pa_nilD rfl) rfl) rfl))) (pss_consD (ps_retD ev_cbl)
    pss_nilD) pss_nilD)
    (pss_consD (s_asg (x_sub G T (x_lst (a_cons (x_bin G (by decide) (x_bin G (by decide) ev_cint ev_cint) ev_cint) (a_cons (x_bin G (by decide) (x_bin G (by decide) ev_cint (x_bin G (by decide) ev_cint ev_cint)) ev_cint) (a_cons ev_cnon (a_cons ev_cbl (a_cons ev_cstr (a_cons (ev_tup (a_cons ev_cint pa_nilD rfl)) pa_nilD rfl) rfl) rfl) rfl) rfl) rfl)) (ev_cal G T g200__law_below (mF__law_below D) (by decide) (a_cons (ev_var G v200_1) (a_cons ev_cint pa_nilD rfl) rfl) rfl) (fun _ _ => rfl) (fun _ _ => rfl)) (g_name G v200_12 k200_12 rfl) rfl rfl rfl)
    (pss_consD (ps_ifD (t_cmp G (ev_eof G g200__law_error_of EE BL LM (kk := 3200) rfl (by decide +kernel) rfl (fun _ _ _ _ _ => rfl) (fun X1 W1 w1 CX1 k1 G1 T1 => (ev_ctr G1 T1 (by decide +kernel) (mC_Near D) (a_cons (ev_var G1 (by decide +kernel)) pa_nilD rfl) rfl))) (ev_tup (a_cons ev_cstr (a_cons ev_cint pa_nilD rfl) rfl)) rfl) (pss_consD (ps_retD ev_cbl)
    pss_nilD) pss_nilD)
    pss_nilD)))))))))))))) (fun _ => rfl))
    (pss_consD (ps_retD ev_cbl)
    pss_nilD)))
end SV
set_option linter.all false
set_option Elab.async false
set_option maxRecDepth 100000
set_option maxHeartbeats 4000000
namespace SV
open PySem PySem.Spec PyProof.Rows L2
def lFn : Nat → Option Fn
  | 0 => some F0
  | 1 => some F1
  | 3 => some F3
  | 4 => some F4
  | 5 => some F5
  | 6 => some F6
  | 7 => some F7
  | 8 => some F8
  | 9 => some F9
  | 10 => some F10
  | 11 => some F11
  | 12 => some F12
  | 13 => some F13
  | 14 => some F14
  | 15 => some F15
  | 16 => some F16
  | 100 => some F100
  | 101 => some F101
  | 103 => some F103
  | 108 => some F108
  | 105 => some F105
  | _ => none
def lMeth : Nat → Nat → Option Nat
  | 0, 0 => some 4
  | 0, 1 => some 5
  | 0, 2 => some 6
  | 0, 10 => some 7
  | 1, 0 => some 8
  | 1, 1 => some 5
  | 1, 2 => some 9
  | 1, 10 => some 7
  | 2, 0 => some 10
  | 2, 1 => some 5
  | 2, 2 => some 11
  | 2, 10 => some 7
  | 3, 0 => some 12
  | 3, 1 => some 5
  | 3, 2 => some 13
  | 3, 10 => some 7
  | 4, 0 => some 15
  | 4, 1 => some 5
  | 4, 2 => some 16
  | 4, 6 => some 3
  | 4, 10 => some 7
  | _, _ => none
def lInit : Nat → Option Nat
  | 0 => some 3
  | 1 => some 3
  | 2 => some 3
  | 3 => some 3
  | 4 => some 14
  | _ => none
def lKcon : Nat → Nat → Option D
  | 0, 0 => some (.str "first")
  | 1, 0 => some (.str "last")
  | 2, 0 => some (.str "less")
  | 3, 0 => some (.str "greater")
  | 4, 0 => some (.str "near")
  | _, _ => none
def lP : Pg := ⟨lFn, lMeth, lInit, lKcon, lLam, 5000⟩
theorem sc0 : FnScope N0 ["value", "low", "high"] (defScope s0) := ⟨rfl, rfl, rfl, by decide +kernel, rfl, by decide +kernel, by decide +kernel⟩
theorem bd0 : BindOk "is_int_in" "is_int_in" s0 ["value", "low", "high"] := fun _ _ _ _ _ _ us hl => match us, hl with | [_, _, _], _ => rfl
theorem sc1 : FnScope N1 ["value", "low", "high"] (defScope s1) := ⟨rfl, rfl, rfl, by decide +kernel, rfl, by decide +kernel, by decide +kernel⟩
theorem bd1 : BindOk "check_number" "check_number" s1 ["value", "low", "high"] := fun _ _ _ _ _ _ us hl => match us, hl with | [_, _, _], _ => rfl
theorem sc3 : FnScope N3 ["self"] (defScope s3) := ⟨rfl, rfl, rfl, by decide +kernel, rfl, by decide +kernel, by decide +kernel⟩
theorem bd3 : BindOk "__init__" "Cell.__init__" s3 ["self"] := fun _ _ _ _ _ _ us hl => match us, hl with | [_], _ => rfl
theorem sc4 : FnScope N4 ["self", "held", "came"] (defScope s4) := ⟨rfl, rfl, rfl, by decide +kernel, rfl, by decide +kernel, by decide +kernel⟩
theorem bd4 : BindOk "__call__" "Cell.__call__" s4 ["self", "held", "came"] := fun _ _ _ _ _ _ us hl => match us, hl with | [_, _, _], _ => rfl
theorem sc5 : FnScope N5 ["self", "other"] (defScope s5) := ⟨rfl, rfl, rfl, by decide +kernel, rfl, by decide +kernel, by decide +kernel⟩
theorem bd5 : BindOk "__eq__" "Cell.__eq__" s5 ["self", "other"] := fun _ _ _ _ _ _ us hl => match us, hl with | [_, _], _ => rfl
theorem sc6 : FnScope N6 ["self"] (defScope s6) := ⟨rfl, rfl, rfl, by decide +kernel, rfl, by decide +kernel, by decide +kernel⟩
theorem bd6 : BindOk "__neg__" "Cell.__neg__" s6 ["self"] := fun _ _ _ _ _ _ us hl => match us, hl with | [_], _ => rfl
theorem sc7 : FnScope N7 ["self"] (defScope s7) := ⟨rfl, rfl, rfl, by decide +kernel, rfl, by decide +kernel, by decide +kernel⟩
theorem bd7 : BindOk "label" "Cell.label" s7 ["self"] := fun _ _ _ _ _ _ us hl => match us, hl with | [_], _ => rfl
theorem sc8 : FnScope N8 ["self", "held", "came"] (defScope s8) := ⟨rfl, rfl, rfl, by decide +kernel, rfl, by decide +kernel, by decide +kernel⟩
theorem bd8 : BindOk "__call__" "Last.__call__" s8 ["self", "held", "came"] := fun _ _ _ _ _ _ us hl => match us, hl with | [_, _, _], _ => rfl
theorem sc9 : FnScope N9 ["self"] (defScope s9) := ⟨rfl, rfl, rfl, by decide +kernel, rfl, by decide +kernel, by decide +kernel⟩
theorem bd9 : BindOk "__neg__" "Last.__neg__" s9 ["self"] := fun _ _ _ _ _ _ us hl => match us, hl with | [_], _ => rfl
theorem sc10 : FnScope N10 ["self", "held", "came"] (defScope s10) := ⟨rfl, rfl, rfl, by decide +kernel, rfl, by decide +kernel, by decide +kernel⟩
theorem bd10 : BindOk "__call__" "Less.__call__" s10 ["self", "held", "came"] := fun _ _ _ _ _ _ us hl => match us, hl with | [_, _, _], _ => rfl
theorem sc11 : FnScope N11 ["self"] (defScope s11) := ⟨rfl, rfl, rfl, by decide +kernel, rfl, by decide +kernel, by decide +kernel⟩
theorem bd11 : BindOk "__neg__" "Less.__neg__" s11 ["self"] := fun _ _ _ _ _ _ us hl => match us, hl with | [_], _ => rfl
theorem sc12 : FnScope N12 ["self", "held", "came"] (defScope s12) := ⟨rfl, rfl, rfl, by decide +kernel, rfl, by decide +kernel, by decide +kernel⟩
theorem bd12 : BindOk "__call__" "Greater.__call__" s12 ["self", "held", "came"] := fun _ _ _ _ _ _ us hl => match us, hl with | [_, _, _], _ => rfl
theorem sc13 : FnScope N13 ["self"] (defScope s13) := ⟨rfl, rfl, rfl, by decide +kernel, rfl, by decide +kernel, by decide +kernel⟩
theorem bd13 : BindOk "__neg__" "Greater.__neg__" s13 ["self"] := fun _ _ _ _ _ _ us hl => match us, hl with | [_], _ => rfl
theorem sc14 : NdefX.NScope N14 [("self" : Str), "mark"] ["__class__"] (defScope s14) := NdefX.nscope_by (by decide +kernel)
theorem bd14 {cda cc : Addr} : ∀ (kV doc pm : Value) (an : Option Addr) (ct : Value) (us : List Value), us.length = [("mark" : Str)].length + 1 → bindArgs (PySem.W.ksFn "__init__" "Near.__init__" (defArgs s14) (defBody s14) (defScope s14) .none kV doc pm an (.ref cda) ct cc) ⟨us, []⟩ = pure ([("self" : Str), "mark"].zip us) := fun _ _ _ _ _ us hl => match us, hl with | [_, _], _ => rfl
theorem sc15 : FnScope N15 ["self", "held", "came"] (defScope s15) := ⟨rfl, rfl, rfl, by decide +kernel, rfl, by decide +kernel, by decide +kernel⟩
theorem bd15 : BindOk "__call__" "Near.__call__" s15 ["self", "held", "came"] := fun _ _ _ _ _ _ us hl => match us, hl with | [_, _, _], _ => rfl
theorem sc16 : FnScope N16 ["self"] (defScope s16) := ⟨rfl, rfl, rfl, by decide +kernel, rfl, by decide +kernel, by decide +kernel⟩
theorem bd16 : BindOk "__neg__" "Near.__neg__" s16 ["self"] := fun _ _ _ _ _ _ us hl => match us, hl with | [_], _ => rfl
theorem sc100 : FnScope N100 ["_law_script", "_law_salt"] (defScope s100) := ⟨rfl, rfl, rfl, by decide +kernel, rfl, by decide +kernel, by decide +kernel⟩
theorem bd100 : BindOk "_law_random" "_law_random" s100 ["_law_script", "_law_salt"] := fun _ _ _ _ _ _ us hl => match us, hl with | [_, _], _ => rfl
theorem sc101 : FnScope N101 ["_law_d", "_law_limit"] (defScope s101) := ⟨rfl, rfl, rfl, by decide +kernel, rfl, by decide +kernel, by decide +kernel⟩
theorem bd101 : BindOk "_law_below" "_law_below" s101 ["_law_d", "_law_limit"] := fun _ _ _ _ _ _ us hl => match us, hl with | [_, _], _ => rfl
theorem sc103 : FnScope N103 ["_law_d", "_law_most"] (defScope s103) := ⟨rfl, rfl, rfl, by decide +kernel, rfl, by decide +kernel, by decide +kernel⟩
theorem bd103 : BindOk "_law_row" "_law_row" s103 ["_law_d", "_law_most"] := fun _ _ _ _ _ _ us hl => match us, hl with | [_, _], _ => rfl
theorem sc108 : FnScope N108 ["_law_actual", "_law_expected"] (defScope s108) := ⟨rfl, rfl, rfl, by decide +kernel, rfl, by decide +kernel, by decide +kernel⟩
theorem bd108 : BindOk "_law_equal" "_law_equal" s108 ["_law_actual", "_law_expected"] := fun _ _ _ _ _ _ us hl => match us, hl with | [_, _], _ => rfl
theorem sc105 : FnScope N105 ["_law_label", "_law_held", "_law_came"] (defScope s105) := ⟨rfl, rfl, rfl, by decide +kernel, rfl, by decide +kernel, by decide +kernel⟩
theorem bd105 : BindOk "_law_kept" "_law_kept" s105 ["_law_label", "_law_held", "_law_came"] := fun _ _ _ _ _ _ us hl => match us, hl with | [_, _, _], _ => rfl
theorem sc200 : FnScope N200 ["_law_script"] (defScope s200) := ⟨rfl, rfl, rfl, by decide +kernel, rfl, by decide +kernel, by decide +kernel⟩
theorem bd200 : BindOk "law" "law" s200 ["_law_script"] := fun _ _ _ _ _ _ us hl => match us, hl with | [_], _ => rfl
theorem lMeth6 : ∀ c j, lMeth c 6 = some j → c = 4 ∧ j = 3 := by
  intro c j h
  unfold lMeth at h
  split at h <;> simp_all
theorem lStep {P : Program} {wd : World} {K : PySem.W.Frag} {mg : Str → Option Value} {base : Heap} {g : Cfg} (hP : g.P = P) (hw : g.w = wd) (hK : g.K = K) (D : Gt g lFns lCls lAsk lCI lCS lCM lExs lExi) (tx : Tx K mg g lP.meth lP.init lP.kcon) (htop : (P.main.scope.names.lookup ("super" : Str)).isSome = false) {cda cc : Addr}
    (F0 : DefIn K "is_int_in" "is_int_in" s0 (g.aF 0))
    (F1 : DefIn K "check_number" "check_number" s1 (g.aF 1))
    (F3 : DefIn K "__init__" "Cell.__init__" s3 (g.aF 3))
    (F4 : DefIn K "__call__" "Cell.__call__" s4 (g.aF 4))
    (F5 : DefIn K "__eq__" "Cell.__eq__" s5 (g.aF 5))
    (F6 : DefIn K "__neg__" "Cell.__neg__" s6 (g.aF 6))
    (F7 : DefIn K "label" "Cell.label" s7 (g.aF 7))
    (F8 : DefIn K "__call__" "Last.__call__" s8 (g.aF 8))
    (F9 : DefIn K "__neg__" "Last.__neg__" s9 (g.aF 9))
    (F10 : DefIn K "__call__" "Less.__call__" s10 (g.aF 10))
    (F11 : DefIn K "__neg__" "Less.__neg__" s11 (g.aF 11))
    (F12 : DefIn K "__call__" "Greater.__call__" s12 (g.aF 12))
    (F13 : DefIn K "__neg__" "Greater.__neg__" s13 (g.aF 13))
    (F14 : SupIn P K "__init__" "Near.__init__" s14 (g.aF 14) (g.aC 4) (g.aF 3) cda cc)
    (F15 : DefIn K "__call__" "Near.__call__" s15 (g.aF 15))
    (F16 : DefIn K "__neg__" "Near.__neg__" s16 (g.aF 16))
    (F100 : DefIn K "_law_random" "_law_random" s100 (g.aF 100))
    (F101 : DefIn K "_law_below" "_law_below" s101 (g.aF 101))
    (F103 : DefIn K "_law_row" "_law_row" s103 (g.aF 103))
    (F108 : DefIn K "_law_equal" "_law_equal" s108 (g.aF 108))
    (F105 : DefIn K "_law_kept" "_law_kept" s105 (g.aF 105)) : StepOk P wd K mg base g lP := by
  intro w k hm hi hk fns i fn h
  have h : lFn i = some fn := h
  unfold lFn at h
  split at h
  · cases h; exact step_D (p := lP) F0 hP hw hK tx hm hi hk fns sc0 rfl rfl rfl bd0 (fun _ _ _ _ _ _ _ _ G T => b0 G T D)
  · cases h; exact step_D (p := lP) F1 hP hw hK tx hm hi hk fns sc1 rfl rfl rfl bd1 (fun _ _ _ _ _ _ _ _ G T => b1 G T D)
  · cases h; exact step_D (p := lP) F3 hP hw hK tx hm hi hk fns sc3 rfl rfl rfl bd3 (fun _ _ _ _ _ _ _ _ G T => b3 G T D)
  · cases h; exact step_D (p := lP) F4 hP hw hK tx hm hi hk fns sc4 rfl rfl rfl bd4 (fun _ _ _ _ _ _ _ _ G T => b4 G T D)
  · cases h; exact step_D (p := lP) F5 hP hw hK tx hm hi hk fns sc5 rfl rfl rfl bd5 (fun _ _ _ _ _ _ _ _ G T => b5 G T D)
  · cases h; exact step_D (p := lP) F6 hP hw hK tx hm hi hk fns sc6 rfl rfl rfl bd6 (fun _ _ _ _ _ _ _ _ G T => b6 G T D)
  · cases h; exact step_D (p := lP) F7 hP hw hK tx hm hi hk fns sc7 rfl rfl rfl bd7 (fun _ _ _ _ _ _ _ _ G T => b7 G T D)
  · cases h; exact step_D (p := lP) F8 hP hw hK tx hm hi hk fns sc8 rfl rfl rfl bd8 (fun _ _ _ _ _ _ _ _ G T => b8 G T D)
  · cases h; exact step_D (p := lP) F9 hP hw hK tx hm hi hk fns sc9 rfl rfl rfl bd9 (fun _ _ _ _ _ _ _ _ G T => b9 G T D)
  · cases h; exact step_D (p := lP) F10 hP hw hK tx hm hi hk fns sc10 rfl rfl rfl bd10 (fun _ _ _ _ _ _ _ _ G T => b10 G T D)
  · cases h; exact step_D (p := lP) F11 hP hw hK tx hm hi hk fns sc11 rfl rfl rfl bd11 (fun _ _ _ _ _ _ _ _ G T => b11 G T D)
  · cases h; exact step_D (p := lP) F12 hP hw hK tx hm hi hk fns sc12 rfl rfl rfl bd12 (fun _ _ _ _ _ _ _ _ G T => b12 G T D)
  · cases h; exact step_D (p := lP) F13 hP hw hK tx hm hi hk fns sc13 rfl rfl rfl bd13 (fun _ _ _ _ _ _ _ _ G T => b13 G T D)
  · cases h; exact fn_sup (ps := ["mark"]) (rest := (defBody s14).drop 1) (rest' := SV.F14.body.drop 1) hP hw hK F14 rfl (tx.blt _ (by decide +kernel)) sc14 rfl rfl rfl bd14 ⟨_, rfl, rfl⟩ rfl rfl rfl (by decide +kernel) htop (fun c j hc => by rw [hm] at hc; exact lMeth6 c j hc) (fns 3) (fun A outer s H E => px_of (takes_of rfl rfl rfl rfl)) (fun A outer s H E hr => b14 (gd_ofS hP hw hK sc14.nd hr) (fx_ofS tx hm hi hk fns hr) D)
  · cases h; exact step_D (p := lP) F15 hP hw hK tx hm hi hk fns sc15 rfl rfl rfl bd15 (fun _ _ _ _ _ _ _ _ G T => b15 G T D)
  · cases h; exact step_D (p := lP) F16 hP hw hK tx hm hi hk fns sc16 rfl rfl rfl bd16 (fun _ _ _ _ _ _ _ _ G T => b16 G T D)
  · cases h; exact step_D (p := lP) F100 hP hw hK tx hm hi hk fns sc100 rfl rfl rfl bd100 (fun _ _ _ _ _ _ _ _ G T => b100 G T D)
  · cases h; exact step_D (p := lP) F101 hP hw hK tx hm hi hk fns sc101 rfl rfl rfl bd101 (fun _ _ _ _ _ _ _ _ G T => b101 G T D)
  · cases h; exact step_D (p := lP) F103 hP hw hK tx hm hi hk fns sc103 rfl rfl rfl bd103 (fun _ _ _ _ _ _ _ _ G T => b103 G T D)
  · cases h; exact step_D (p := lP) F108 hP hw hK tx hm hi hk fns sc108 rfl rfl rfl bd108 (fun _ _ _ _ _ _ _ _ G T => b108 G T D)
  · cases h; exact step_D (p := lP) F105 hP hw hK tx hm hi hk fns sc105 rfl rfl rfl bd105 (fun _ _ _ _ _ _ _ _ G T => b105 G T D)
  · cases h
theorem all_mk {l : PySem.W.OpenLaw} {w : World} {K : PySem.W.Frag} {h : Heap} {mg : Str → Option Value} {fa : Addr} (X : K.In h) (G : h.Ns mainGlobals mg) (hfa : mg "law" = some (.ref fa))
    {C0 C1 C2 C3 C4 C20 C21 C22 C23 C24 C25 C26 C27 C28 C29 C30 ffE PT cdA200 ff0 ff1 ff3 ff4 ff5 ff6 ff7 p7 ff8 ff9 ff10 ff11 ff12 ff13 ff14 cdA14 cc14 ff15 ff16 ff100 ff101 ff103 ff108 ff105 ff200 : Addr} {od0 an0 od1 an1 od3 an3 od4 an4 od5 an5 od6 an6 od7 an7 od8 an8 od9 an9 od10 an10 od11 an11 od12 an12 od13 an13 od14 an14 od15 an15 od16 an16 od100 an100 od101 an101 od103 an103 od108 an108 od105 an105 od200 an200 : Option Addr} {sl0 sl1 sl3 sl4 sl5 sl6 sl7 sl8 sl9 sl10 sl11 sl12 sl13 sl14 sl15 sl16 sl100 sl101 sl103 sl108 sl105 sl200 : Array (Option Value)} {oc0 kV0 dc0 pm0 ct0 cd0 oc1 kV1 dc1 pm1 ct1 cd1 oc3 kV3 dc3 pm3 ct3 cd3 oc4 kV4 dc4 pm4 ct4 cd4 oc5 kV5 dc5 pm5 ct5 cd5 oc6 kV6 dc6 pm6 ct6 cd6 oc7 kV7 dc7 pm7 ct7 cd7 oc8 kV8 dc8 pm8 ct8 cd8 oc9 kV9 dc9 pm9 ct9 cd9 oc10 kV10 dc10 pm10 ct10 cd10 oc11 kV11 dc11 pm11 ct11 cd11 oc12 kV12 dc12 pm12 ct12 cd12 oc13 kV13 dc13 pm13 ct13 cd13 oc14 kV14 dc14 pm14 ct14 oc15 kV15 dc15 pm15 ct15 cd15 oc16 kV16 dc16 pm16 ct16 cd16 oc100 kV100 dc100 pm100 ct100 cd100 oc101 kV101 dc101 pm101 ct101 cd101 oc103 kV103 dc103 pm103 ct103 cd103 oc108 kV108 dc108 pm108 ct108 cd108 oc105 kV105 dc105 pm105 ct105 cd105 oc200 kV200 dc200 pm200 ct200 : Value}
    {t0 t1 t2 t3 t4 tiGREAT : Tok} {ccl14 cl14 : Value} {cdd14 cld14 : Option Addr} {vs14 : Array Value} {ccs14 csl14 : Array (Option Value)} {fl14 : Str} {tf14 : Tok} {r7 : List Value} {ocE kVE dcE pmE cdE ctE ccl200 : Value} {odE anE cdd200 : Option Addr} {slE ccs200 : Array (Option Value)} {vs200 : Array Value}
    (hC0 : PySem.W.nsIn K mainGlobals "Cell" = some (some (.ref C0)))
    (hC1 : PySem.W.nsIn K mainGlobals "Last" = some (some (.ref C1)))
    (hC2 : PySem.W.nsIn K mainGlobals "Less" = some (some (.ref C2)))
    (hC3 : PySem.W.nsIn K mainGlobals "Greater" = some (some (.ref C3)))
    (hC4 : PySem.W.nsIn K mainGlobals "Near" = some (some (.ref C4)))
    (hC20 : PySem.W.nsIn K mainGlobals "SiftError" = some (some (.ref C20)))
    (hC21 : PySem.W.nsIn K mainGlobals "InvalidNumber" = some (some (.ref C21)))
    (hC22 : PySem.W.nsIn K mainGlobals "InvalidChain" = some (some (.ref C22)))
    (hC23 : PySem.W.nsIn K mainGlobals "UnknownCell" = some (some (.ref C23)))
    (hC24 : PySem.W.nsIn K mainGlobals "InvalidRow" = some (some (.ref C24)))
    (hC25 : PySem.W.nsIn K mainGlobals "InvalidText" = some (some (.ref C25)))
    (hC26 : PySem.W.nsIn K mainGlobals "TooMany" = some (some (.ref C26)))
    (hC27 : PySem.W.nsIn K mainGlobals "Contradiction" = some (some (.ref C27)))
    (hC28 : PySem.W.nsIn K mainGlobals "InvalidName" = some (some (.ref C28)))
    (hC29 : PySem.W.nsIn K mainGlobals "UnknownName" = some (some (.ref C29)))
    (hC30 : PySem.W.nsIn K mainGlobals "InvalidOperation" = some (some (.ref C30)))
    (xq_21 : PySem.W.excIn K C21 [.type "ValueError", .type "Exception", .type "BaseException", .type "object"] "ValueError.__new__" = true)
    (xk_21 : PySem.W.keepIn K (.ref C21) = true)
    (xb_21 : PySem.W.subIn K (.ref C21) (.type "BaseException") = some true)
    (xt_21 : PySem.W.typeIn K (.ref C21) = some (.type "type"))
    (xd_20 : PySem.W.hasDictIn K C20 = true)
    (xt_20 : PySem.W.typeIn K (.ref C20) = some (.type "type"))
    (xs_21_20 : PySem.W.subIn K (.ref C21) (.ref C20) = some true)
    (xs_23_20 : PySem.W.subIn K (.ref C23) (.ref C20) = some true)
    (xs_26_20 : PySem.W.subIn K (.ref C26) (.ref C20) = some true)
    (xs_27_20 : PySem.W.subIn K (.ref C27) (.ref C20) = some true)
    (xs_28_20 : PySem.W.subIn K (.ref C28) (.ref C20) = some true)
    (xs_29_20 : PySem.W.subIn K (.ref C29) (.ref C20) = some true)
    (xd_21 : PySem.W.hasDictIn K C21 = true)
    (xs_21_21 : PySem.W.subIn K (.ref C21) (.ref C21) = some true)
    (xs_23_21 : PySem.W.subIn K (.ref C23) (.ref C21) = some false)
    (xs_26_21 : PySem.W.subIn K (.ref C26) (.ref C21) = some false)
    (xs_27_21 : PySem.W.subIn K (.ref C27) (.ref C21) = some false)
    (xs_28_21 : PySem.W.subIn K (.ref C28) (.ref C21) = some false)
    (xs_29_21 : PySem.W.subIn K (.ref C29) (.ref C21) = some false)
    (xd_22 : PySem.W.hasDictIn K C22 = true)
    (xt_22 : PySem.W.typeIn K (.ref C22) = some (.type "type"))
    (xs_22_22 : PySem.W.subIn K (.ref C22) (.ref C22) = some true)
    (xs_21_22 : PySem.W.subIn K (.ref C21) (.ref C22) = some false)
    (xs_23_22 : PySem.W.subIn K (.ref C23) (.ref C22) = some false)
    (xs_26_22 : PySem.W.subIn K (.ref C26) (.ref C22) = some false)
    (xs_27_22 : PySem.W.subIn K (.ref C27) (.ref C22) = some false)
    (xs_28_22 : PySem.W.subIn K (.ref C28) (.ref C22) = some false)
    (xs_29_22 : PySem.W.subIn K (.ref C29) (.ref C22) = some false)
    (xd_23 : PySem.W.hasDictIn K C23 = true)
    (xt_23 : PySem.W.typeIn K (.ref C23) = some (.type "type"))
    (xs_21_23 : PySem.W.subIn K (.ref C21) (.ref C23) = some false)
    (xs_23_23 : PySem.W.subIn K (.ref C23) (.ref C23) = some true)
    (xs_26_23 : PySem.W.subIn K (.ref C26) (.ref C23) = some false)
    (xs_27_23 : PySem.W.subIn K (.ref C27) (.ref C23) = some false)
    (xs_28_23 : PySem.W.subIn K (.ref C28) (.ref C23) = some false)
    (xs_29_23 : PySem.W.subIn K (.ref C29) (.ref C23) = some false)
    (xd_24 : PySem.W.hasDictIn K C24 = true)
    (xt_24 : PySem.W.typeIn K (.ref C24) = some (.type "type"))
    (xs_24_24 : PySem.W.subIn K (.ref C24) (.ref C24) = some true)
    (xs_21_24 : PySem.W.subIn K (.ref C21) (.ref C24) = some false)
    (xs_23_24 : PySem.W.subIn K (.ref C23) (.ref C24) = some false)
    (xs_26_24 : PySem.W.subIn K (.ref C26) (.ref C24) = some false)
    (xs_27_24 : PySem.W.subIn K (.ref C27) (.ref C24) = some false)
    (xs_28_24 : PySem.W.subIn K (.ref C28) (.ref C24) = some false)
    (xs_29_24 : PySem.W.subIn K (.ref C29) (.ref C24) = some false)
    (xd_25 : PySem.W.hasDictIn K C25 = true)
    (xt_25 : PySem.W.typeIn K (.ref C25) = some (.type "type"))
    (xs_25_25 : PySem.W.subIn K (.ref C25) (.ref C25) = some true)
    (xs_21_25 : PySem.W.subIn K (.ref C21) (.ref C25) = some false)
    (xs_23_25 : PySem.W.subIn K (.ref C23) (.ref C25) = some false)
    (xs_26_25 : PySem.W.subIn K (.ref C26) (.ref C25) = some false)
    (xs_27_25 : PySem.W.subIn K (.ref C27) (.ref C25) = some false)
    (xs_28_25 : PySem.W.subIn K (.ref C28) (.ref C25) = some false)
    (xs_29_25 : PySem.W.subIn K (.ref C29) (.ref C25) = some false)
    (xd_26 : PySem.W.hasDictIn K C26 = true)
    (xt_26 : PySem.W.typeIn K (.ref C26) = some (.type "type"))
    (xs_21_26 : PySem.W.subIn K (.ref C21) (.ref C26) = some false)
    (xs_23_26 : PySem.W.subIn K (.ref C23) (.ref C26) = some false)
    (xs_26_26 : PySem.W.subIn K (.ref C26) (.ref C26) = some true)
    (xs_27_26 : PySem.W.subIn K (.ref C27) (.ref C26) = some false)
    (xs_28_26 : PySem.W.subIn K (.ref C28) (.ref C26) = some false)
    (xs_29_26 : PySem.W.subIn K (.ref C29) (.ref C26) = some false)
    (xd_27 : PySem.W.hasDictIn K C27 = true)
    (xt_27 : PySem.W.typeIn K (.ref C27) = some (.type "type"))
    (xs_21_27 : PySem.W.subIn K (.ref C21) (.ref C27) = some false)
    (xs_23_27 : PySem.W.subIn K (.ref C23) (.ref C27) = some false)
    (xs_26_27 : PySem.W.subIn K (.ref C26) (.ref C27) = some false)
    (xs_27_27 : PySem.W.subIn K (.ref C27) (.ref C27) = some true)
    (xs_28_27 : PySem.W.subIn K (.ref C28) (.ref C27) = some false)
    (xs_29_27 : PySem.W.subIn K (.ref C29) (.ref C27) = some false)
    (xd_28 : PySem.W.hasDictIn K C28 = true)
    (xt_28 : PySem.W.typeIn K (.ref C28) = some (.type "type"))
    (xs_21_28 : PySem.W.subIn K (.ref C21) (.ref C28) = some false)
    (xs_23_28 : PySem.W.subIn K (.ref C23) (.ref C28) = some false)
    (xs_26_28 : PySem.W.subIn K (.ref C26) (.ref C28) = some false)
    (xs_27_28 : PySem.W.subIn K (.ref C27) (.ref C28) = some false)
    (xs_28_28 : PySem.W.subIn K (.ref C28) (.ref C28) = some true)
    (xs_29_28 : PySem.W.subIn K (.ref C29) (.ref C28) = some false)
    (xd_29 : PySem.W.hasDictIn K C29 = true)
    (xt_29 : PySem.W.typeIn K (.ref C29) = some (.type "type"))
    (xs_21_29 : PySem.W.subIn K (.ref C21) (.ref C29) = some false)
    (xs_23_29 : PySem.W.subIn K (.ref C23) (.ref C29) = some false)
    (xs_26_29 : PySem.W.subIn K (.ref C26) (.ref C29) = some false)
    (xs_27_29 : PySem.W.subIn K (.ref C27) (.ref C29) = some false)
    (xs_28_29 : PySem.W.subIn K (.ref C28) (.ref C29) = some false)
    (xs_29_29 : PySem.W.subIn K (.ref C29) (.ref C29) = some true)
    (xd_30 : PySem.W.hasDictIn K C30 = true)
    (xt_30 : PySem.W.typeIn K (.ref C30) = some (.type "type"))
    (xs_30_30 : PySem.W.subIn K (.ref C30) (.ref C30) = some true)
    (xs_21_30 : PySem.W.subIn K (.ref C21) (.ref C30) = some false)
    (xs_23_30 : PySem.W.subIn K (.ref C23) (.ref C30) = some false)
    (xs_26_30 : PySem.W.subIn K (.ref C26) (.ref C30) = some false)
    (xs_27_30 : PySem.W.subIn K (.ref C27) (.ref C30) = some false)
    (xs_28_30 : PySem.W.subIn K (.ref C28) (.ref C30) = some false)
    (xs_29_30 : PySem.W.subIn K (.ref C29) (.ref C30) = some false)
    (xb_20 : PySem.W.subIn K (.ref C20) (.type "BaseException") = some true)
    (xg_21 : PySem.W.findIn K (.ref C21) "__getattribute__" = some (some (.builtin "BaseException.__getattribute__")))
    (xh_21 : PySem.W.findIn K (.ref C21) "__getattr__" = some none)
    (xa_21 : PySem.W.findIn K (.ref C21) "__class__" = some (some (.builtin "object.__class__")))
    (xm_21 : PySem.W.mroIn K C21 (.type "object") = some true)
    (xv_21 : PySem.W.subIn K (.ref C21) (.type "ValueError") = some true)
    (xg_23 : PySem.W.findIn K (.ref C23) "__getattribute__" = some (some (.builtin "BaseException.__getattribute__")))
    (xh_23 : PySem.W.findIn K (.ref C23) "__getattr__" = some none)
    (xb_23 : PySem.W.subIn K (.ref C23) (.type "BaseException") = some true)
    (xa_23 : PySem.W.findIn K (.ref C23) "__class__" = some (some (.builtin "object.__class__")))
    (xm_23 : PySem.W.mroIn K C23 (.type "object") = some true)
    (xv_23 : PySem.W.subIn K (.ref C23) (.type "ValueError") = some true)
    (xg_26 : PySem.W.findIn K (.ref C26) "__getattribute__" = some (some (.builtin "BaseException.__getattribute__")))
    (xh_26 : PySem.W.findIn K (.ref C26) "__getattr__" = some none)
    (xb_26 : PySem.W.subIn K (.ref C26) (.type "BaseException") = some true)
    (xa_26 : PySem.W.findIn K (.ref C26) "__class__" = some (some (.builtin "object.__class__")))
    (xm_26 : PySem.W.mroIn K C26 (.type "object") = some true)
    (xv_26 : PySem.W.subIn K (.ref C26) (.type "ValueError") = some true)
    (xg_27 : PySem.W.findIn K (.ref C27) "__getattribute__" = some (some (.builtin "BaseException.__getattribute__")))
    (xh_27 : PySem.W.findIn K (.ref C27) "__getattr__" = some none)
    (xb_27 : PySem.W.subIn K (.ref C27) (.type "BaseException") = some true)
    (xa_27 : PySem.W.findIn K (.ref C27) "__class__" = some (some (.builtin "object.__class__")))
    (xm_27 : PySem.W.mroIn K C27 (.type "object") = some true)
    (xv_27 : PySem.W.subIn K (.ref C27) (.type "ValueError") = some true)
    (xg_28 : PySem.W.findIn K (.ref C28) "__getattribute__" = some (some (.builtin "BaseException.__getattribute__")))
    (xh_28 : PySem.W.findIn K (.ref C28) "__getattr__" = some none)
    (xb_28 : PySem.W.subIn K (.ref C28) (.type "BaseException") = some true)
    (xa_28 : PySem.W.findIn K (.ref C28) "__class__" = some (some (.builtin "object.__class__")))
    (xm_28 : PySem.W.mroIn K C28 (.type "object") = some true)
    (xv_28 : PySem.W.subIn K (.ref C28) (.type "ValueError") = some true)
    (xg_29 : PySem.W.findIn K (.ref C29) "__getattribute__" = some (some (.builtin "BaseException.__getattribute__")))
    (xh_29 : PySem.W.findIn K (.ref C29) "__getattr__" = some none)
    (xb_29 : PySem.W.subIn K (.ref C29) (.type "BaseException") = some true)
    (xa_29 : PySem.W.findIn K (.ref C29) "__class__" = some (some (.builtin "object.__class__")))
    (xm_29 : PySem.W.mroIn K C29 (.type "object") = some true)
    (xv_29 : PySem.W.subIn K (.ref C29) (.type "ValueError") = some true)
    (b_ValueError : PySem.W.nsIn K mainGlobals "ValueError" = some none)
    (aE : PySem.W.nsIn K mainGlobals "_law_error_of" = some (some (.ref ffE)))
    (lE : K.lookup ffE = some ⟨ocE, odE, .func (PySem.W.fnOf "_law_error_of" "_law_error_of" (defArgs s999) (defBody s999) (defScope s999) .none kVE dcE pmE anE cdE ctE), slE⟩)
    (cE : PySem.W.codeIn K cdE "_law_error_of" = true)
    (kE : PySem.W.keepIn K (.ref ffE) = true)
    (a0 : PySem.W.nsIn K mainGlobals "is_int_in" = some (some (.ref ff0)))
    (l0 : K.lookup ff0 = some ⟨oc0, od0, .func (PySem.W.fnOf "is_int_in" "is_int_in" (defArgs s0) (defBody s0) (defScope s0) .none kV0 dc0 pm0 an0 cd0 ct0), sl0⟩)
    (c0 : PySem.W.codeIn K cd0 "is_int_in" = true)
    (k0 : PySem.W.keepIn K (.ref ff0) = true)
    (a1 : PySem.W.nsIn K mainGlobals "check_number" = some (some (.ref ff1)))
    (l1 : K.lookup ff1 = some ⟨oc1, od1, .func (PySem.W.fnOf "check_number" "check_number" (defArgs s1) (defBody s1) (defScope s1) .none kV1 dc1 pm1 an1 cd1 ct1), sl1⟩)
    (c1 : PySem.W.codeIn K cd1 "check_number" = true)
    (k1 : PySem.W.keepIn K (.ref ff1) = true)
    (a3 : PySem.W.findIn K (.ref C0) "__init__" = some (some (.ref ff3)))
    (l3 : K.lookup ff3 = some ⟨oc3, od3, .func (PySem.W.fnOf "__init__" "Cell.__init__" (defArgs s3) (defBody s3) (defScope s3) .none kV3 dc3 pm3 an3 cd3 ct3), sl3⟩)
    (c3 : PySem.W.codeIn K cd3 "Cell.__init__" = true)
    (k3 : PySem.W.keepIn K (.ref ff3) = true)
    (a4 : PySem.W.findIn K (.ref C0) "__call__" = some (some (.ref ff4)))
    (l4 : K.lookup ff4 = some ⟨oc4, od4, .func (PySem.W.fnOf "__call__" "Cell.__call__" (defArgs s4) (defBody s4) (defScope s4) .none kV4 dc4 pm4 an4 cd4 ct4), sl4⟩)
    (c4 : PySem.W.codeIn K cd4 "Cell.__call__" = true)
    (k4 : PySem.W.keepIn K (.ref ff4) = true)
    (a5 : PySem.W.findIn K (.ref C0) "__eq__" = some (some (.ref ff5)))
    (l5 : K.lookup ff5 = some ⟨oc5, od5, .func (PySem.W.fnOf "__eq__" "Cell.__eq__" (defArgs s5) (defBody s5) (defScope s5) .none kV5 dc5 pm5 an5 cd5 ct5), sl5⟩)
    (c5 : PySem.W.codeIn K cd5 "Cell.__eq__" = true)
    (k5 : PySem.W.keepIn K (.ref ff5) = true)
    (a6 : PySem.W.findIn K (.ref C0) "__neg__" = some (some (.ref ff6)))
    (l6 : K.lookup ff6 = some ⟨oc6, od6, .func (PySem.W.fnOf "__neg__" "Cell.__neg__" (defArgs s6) (defBody s6) (defScope s6) .none kV6 dc6 pm6 an6 cd6 ct6), sl6⟩)
    (c6 : PySem.W.codeIn K cd6 "Cell.__neg__" = true)
    (k6 : PySem.W.keepIn K (.ref ff6) = true)
    (a7 : PySem.W.findIn K (.ref C0) "label" = some (some (.ref p7)))
    (r7 : PySem.W.recIn K p7 "property" = some (.ref ff7 :: r7))
    (pg7 : PySem.W.specialIn K (.ref p7) "__get__" = some (some (.builtin "property.__get__")))
    (pt7 : PySem.W.takesIn K (.ref p7) = some true)
    (l7 : K.lookup ff7 = some ⟨oc7, od7, .func (PySem.W.fnOf "label" "Cell.label" (defArgs s7) (defBody s7) (defScope s7) .none kV7 dc7 pm7 an7 cd7 ct7), sl7⟩)
    (c7 : PySem.W.codeIn K cd7 "Cell.label" = true)
    (k7 : PySem.W.keepIn K (.ref ff7) = true)
    (a8 : PySem.W.findIn K (.ref C1) "__call__" = some (some (.ref ff8)))
    (l8 : K.lookup ff8 = some ⟨oc8, od8, .func (PySem.W.fnOf "__call__" "Last.__call__" (defArgs s8) (defBody s8) (defScope s8) .none kV8 dc8 pm8 an8 cd8 ct8), sl8⟩)
    (c8 : PySem.W.codeIn K cd8 "Last.__call__" = true)
    (k8 : PySem.W.keepIn K (.ref ff8) = true)
    (a9 : PySem.W.findIn K (.ref C1) "__neg__" = some (some (.ref ff9)))
    (l9 : K.lookup ff9 = some ⟨oc9, od9, .func (PySem.W.fnOf "__neg__" "Last.__neg__" (defArgs s9) (defBody s9) (defScope s9) .none kV9 dc9 pm9 an9 cd9 ct9), sl9⟩)
    (c9 : PySem.W.codeIn K cd9 "Last.__neg__" = true)
    (k9 : PySem.W.keepIn K (.ref ff9) = true)
    (a10 : PySem.W.findIn K (.ref C2) "__call__" = some (some (.ref ff10)))
    (l10 : K.lookup ff10 = some ⟨oc10, od10, .func (PySem.W.fnOf "__call__" "Less.__call__" (defArgs s10) (defBody s10) (defScope s10) .none kV10 dc10 pm10 an10 cd10 ct10), sl10⟩)
    (c10 : PySem.W.codeIn K cd10 "Less.__call__" = true)
    (k10 : PySem.W.keepIn K (.ref ff10) = true)
    (a11 : PySem.W.findIn K (.ref C2) "__neg__" = some (some (.ref ff11)))
    (l11 : K.lookup ff11 = some ⟨oc11, od11, .func (PySem.W.fnOf "__neg__" "Less.__neg__" (defArgs s11) (defBody s11) (defScope s11) .none kV11 dc11 pm11 an11 cd11 ct11), sl11⟩)
    (c11 : PySem.W.codeIn K cd11 "Less.__neg__" = true)
    (k11 : PySem.W.keepIn K (.ref ff11) = true)
    (a12 : PySem.W.findIn K (.ref C3) "__call__" = some (some (.ref ff12)))
    (l12 : K.lookup ff12 = some ⟨oc12, od12, .func (PySem.W.fnOf "__call__" "Greater.__call__" (defArgs s12) (defBody s12) (defScope s12) .none kV12 dc12 pm12 an12 cd12 ct12), sl12⟩)
    (c12 : PySem.W.codeIn K cd12 "Greater.__call__" = true)
    (k12 : PySem.W.keepIn K (.ref ff12) = true)
    (a13 : PySem.W.findIn K (.ref C3) "__neg__" = some (some (.ref ff13)))
    (l13 : K.lookup ff13 = some ⟨oc13, od13, .func (PySem.W.fnOf "__neg__" "Greater.__neg__" (defArgs s13) (defBody s13) (defScope s13) .none kV13 dc13 pm13 an13 cd13 ct13), sl13⟩)
    (c13 : PySem.W.codeIn K cd13 "Greater.__neg__" = true)
    (k13 : PySem.W.keepIn K (.ref ff13) = true)
    (a14 : PySem.W.findIn K (.ref C4) "__init__" = some (some (.ref ff14)))
    (l14 : K.lookup ff14 = some ⟨oc14, od14, .func (PySem.W.ksFn "__init__" "Near.__init__" (defArgs s14) (defBody s14) (defScope s14) .none kV14 dc14 pm14 an14 (.ref cdA14) ct14 cc14), sl14⟩)
    (c14 : PySem.W.codeIn K (.ref cdA14) "Near.__init__" = true)
    (co14 : K.lookup cdA14 = some ⟨ccl14, cdd14, .fields vs14, ccs14⟩)
    (ve14 : vs14[2]? = some (.str fl14 tf14))
    (fe14 : ((l.prog.main.file : Str) == fl14) = true)
    (ce14 : K.lookup cc14 = some ⟨cl14, cld14, .cell (some (.ref C4)), csl14⟩)
    (mr14 : PySem.W.mroIn K C4 (.ref C4) = some true)
    (ty14 : PySem.W.typeIn K (.ref ff3) = some (.type "function"))
    (fn14 : PySem.W.fnIn K ff3 = true)
    (th14 : PySem.W.nsIn K PySem.cStatics "thirdparty.any" = some none)
    (tp14 : (l.prog.main.scope.names.lookup ("super" : Str)).isSome = false)
    (k14 : PySem.W.keepIn K (.ref ff14) = true)
    (a15 : PySem.W.findIn K (.ref C4) "__call__" = some (some (.ref ff15)))
    (l15 : K.lookup ff15 = some ⟨oc15, od15, .func (PySem.W.fnOf "__call__" "Near.__call__" (defArgs s15) (defBody s15) (defScope s15) .none kV15 dc15 pm15 an15 cd15 ct15), sl15⟩)
    (c15 : PySem.W.codeIn K cd15 "Near.__call__" = true)
    (k15 : PySem.W.keepIn K (.ref ff15) = true)
    (a16 : PySem.W.findIn K (.ref C4) "__neg__" = some (some (.ref ff16)))
    (l16 : K.lookup ff16 = some ⟨oc16, od16, .func (PySem.W.fnOf "__neg__" "Near.__neg__" (defArgs s16) (defBody s16) (defScope s16) .none kV16 dc16 pm16 an16 cd16 ct16), sl16⟩)
    (c16 : PySem.W.codeIn K cd16 "Near.__neg__" = true)
    (k16 : PySem.W.keepIn K (.ref ff16) = true)
    (a100 : PySem.W.nsIn K mainGlobals "_law_random" = some (some (.ref ff100)))
    (l100 : K.lookup ff100 = some ⟨oc100, od100, .func (PySem.W.fnOf "_law_random" "_law_random" (defArgs s100) (defBody s100) (defScope s100) .none kV100 dc100 pm100 an100 cd100 ct100), sl100⟩)
    (c100 : PySem.W.codeIn K cd100 "_law_random" = true)
    (k100 : PySem.W.keepIn K (.ref ff100) = true)
    (a101 : PySem.W.nsIn K mainGlobals "_law_below" = some (some (.ref ff101)))
    (l101 : K.lookup ff101 = some ⟨oc101, od101, .func (PySem.W.fnOf "_law_below" "_law_below" (defArgs s101) (defBody s101) (defScope s101) .none kV101 dc101 pm101 an101 cd101 ct101), sl101⟩)
    (c101 : PySem.W.codeIn K cd101 "_law_below" = true)
    (k101 : PySem.W.keepIn K (.ref ff101) = true)
    (a103 : PySem.W.nsIn K mainGlobals "_law_row" = some (some (.ref ff103)))
    (l103 : K.lookup ff103 = some ⟨oc103, od103, .func (PySem.W.fnOf "_law_row" "_law_row" (defArgs s103) (defBody s103) (defScope s103) .none kV103 dc103 pm103 an103 cd103 ct103), sl103⟩)
    (c103 : PySem.W.codeIn K cd103 "_law_row" = true)
    (k103 : PySem.W.keepIn K (.ref ff103) = true)
    (a108 : PySem.W.nsIn K mainGlobals "_law_equal" = some (some (.ref ff108)))
    (l108 : K.lookup ff108 = some ⟨oc108, od108, .func (PySem.W.fnOf "_law_equal" "_law_equal" (defArgs s108) (defBody s108) (defScope s108) .none kV108 dc108 pm108 an108 cd108 ct108), sl108⟩)
    (c108 : PySem.W.codeIn K cd108 "_law_equal" = true)
    (k108 : PySem.W.keepIn K (.ref ff108) = true)
    (a105 : PySem.W.nsIn K mainGlobals "_law_kept" = some (some (.ref ff105)))
    (l105 : K.lookup ff105 = some ⟨oc105, od105, .func (PySem.W.fnOf "_law_kept" "_law_kept" (defArgs s105) (defBody s105) (defScope s105) .none kV105 dc105 pm105 an105 cd105 ct105), sl105⟩)
    (c105 : PySem.W.codeIn K cd105 "_law_kept" = true)
    (k105 : PySem.W.keepIn K (.ref ff105) = true)
    (a200 : PySem.W.nsIn K mainGlobals "law" = some (some (.ref ff200)))
    (l200 : K.lookup ff200 = some ⟨oc200, od200, .func (PySem.W.fnOf "law" "law" (defArgs s200) (defBody s200) (defScope s200) .none kV200 dc200 pm200 an200 (.ref cdA200) ct200), sl200⟩)
    (c200 : PySem.W.codeIn K (.ref cdA200) "law" = true)
    (co200 : K.lookup cdA200 = some ⟨ccl200, cdd200, .fields vs200, ccs200⟩)
    (tv200 : vs200[11]? = some (.ref PT))
    (tn200 : K.lookup PT = none)
    (th200 : PySem.W.codeHdIn K cdA200 PT = true)
    (k200 : PySem.W.keepIn K (.ref ff200) = true)
    (pg_0 : PySem.W.plainGet K C0 Str.empty = true)
    (hd_0 : PySem.W.hasDictIn K C0 = true)
    (po_0 : PySem.W.plainOver K C0 = true)
    (sa_0 : PySem.W.findIn K (.ref C0) "__setattr__" = some (some (.builtin "object.__setattr__")))
    (ca_0 : PySem.W.findIn K (.ref C0) "__class__" = some (some (.builtin "object.__class__")))
    (mo_0 : PySem.W.mroIn K C0 (.type "object") = some true)
    (kb_0_int : PySem.W.subIn K (.ref C0) (.type "int") = some false)
    (kb_0_bool : PySem.W.subIn K (.ref C0) (.type "bool") = some false)
    (kb_0_str : PySem.W.subIn K (.ref C0) (.type "str") = some false)
    (kb_0_tuple : PySem.W.subIn K (.ref C0) (.type "tuple") = some false)
    (kb_0_list : PySem.W.subIn K (.ref C0) (.type "list") = some false)
    (kb_0_dict : PySem.W.subIn K (.ref C0) (.type "dict") = some false)
    (pg_1 : PySem.W.plainGet K C1 Str.empty = true)
    (hd_1 : PySem.W.hasDictIn K C1 = true)
    (po_1 : PySem.W.plainOver K C1 = true)
    (sa_1 : PySem.W.findIn K (.ref C1) "__setattr__" = some (some (.builtin "object.__setattr__")))
    (ca_1 : PySem.W.findIn K (.ref C1) "__class__" = some (some (.builtin "object.__class__")))
    (mo_1 : PySem.W.mroIn K C1 (.type "object") = some true)
    (kb_1_int : PySem.W.subIn K (.ref C1) (.type "int") = some false)
    (kb_1_bool : PySem.W.subIn K (.ref C1) (.type "bool") = some false)
    (kb_1_str : PySem.W.subIn K (.ref C1) (.type "str") = some false)
    (kb_1_tuple : PySem.W.subIn K (.ref C1) (.type "tuple") = some false)
    (kb_1_list : PySem.W.subIn K (.ref C1) (.type "list") = some false)
    (kb_1_dict : PySem.W.subIn K (.ref C1) (.type "dict") = some false)
    (pg_2 : PySem.W.plainGet K C2 Str.empty = true)
    (hd_2 : PySem.W.hasDictIn K C2 = true)
    (po_2 : PySem.W.plainOver K C2 = true)
    (sa_2 : PySem.W.findIn K (.ref C2) "__setattr__" = some (some (.builtin "object.__setattr__")))
    (ca_2 : PySem.W.findIn K (.ref C2) "__class__" = some (some (.builtin "object.__class__")))
    (mo_2 : PySem.W.mroIn K C2 (.type "object") = some true)
    (kb_2_int : PySem.W.subIn K (.ref C2) (.type "int") = some false)
    (kb_2_bool : PySem.W.subIn K (.ref C2) (.type "bool") = some false)
    (kb_2_str : PySem.W.subIn K (.ref C2) (.type "str") = some false)
    (kb_2_tuple : PySem.W.subIn K (.ref C2) (.type "tuple") = some false)
    (kb_2_list : PySem.W.subIn K (.ref C2) (.type "list") = some false)
    (kb_2_dict : PySem.W.subIn K (.ref C2) (.type "dict") = some false)
    (pg_3 : PySem.W.plainGet K C3 Str.empty = true)
    (hd_3 : PySem.W.hasDictIn K C3 = true)
    (po_3 : PySem.W.plainOver K C3 = true)
    (sa_3 : PySem.W.findIn K (.ref C3) "__setattr__" = some (some (.builtin "object.__setattr__")))
    (ca_3 : PySem.W.findIn K (.ref C3) "__class__" = some (some (.builtin "object.__class__")))
    (mo_3 : PySem.W.mroIn K C3 (.type "object") = some true)
    (kb_3_int : PySem.W.subIn K (.ref C3) (.type "int") = some false)
    (kb_3_bool : PySem.W.subIn K (.ref C3) (.type "bool") = some false)
    (kb_3_str : PySem.W.subIn K (.ref C3) (.type "str") = some false)
    (kb_3_tuple : PySem.W.subIn K (.ref C3) (.type "tuple") = some false)
    (kb_3_list : PySem.W.subIn K (.ref C3) (.type "list") = some false)
    (kb_3_dict : PySem.W.subIn K (.ref C3) (.type "dict") = some false)
    (pg_4 : PySem.W.plainGet K C4 Str.empty = true)
    (hd_4 : PySem.W.hasDictIn K C4 = true)
    (po_4 : PySem.W.plainOver K C4 = true)
    (sa_4 : PySem.W.findIn K (.ref C4) "__setattr__" = some (some (.builtin "object.__setattr__")))
    (ca_4 : PySem.W.findIn K (.ref C4) "__class__" = some (some (.builtin "object.__class__")))
    (mo_4 : PySem.W.mroIn K C4 (.type "object") = some true)
    (kb_4_int : PySem.W.subIn K (.ref C4) (.type "int") = some false)
    (kb_4_bool : PySem.W.subIn K (.ref C4) (.type "bool") = some false)
    (kb_4_str : PySem.W.subIn K (.ref C4) (.type "str") = some false)
    (kb_4_tuple : PySem.W.subIn K (.ref C4) (.type "tuple") = some false)
    (kb_4_list : PySem.W.subIn K (.ref C4) (.type "list") = some false)
    (kb_4_dict : PySem.W.subIn K (.ref C4) (.type "dict") = some false)
    (sb_0_1 : PySem.W.subIn K (.ref C1) (.ref C0) = some true)
    (sb_0_2 : PySem.W.subIn K (.ref C2) (.ref C0) = some true)
    (sb_0_3 : PySem.W.subIn K (.ref C3) (.ref C0) = some true)
    (sb_0_4 : PySem.W.subIn K (.ref C4) (.ref C0) = some true)
    (sb_1_0 : PySem.W.subIn K (.ref C0) (.ref C1) = some false)
    (sb_1_2 : PySem.W.subIn K (.ref C2) (.ref C1) = some false)
    (sb_1_3 : PySem.W.subIn K (.ref C3) (.ref C1) = some false)
    (sb_1_4 : PySem.W.subIn K (.ref C4) (.ref C1) = some false)
    (sb_2_0 : PySem.W.subIn K (.ref C0) (.ref C2) = some false)
    (sb_2_1 : PySem.W.subIn K (.ref C1) (.ref C2) = some false)
    (sb_2_3 : PySem.W.subIn K (.ref C3) (.ref C2) = some false)
    (sb_2_4 : PySem.W.subIn K (.ref C4) (.ref C2) = some false)
    (sb_3_0 : PySem.W.subIn K (.ref C0) (.ref C3) = some false)
    (sb_3_1 : PySem.W.subIn K (.ref C1) (.ref C3) = some false)
    (sb_3_2 : PySem.W.subIn K (.ref C2) (.ref C3) = some false)
    (sb_3_4 : PySem.W.subIn K (.ref C4) (.ref C3) = some false)
    (sb_4_0 : PySem.W.subIn K (.ref C0) (.ref C4) = some false)
    (sb_4_1 : PySem.W.subIn K (.ref C1) (.ref C4) = some false)
    (sb_4_2 : PySem.W.subIn K (.ref C2) (.ref C4) = some false)
    (sb_4_3 : PySem.W.subIn K (.ref C3) (.ref C4) = some false)
    (ne_0 : PySem.W.findIn K (.ref C0) "__ne__" = some (some (.builtin "object.__ne__")))
    (st_0 : PySem.W.subIn K (.type "str") (.ref C0) = some false)
    (ne_1 : PySem.W.findIn K (.ref C1) "__ne__" = some (some (.builtin "object.__ne__")))
    (st_1 : PySem.W.subIn K (.type "str") (.ref C1) = some false)
    (ne_2 : PySem.W.findIn K (.ref C2) "__ne__" = some (some (.builtin "object.__ne__")))
    (st_2 : PySem.W.subIn K (.type "str") (.ref C2) = some false)
    (ne_3 : PySem.W.findIn K (.ref C3) "__ne__" = some (some (.builtin "object.__ne__")))
    (st_3 : PySem.W.subIn K (.type "str") (.ref C3) = some false)
    (ne_4 : PySem.W.findIn K (.ref C4) "__ne__" = some (some (.builtin "object.__ne__")))
    (st_4 : PySem.W.subIn K (.type "str") (.ref C4) = some false)
    (hn_ : PySem.W.specialIn K (.builtin "object.__class__") "__get__" = some (some (.builtin "getset_descriptor.__get__")))
    (ht_ : PySem.W.takesIn K (.builtin "object.__class__") = some true)
    (nf_0_0 : PySem.W.findIn K (.ref C0) "rule" = some none)
    (nf_1_0 : PySem.W.findIn K (.ref C1) "rule" = some none)
    (nf_2_0 : PySem.W.findIn K (.ref C2) "rule" = some none)
    (nf_3_0 : PySem.W.findIn K (.ref C3) "rule" = some none)
    (nf_4_0 : PySem.W.findIn K (.ref C4) "rule" = some none)
    (nf_4_1 : PySem.W.findIn K (.ref C4) "goal" = some none)
    (nf_0_2 : PySem.W.findIn K (.ref C0) "cells" = some none)
    (nf_0_3 : PySem.W.findIn K (.ref C0) "states" = some none)
    (nf_0_4 : PySem.W.findIn K (.ref C0) "outs" = some none)
    (nf_0_5 : PySem.W.findIn K (.ref C0) "start" = some none)
    (nf_0_6 : PySem.W.findIn K (.ref C0) "chains" = some none)
    (nf_0_7 : PySem.W.findIn K (.ref C0) "now" = some none)
    (nf_0_8 : PySem.W.findIn K (.ref C0) "facts" = some none)
    (nf_0_9 : PySem.W.findIn K (.ref C0) "past" = some none)
    (nf_0_10 : PySem.W.findIn K (.ref C0) "undone" = some none)
    (nf_0_11 : PySem.W.findIn K (.ref C0) "saved" = some none)
    (kc_0 : PySem.W.findIn K (.ref C0) "KIND" = some (some (.str "first" t0)))
    (kg_0 : PySem.W.specialIn K (.str "first" t0) "__get__" = some none)
    (kc_1 : PySem.W.findIn K (.ref C1) "KIND" = some (some (.str "last" t1)))
    (kg_1 : PySem.W.specialIn K (.str "last" t1) "__get__" = some none)
    (kc_2 : PySem.W.findIn K (.ref C2) "KIND" = some (some (.str "less" t2)))
    (kg_2 : PySem.W.specialIn K (.str "less" t2) "__get__" = some none)
    (kc_3 : PySem.W.findIn K (.ref C3) "KIND" = some (some (.str "greater" t3)))
    (kg_3 : PySem.W.specialIn K (.str "greater" t3) "__get__" = some none)
    (kc_4 : PySem.W.findIn K (.ref C4) "KIND" = some (some (.str "near" t4)))
    (kg_4 : PySem.W.specialIn K (.str "near" t4) "__get__" = some none)
    (mk_0 : PySem.W.makesIn K C0 = true)
    (in_0 : PySem.W.findIn K (.ref C0) "__init__" = some (some (.ref ff3)))
    (if_3 : PySem.W.isFn K (.ref ff3) = true)
    (kp_0 : PySem.W.keepIn K (.ref C0) = true)
    (mk_1 : PySem.W.makesIn K C1 = true)
    (in_1 : PySem.W.findIn K (.ref C1) "__init__" = some (some (.ref ff3)))
    (kp_1 : PySem.W.keepIn K (.ref C1) = true)
    (mk_2 : PySem.W.makesIn K C2 = true)
    (in_2 : PySem.W.findIn K (.ref C2) "__init__" = some (some (.ref ff3)))
    (kp_2 : PySem.W.keepIn K (.ref C2) = true)
    (mk_3 : PySem.W.makesIn K C3 = true)
    (in_3 : PySem.W.findIn K (.ref C3) "__init__" = some (some (.ref ff3)))
    (kp_3 : PySem.W.keepIn K (.ref C3) = true)
    (mk_4 : PySem.W.makesIn K C4 = true)
    (in_4 : PySem.W.findIn K (.ref C4) "__init__" = some (some (.ref ff14)))
    (if_14 : PySem.W.isFn K (.ref ff14) = true)
    (kp_4 : PySem.W.keepIn K (.ref C4) = true)
    (m_0_0 : PySem.W.findIn K (.ref C0) "__call__" = some (some (.ref ff4)))
    (if_4 : PySem.W.isFn K (.ref ff4) = true)
    (fi_4 : PySem.W.fnIn K ff4 = true)
    (m_0_1 : PySem.W.findIn K (.ref C0) "__eq__" = some (some (.ref ff5)))
    (if_5 : PySem.W.isFn K (.ref ff5) = true)
    (fi_5 : PySem.W.fnIn K ff5 = true)
    (sf_0 : PySem.W.selfFirst K C0 = true)
    (m_0_2 : PySem.W.findIn K (.ref C0) "__neg__" = some (some (.ref ff6)))
    (if_6 : PySem.W.isFn K (.ref ff6) = true)
    (fi_6 : PySem.W.fnIn K ff6 = true)
    (m_0_10 : PySem.W.findIn K (.ref C0) "label" = some (some (.ref p7)))
    (m_1_0 : PySem.W.findIn K (.ref C1) "__call__" = some (some (.ref ff8)))
    (if_8 : PySem.W.isFn K (.ref ff8) = true)
    (fi_8 : PySem.W.fnIn K ff8 = true)
    (m_1_1 : PySem.W.findIn K (.ref C1) "__eq__" = some (some (.ref ff5)))
    (sf_1 : PySem.W.selfFirst K C1 = true)
    (m_1_2 : PySem.W.findIn K (.ref C1) "__neg__" = some (some (.ref ff9)))
    (if_9 : PySem.W.isFn K (.ref ff9) = true)
    (fi_9 : PySem.W.fnIn K ff9 = true)
    (m_1_10 : PySem.W.findIn K (.ref C1) "label" = some (some (.ref p7)))
    (m_2_0 : PySem.W.findIn K (.ref C2) "__call__" = some (some (.ref ff10)))
    (if_10 : PySem.W.isFn K (.ref ff10) = true)
    (fi_10 : PySem.W.fnIn K ff10 = true)
    (m_2_1 : PySem.W.findIn K (.ref C2) "__eq__" = some (some (.ref ff5)))
    (sf_2 : PySem.W.selfFirst K C2 = true)
    (m_2_2 : PySem.W.findIn K (.ref C2) "__neg__" = some (some (.ref ff11)))
    (if_11 : PySem.W.isFn K (.ref ff11) = true)
    (fi_11 : PySem.W.fnIn K ff11 = true)
    (m_2_10 : PySem.W.findIn K (.ref C2) "label" = some (some (.ref p7)))
    (m_3_0 : PySem.W.findIn K (.ref C3) "__call__" = some (some (.ref ff12)))
    (if_12 : PySem.W.isFn K (.ref ff12) = true)
    (fi_12 : PySem.W.fnIn K ff12 = true)
    (m_3_1 : PySem.W.findIn K (.ref C3) "__eq__" = some (some (.ref ff5)))
    (sf_3 : PySem.W.selfFirst K C3 = true)
    (m_3_2 : PySem.W.findIn K (.ref C3) "__neg__" = some (some (.ref ff13)))
    (if_13 : PySem.W.isFn K (.ref ff13) = true)
    (fi_13 : PySem.W.fnIn K ff13 = true)
    (m_3_10 : PySem.W.findIn K (.ref C3) "label" = some (some (.ref p7)))
    (m_4_0 : PySem.W.findIn K (.ref C4) "__call__" = some (some (.ref ff15)))
    (if_15 : PySem.W.isFn K (.ref ff15) = true)
    (fi_15 : PySem.W.fnIn K ff15 = true)
    (m_4_1 : PySem.W.findIn K (.ref C4) "__eq__" = some (some (.ref ff5)))
    (sf_4 : PySem.W.selfFirst K C4 = true)
    (m_4_2 : PySem.W.findIn K (.ref C4) "__neg__" = some (some (.ref ff16)))
    (if_16 : PySem.W.isFn K (.ref ff16) = true)
    (fi_16 : PySem.W.fnIn K ff16 = true)
    (nx14 : PySem.W.ks_superIn K C4 C4 "__init__" = some (some (.ref ff3)))
    (m_4_10 : PySem.W.findIn K (.ref C4) "label" = some (some (.ref p7)))
    (ty_0 : PySem.W.typeIn K (.ref C0) = some (.type "type"))
    (kt_0_NoneType : PySem.W.subIn K (.type "NoneType") (.ref C0) = some false)
    (kt_0_int : PySem.W.subIn K (.type "int") (.ref C0) = some false)
    (kt_0_bool : PySem.W.subIn K (.type "bool") (.ref C0) = some false)
    (kt_0_str : PySem.W.subIn K (.type "str") (.ref C0) = some false)
    (kt_0_tuple : PySem.W.subIn K (.type "tuple") (.ref C0) = some false)
    (kt_0_list : PySem.W.subIn K (.type "list") (.ref C0) = some false)
    (kt_0_dict : PySem.W.subIn K (.type "dict") (.ref C0) = some false)
    (ko_0_0 : PySem.W.subIn K (.ref C0) (.ref C0) = some true)
    (ko_0_1 : PySem.W.subIn K (.ref C1) (.ref C0) = some true)
    (ko_0_2 : PySem.W.subIn K (.ref C2) (.ref C0) = some true)
    (ko_0_3 : PySem.W.subIn K (.ref C3) (.ref C0) = some true)
    (ko_0_4 : PySem.W.subIn K (.ref C4) (.ref C0) = some true)
    (i_GREAT : PySem.W.nsIn K mainGlobals "GREAT" = some (some (.int 1000000000 tiGREAT)))
    (b_len : PySem.W.nsIn K mainGlobals "len" = some none)
    (b_abs : PySem.W.nsIn K mainGlobals "abs" = some none)
    (b_min : PySem.W.nsIn K mainGlobals "min" = some none)
    (b_max : PySem.W.nsIn K mainGlobals "max" = some none)
    (b_sorted : PySem.W.nsIn K mainGlobals "sorted" = some none)
    (b_int : PySem.W.nsIn K mainGlobals "int" = some none)
    (b_str : PySem.W.nsIn K mainGlobals "str" = some none)
    (b_list : PySem.W.nsIn K mainGlobals "list" = some none)
    (b_tuple : PySem.W.nsIn K mainGlobals "tuple" = some none)
    (b_dict : PySem.W.nsIn K mainGlobals "dict" = some none)
    (b_sum : PySem.W.nsIn K mainGlobals "sum" = some none)
    (b_all : PySem.W.nsIn K mainGlobals "all" = some none)
    (b_isinstance : PySem.W.nsIn K mainGlobals "isinstance" = some none)
    (b_enumerate : PySem.W.nsIn K mainGlobals "enumerate" = some none)
    (b_range : PySem.W.nsIn K mainGlobals "range" = some none)
    (b_zip : PySem.W.nsIn K mainGlobals "zip" = some none)
    (b_set : PySem.W.nsIn K mainGlobals "set" = some none)
    (b_bool : PySem.W.nsIn K mainGlobals "bool" = some none)
    (b_super : PySem.W.nsIn K mainGlobals "super" = some none)
    (own : LamX.OwnTab K fa h)
    (hrun : ∀ ns : List Int, ns.length ≤ 63 → ∃ m, runF (wAt lP (callF lP 30).1 (callF lP 30).2) F200 [.scr ns] [] = .ok (.bl true, m)) :
    ∃ (cs : List (Addr × Addr)) (tabs : List (Addr × Str)) (fd : FuncData), (∀ p ∈ cs, h.get? p.2 = some { cls := .none, data := .fields #[] }) ∧ (∀ p ∈ cs, K.lookup p.2 = none) ∧ (∀ p ∈ cs, PySem.W.CodeHd h p.1 p.2) ∧ (∀ t ∈ tabs, ∃ p ∈ cs, p.2 = t.1) ∧
      (∀ (s : Shared) (u : Value), BindsTo s fd ⟨[u], []⟩ [("_law_script", u)]) ∧ ∀ base : Heap, K.In base → base.Ns mainGlobals mg → (∀ p ∈ cs, LamX.TabB base mg p.1 p.2) → FnOk l.prog w K mg base (L2.CX l.prog w) (3 * 30 + 3) fa fd ["_law_script"] (spLaw K tabs) := by
  have e := hfa.symm.trans (PySem.W.mg_of X G a200)
  cases e
  let aC : Nat → Addr := fun c => match c with | 0 => C0 | 1 => C1 | 2 => C2 | 3 => C3 | 4 => C4 | 5 => C0 | 6 => C0 | 7 => C0 | 8 => C0  | 20 => C20 | 21 => C21 | 22 => C22 | 23 => C23 | 24 => C24 | 25 => C25 | 26 => C26 | 27 => C27 | 28 => C28 | 29 => C29 | 30 => C30 | _ => C0
  let aF : Nat → Addr := fun i => match i with | 0 => ff0 | 1 => ff1 | 3 => ff3 | 4 => ff4 | 5 => ff5 | 6 => ff6 | 7 => ff7 | 8 => ff8 | 9 => ff9 | 10 => ff10 | 11 => ff11 | 12 => ff12 | 13 => ff13 | 14 => ff14 | 15 => ff15 | 16 => ff16 | 100 => ff100 | 101 => ff101 | 103 => ff103 | 108 => ff108 | 105 => ff105 | _ => 0
  let g : Cfg := { P := l.prog, w := w, K := K, aC := aC, aF := aF, xp := true, asks := lAsk, cnI := lCI, cnS := lCS, fns := lFns, clss := lCls, cms := lCM, exs := lExs, exi := lExi, tabs := [(PT, ("law.<locals>." : Str) ++ "<lambda>")] }
  have D : Gt g lFns lCls lAsk lCI lCS lCM lExs lExi := ⟨rfl, rfl, rfl, rfl, rfl, rfl, rfl, rfl⟩
  have cl0 : Cls K C0 := ⟨pg_0, hd_0, po_0, sa_0⟩
  have is0 : InsT K C0 := ⟨ca_0, hn_, ht_, mo_0, fun t ht => by cases t <;> first | exact kit_cb kb_0_int (by decide +kernel) | exact kit_cb kb_0_bool (by decide +kernel) | exact kit_cb kb_0_str (by decide +kernel) | exact kit_cb kb_0_tuple (by decide +kernel) | exact kit_cb kb_0_list (by decide +kernel) | exact kit_cb kb_0_dict (by decide +kernel) | exact absurd rfl (ht _)⟩
  have cl1 : Cls K C1 := ⟨pg_1, hd_1, po_1, sa_1⟩
  have is1 : InsT K C1 := ⟨ca_1, hn_, ht_, mo_1, fun t ht => by cases t <;> first | exact kit_cb kb_1_int (by decide +kernel) | exact kit_cb kb_1_bool (by decide +kernel) | exact kit_cb kb_1_str (by decide +kernel) | exact kit_cb kb_1_tuple (by decide +kernel) | exact kit_cb kb_1_list (by decide +kernel) | exact kit_cb kb_1_dict (by decide +kernel) | exact absurd rfl (ht _)⟩
  have cl2 : Cls K C2 := ⟨pg_2, hd_2, po_2, sa_2⟩
  have is2 : InsT K C2 := ⟨ca_2, hn_, ht_, mo_2, fun t ht => by cases t <;> first | exact kit_cb kb_2_int (by decide +kernel) | exact kit_cb kb_2_bool (by decide +kernel) | exact kit_cb kb_2_str (by decide +kernel) | exact kit_cb kb_2_tuple (by decide +kernel) | exact kit_cb kb_2_list (by decide +kernel) | exact kit_cb kb_2_dict (by decide +kernel) | exact absurd rfl (ht _)⟩
  have cl3 : Cls K C3 := ⟨pg_3, hd_3, po_3, sa_3⟩
  have is3 : InsT K C3 := ⟨ca_3, hn_, ht_, mo_3, fun t ht => by cases t <;> first | exact kit_cb kb_3_int (by decide +kernel) | exact kit_cb kb_3_bool (by decide +kernel) | exact kit_cb kb_3_str (by decide +kernel) | exact kit_cb kb_3_tuple (by decide +kernel) | exact kit_cb kb_3_list (by decide +kernel) | exact kit_cb kb_3_dict (by decide +kernel) | exact absurd rfl (ht _)⟩
  have cl4 : Cls K C4 := ⟨pg_4, hd_4, po_4, sa_4⟩
  have is4 : InsT K C4 := ⟨ca_4, hn_, ht_, mo_4, fun t ht => by cases t <;> first | exact kit_cb kb_4_int (by decide +kernel) | exact kit_cb kb_4_bool (by decide +kernel) | exact kit_cb kb_4_str (by decide +kernel) | exact kit_cb kb_4_tuple (by decide +kernel) | exact kit_cb kb_4_list (by decide +kernel) | exact kit_cb kb_4_dict (by decide +kernel) | exact absurd rfl (ht _)⟩
  have tx : Tx K mg g lP.meth lP.init lP.kcon := by
    refine ⟨?_, ?_, ?_, ?_, ?_, ?_, ?_, ?_, ?_, ?_, ?_, ?_, ?_, ?_, ?_, ?_, ?_, ?_⟩
    · intro c hc
      match c, hc with
      | 0, _ => exact cl0
      | 1, _ => exact cl1
      | 2, _ => exact cl2
      | 3, _ => exact cl3
      | 4, _ => exact cl4
      | 5, _ => exact cl0
      | 6, _ => exact cl0
      | 7, _ => exact cl0
      | 8, _ => exact cl0
    · intro c f hf
      unfold hasF at hf
      split at hf <;> simp only [Bool.or_eq_true, beq_iff_eq, Bool.false_eq_true, or_assoc] at hf
      · subst hf; exact nf_0_0
      · subst hf; exact nf_1_0
      · subst hf; exact nf_2_0
      · subst hf; exact nf_3_0
      · rcases hf with rfl | rfl
        · exact nf_4_0
        · exact nf_4_1
      · subst hf; exact nf_0_2
      · rcases hf with rfl | rfl | rfl
        · exact nf_0_3
        · exact nf_0_4
        · exact nf_0_5
      · rcases hf with rfl | rfl | rfl
        · exact nf_0_6
        · exact nf_0_7
        · exact nf_0_8
      · rcases hf with rfl | rfl | rfl | rfl
        · exact nf_0_7
        · exact nf_0_9
        · exact nf_0_10
        · exact nf_0_11
    · intro c j d hd
      have hd : lKcon c j = some d := hd
      unfold lKcon at hd
      split at hd <;> cases hd
      · exact ⟨by decide, rfl, _, _, rfl, ⟨kc_0, ⟨_, rfl⟩, kg_0, by decide +kernel⟩⟩
      · exact ⟨by decide, rfl, _, _, rfl, ⟨kc_1, ⟨_, rfl⟩, kg_1, by decide +kernel⟩⟩
      · exact ⟨by decide, rfl, _, _, rfl, ⟨kc_2, ⟨_, rfl⟩, kg_2, by decide +kernel⟩⟩
      · exact ⟨by decide, rfl, _, _, rfl, ⟨kc_3, ⟨_, rfl⟩, kg_3, by decide +kernel⟩⟩
      · exact ⟨by decide, rfl, _, _, rfl, ⟨kc_4, ⟨_, rfl⟩, kg_4, by decide +kernel⟩⟩
    · intro x i hi
      have hi : (x, i) ∈ lFns := hi
      simp only [lFns, List.mem_cons, Prod.mk.injEq, List.not_mem_nil, or_false] at hi
      rcases hi with ⟨rfl, rfl⟩ | ⟨rfl, rfl⟩ | ⟨rfl, rfl⟩ | ⟨rfl, rfl⟩ | ⟨rfl, rfl⟩ | ⟨rfl, rfl⟩ | ⟨rfl, rfl⟩
      · exact ⟨PySem.W.mg_of X G a0, k0⟩
      · exact ⟨PySem.W.mg_of X G a1, k1⟩
      · exact ⟨PySem.W.mg_of X G a100, k100⟩
      · exact ⟨PySem.W.mg_of X G a101, k101⟩
      · exact ⟨PySem.W.mg_of X G a103, k103⟩
      · exact ⟨PySem.W.mg_of X G a108, k108⟩
      · exact ⟨PySem.W.mg_of X G a105, k105⟩
    · intro x c hc
      have hc : (x, c) ∈ lCls := hc
      simp only [lCls, List.mem_cons, Prod.mk.injEq, List.not_mem_nil, or_false] at hc
      rcases hc with ⟨rfl, rfl⟩ | ⟨rfl, rfl⟩ | ⟨rfl, rfl⟩ | ⟨rfl, rfl⟩ | ⟨rfl, rfl⟩
      · exact ⟨rfl, PySem.W.mg_of X G hC0, kp_0, ⟨mk_0, in_0, if_3, kp_0⟩⟩
      · exact ⟨rfl, PySem.W.mg_of X G hC1, kp_1, ⟨mk_1, in_1, if_3, kp_1⟩⟩
      · exact ⟨rfl, PySem.W.mg_of X G hC2, kp_2, ⟨mk_2, in_2, if_3, kp_2⟩⟩
      · exact ⟨rfl, PySem.W.mg_of X G hC3, kp_3, ⟨mk_3, in_3, if_3, kp_3⟩⟩
      · exact ⟨rfl, PySem.W.mg_of X G hC4, kp_4, ⟨mk_4, in_4, if_14, kp_4⟩⟩
    · intro c m i h
      have h : lMeth c m = some i := h
      unfold lMeth at h
      split at h <;> cases h
      · exact ⟨by decide, (fun z => absurd z (by decide)), (fun z => absurd z (by decide)), (fun _ => ⟨m_0_0, if_4, fi_4⟩), (fun z => absurd z (by decide))⟩
      · exact ⟨by decide, (fun z => absurd z (by decide)), (fun z => absurd z (by decide)), (fun z => absurd z (by decide)), (fun _ _ => ⟨m_0_1, if_5, fi_5, sf_0⟩)⟩
      · exact ⟨by decide, (fun z => absurd z (by decide)), (fun z => absurd z (by decide)), (fun z => absurd z (by decide)), (fun _ _ => ⟨m_0_2, if_6, fi_6, sf_0⟩)⟩
      · exact ⟨by decide, (fun z => absurd z (by decide)), (fun _ _ => ⟨_, m_0_10, pg7, pt7, _, r7⟩), (fun z => absurd z (by decide)), (fun _ z => absurd z (by decide))⟩
      · exact ⟨by decide, (fun z => absurd z (by decide)), (fun z => absurd z (by decide)), (fun _ => ⟨m_1_0, if_8, fi_8⟩), (fun z => absurd z (by decide))⟩
      · exact ⟨by decide, (fun z => absurd z (by decide)), (fun z => absurd z (by decide)), (fun z => absurd z (by decide)), (fun _ _ => ⟨m_1_1, if_5, fi_5, sf_1⟩)⟩
      · exact ⟨by decide, (fun z => absurd z (by decide)), (fun z => absurd z (by decide)), (fun z => absurd z (by decide)), (fun _ _ => ⟨m_1_2, if_9, fi_9, sf_1⟩)⟩
      · exact ⟨by decide, (fun z => absurd z (by decide)), (fun _ _ => ⟨_, m_1_10, pg7, pt7, _, r7⟩), (fun z => absurd z (by decide)), (fun _ z => absurd z (by decide))⟩
      · exact ⟨by decide, (fun z => absurd z (by decide)), (fun z => absurd z (by decide)), (fun _ => ⟨m_2_0, if_10, fi_10⟩), (fun z => absurd z (by decide))⟩
      · exact ⟨by decide, (fun z => absurd z (by decide)), (fun z => absurd z (by decide)), (fun z => absurd z (by decide)), (fun _ _ => ⟨m_2_1, if_5, fi_5, sf_2⟩)⟩
      · exact ⟨by decide, (fun z => absurd z (by decide)), (fun z => absurd z (by decide)), (fun z => absurd z (by decide)), (fun _ _ => ⟨m_2_2, if_11, fi_11, sf_2⟩)⟩
      · exact ⟨by decide, (fun z => absurd z (by decide)), (fun _ _ => ⟨_, m_2_10, pg7, pt7, _, r7⟩), (fun z => absurd z (by decide)), (fun _ z => absurd z (by decide))⟩
      · exact ⟨by decide, (fun z => absurd z (by decide)), (fun z => absurd z (by decide)), (fun _ => ⟨m_3_0, if_12, fi_12⟩), (fun z => absurd z (by decide))⟩
      · exact ⟨by decide, (fun z => absurd z (by decide)), (fun z => absurd z (by decide)), (fun z => absurd z (by decide)), (fun _ _ => ⟨m_3_1, if_5, fi_5, sf_3⟩)⟩
      · exact ⟨by decide, (fun z => absurd z (by decide)), (fun z => absurd z (by decide)), (fun z => absurd z (by decide)), (fun _ _ => ⟨m_3_2, if_13, fi_13, sf_3⟩)⟩
      · exact ⟨by decide, (fun z => absurd z (by decide)), (fun _ _ => ⟨_, m_3_10, pg7, pt7, _, r7⟩), (fun z => absurd z (by decide)), (fun _ z => absurd z (by decide))⟩
      · exact ⟨by decide, (fun z => absurd z (by decide)), (fun z => absurd z (by decide)), (fun _ => ⟨m_4_0, if_15, fi_15⟩), (fun z => absurd z (by decide))⟩
      · exact ⟨by decide, (fun z => absurd z (by decide)), (fun z => absurd z (by decide)), (fun z => absurd z (by decide)), (fun _ _ => ⟨m_4_1, if_5, fi_5, sf_4⟩)⟩
      · exact ⟨by decide, (fun z => absurd z (by decide)), (fun z => absurd z (by decide)), (fun z => absurd z (by decide)), (fun _ _ => ⟨m_4_2, if_16, fi_16, sf_4⟩)⟩
      · exact ⟨by decide, (fun z => absurd z (by decide)), (fun z => absurd z (by decide)), (fun z => absurd z (by decide)), (fun _ z => absurd z (by decide))⟩
      · exact ⟨by decide, (fun z => absurd z (by decide)), (fun _ _ => ⟨_, m_4_10, pg7, pt7, _, r7⟩), (fun z => absurd z (by decide)), (fun _ z => absurd z (by decide))⟩
    · intro c hc
      match c, hc with
      | 0, _ => exact is0
      | 1, _ => exact is1
      | 2, _ => exact is2
      | 3, _ => exact is3
      | 4, _ => exact is4
      | 5, _ => exact is0
      | 6, _ => exact is0
      | 7, _ => exact is0
      | 8, _ => exact is0
    · intro t ht
      have ht : t ∈ lAsk := ht
      simp only [lAsk, List.mem_cons, List.not_mem_nil, or_false] at ht
      rcases ht with rfl
      · refine ⟨fun x hx => ?_, fun a ha => ?_, fun c hc hh => ?_⟩
        · have := tcl0 hx
          subst this
          exact PySem.W.mg_of X G hC0
        · rcases a with _ | a
          · exact kit_bc hd_0 ty_0 kt_0_NoneType
          · cases a <;> first | exact kit_bc hd_0 ty_0 kt_0_int | exact kit_bc hd_0 ty_0 kt_0_bool | exact kit_bc hd_0 ty_0 kt_0_str | exact kit_bc hd_0 ty_0 kt_0_tuple | exact kit_bc hd_0 ty_0 kt_0_list | exact kit_bc hd_0 ty_0 kt_0_dict | exact absurd rfl (ha _)
        · match c, hc with
          | 0, _ => exact kit_cc hd_0 ty_0 ko_0_0 ko_0_0
          | 1, _ => exact kit_cc hd_0 ty_0 ko_0_0 ko_0_1
          | 2, _ => exact kit_cc hd_0 ty_0 ko_0_0 ko_0_2
          | 3, _ => exact kit_cc hd_0 ty_0 ko_0_0 ko_0_3
          | 4, _ => exact kit_cc hd_0 ty_0 ko_0_0 ko_0_4
          | 5, _ => exact absurd hh (by decide)
          | 6, _ => exact absurd hh (by decide)
          | 7, _ => exact absurd hh (by decide)
          | 8, _ => exact absurd hh (by decide)
    · intro x n h
      have h : (x, n) ∈ lCI := h
      simp only [lCI, List.mem_cons, Prod.mk.injEq, List.not_mem_nil, or_false] at h
      rcases h with ⟨rfl, rfl⟩
      · exact ⟨_, PySem.W.mg_of X G i_GREAT⟩
    · intro x n h
      have h : (x, n) ∈ lCS := h
      simp [lCS] at h
    · intro h
      have h : (("Chain" : Str), 5) ∈ lCls := h
      exact absurd h (by decide +kernel)
    · intro x hx
      unfold bltNames at hx
      simp only [List.contains_cons, List.contains_nil, Bool.or_eq_true, beq_iff_eq, Bool.false_eq_true, or_false] at hx
      rcases hx with rfl | rfl | rfl | rfl | rfl | rfl | rfl | rfl | rfl | rfl | rfl | rfl | rfl | rfl | rfl | rfl | rfl | rfl | rfl
      · exact PySem.W.mg_none_of X G b_len
      · exact PySem.W.mg_none_of X G b_abs
      · exact PySem.W.mg_none_of X G b_min
      · exact PySem.W.mg_none_of X G b_max
      · exact PySem.W.mg_none_of X G b_sorted
      · exact PySem.W.mg_none_of X G b_int
      · exact PySem.W.mg_none_of X G b_str
      · exact PySem.W.mg_none_of X G b_list
      · exact PySem.W.mg_none_of X G b_tuple
      · exact PySem.W.mg_none_of X G b_dict
      · exact PySem.W.mg_none_of X G b_sum
      · exact PySem.W.mg_none_of X G b_all
      · exact PySem.W.mg_none_of X G b_isinstance
      · exact PySem.W.mg_none_of X G b_enumerate
      · exact PySem.W.mg_none_of X G b_range
      · exact PySem.W.mg_none_of X G b_zip
      · exact PySem.W.mg_none_of X G b_set
      · exact PySem.W.mg_none_of X G b_bool
      · exact PySem.W.mg_none_of X G b_super
    · intro cl i h
      have h : (cl, i) ∈ lCM := h
      simp [lCM] at h
    · intro _ c e hc he hne
      match c, hc, e, he with
      | 0, _, 0, _ => exact absurd rfl hne
      | 0, _, 1, _ => exact sb_0_1
      | 0, _, 2, _ => exact sb_0_2
      | 0, _, 3, _ => exact sb_0_3
      | 0, _, 4, _ => exact sb_0_4
      | 1, _, 0, _ => exact sb_1_0
      | 1, _, 1, _ => exact absurd rfl hne
      | 1, _, 2, _ => exact sb_1_2
      | 1, _, 3, _ => exact sb_1_3
      | 1, _, 4, _ => exact sb_1_4
      | 2, _, 0, _ => exact sb_2_0
      | 2, _, 1, _ => exact sb_2_1
      | 2, _, 2, _ => exact absurd rfl hne
      | 2, _, 3, _ => exact sb_2_3
      | 2, _, 4, _ => exact sb_2_4
      | 3, _, 0, _ => exact sb_3_0
      | 3, _, 1, _ => exact sb_3_1
      | 3, _, 2, _ => exact sb_3_2
      | 3, _, 3, _ => exact absurd rfl hne
      | 3, _, 4, _ => exact sb_3_4
      | 4, _, 0, _ => exact sb_4_0
      | 4, _, 1, _ => exact sb_4_1
      | 4, _, 2, _ => exact sb_4_2
      | 4, _, 3, _ => exact sb_4_3
      | 4, _, 4, _ => exact absurd rfl hne
    · intro c i h
      have h : lMeth c 1 = some i := h
      unfold lMeth at h
      split at h <;> first | exact ne_0 | exact ne_1 | exact ne_2 | exact ne_3 | exact ne_4 | (exfalso; omega) | contradiction | cases h
    · intro c i h
      have h : lMeth c 1 = some i := h
      unfold lMeth at h
      split at h <;> first | exact st_0 | exact st_1 | exact st_2 | exact st_3 | exact st_4 | (exfalso; omega) | contradiction | cases h
    · intro x c h
      have h : (x, c) ∈ lExs := h
      simp only [lExs, List.mem_cons, Prod.mk.injEq, List.not_mem_nil, or_false] at h
      rcases h with ⟨rfl, rfl⟩
      · exact ⟨xq_21, PySem.W.mg_of X G hC21, xk_21, xb_21, xt_21⟩
    · intro x c h
      have h : (x, c) ∈ lExi := h
      simp [lExi] at h
  have eK : ErrK K mg g C20 := by
    refine ⟨?_, ?_, ?_, ?_, PySem.W.mg_none_of X G b_ValueError, PySem.W.mg_of X G hC20, ?_⟩
    · intro c hc
      rcases rE_cases hc with rfl | rfl | rfl | rfl | rfl | rfl
      · exact ⟨xg_21, xh_21, xb_21, xd_21, xa_21, hn_, ht_, xm_21⟩
      · exact ⟨xg_23, xh_23, xb_23, xd_23, xa_23, hn_, ht_, xm_23⟩
      · exact ⟨xg_26, xh_26, xb_26, xd_26, xa_26, hn_, ht_, xm_26⟩
      · exact ⟨xg_27, xh_27, xb_27, xd_27, xa_27, hn_, ht_, xm_27⟩
      · exact ⟨xg_28, xh_28, xb_28, xd_28, xa_28, hn_, ht_, xm_28⟩
      · exact ⟨xg_29, xh_29, xb_29, xd_29, xa_29, hn_, ht_, xm_29⟩
    · intro y n h
      simp only [lErr, List.mem_cons, Prod.mk.injEq, List.not_mem_nil, or_false] at h
      rcases h with ⟨rfl, rfl⟩ | ⟨rfl, rfl⟩ | ⟨rfl, rfl⟩ | ⟨rfl, rfl⟩ | ⟨rfl, rfl⟩ | ⟨rfl, rfl⟩ | ⟨rfl, rfl⟩ | ⟨rfl, rfl⟩ | ⟨rfl, rfl⟩ | ⟨rfl, rfl⟩
      · exact PySem.W.mg_of X G hC21
      · exact PySem.W.mg_of X G hC22
      · exact PySem.W.mg_of X G hC23
      · exact PySem.W.mg_of X G hC24
      · exact PySem.W.mg_of X G hC25
      · exact PySem.W.mg_of X G hC26
      · exact PySem.W.mg_of X G hC27
      · exact PySem.W.mg_of X G hC28
      · exact PySem.W.mg_of X G hC29
      · exact PySem.W.mg_of X G hC30
    · intro c hc y n h
      simp only [lErr, List.mem_cons, Prod.mk.injEq, List.not_mem_nil, or_false] at h
      rcases rE_cases hc with rfl | rfl | rfl | rfl | rfl | rfl
      · skip
        rcases h with ⟨rfl, rfl⟩ | ⟨rfl, rfl⟩ | ⟨rfl, rfl⟩ | ⟨rfl, rfl⟩ | ⟨rfl, rfl⟩ | ⟨rfl, rfl⟩ | ⟨rfl, rfl⟩ | ⟨rfl, rfl⟩ | ⟨rfl, rfl⟩ | ⟨rfl, rfl⟩
        · exact kit_cc xd_21 xt_21 xs_21_21 xs_21_21
        · exact kit_cc xd_22 xt_22 xs_22_22 xs_21_22
        · exact kit_cc xd_23 xt_23 xs_23_23 xs_21_23
        · exact kit_cc xd_24 xt_24 xs_24_24 xs_21_24
        · exact kit_cc xd_25 xt_25 xs_25_25 xs_21_25
        · exact kit_cc xd_26 xt_26 xs_26_26 xs_21_26
        · exact kit_cc xd_27 xt_27 xs_27_27 xs_21_27
        · exact kit_cc xd_28 xt_28 xs_28_28 xs_21_28
        · exact kit_cc xd_29 xt_29 xs_29_29 xs_21_29
        · exact kit_cc xd_30 xt_30 xs_30_30 xs_21_30
      · skip
        rcases h with ⟨rfl, rfl⟩ | ⟨rfl, rfl⟩ | ⟨rfl, rfl⟩ | ⟨rfl, rfl⟩ | ⟨rfl, rfl⟩ | ⟨rfl, rfl⟩ | ⟨rfl, rfl⟩ | ⟨rfl, rfl⟩ | ⟨rfl, rfl⟩ | ⟨rfl, rfl⟩
        · exact kit_cc xd_21 xt_21 xs_21_21 xs_23_21
        · exact kit_cc xd_22 xt_22 xs_22_22 xs_23_22
        · exact kit_cc xd_23 xt_23 xs_23_23 xs_23_23
        · exact kit_cc xd_24 xt_24 xs_24_24 xs_23_24
        · exact kit_cc xd_25 xt_25 xs_25_25 xs_23_25
        · exact kit_cc xd_26 xt_26 xs_26_26 xs_23_26
        · exact kit_cc xd_27 xt_27 xs_27_27 xs_23_27
        · exact kit_cc xd_28 xt_28 xs_28_28 xs_23_28
        · exact kit_cc xd_29 xt_29 xs_29_29 xs_23_29
        · exact kit_cc xd_30 xt_30 xs_30_30 xs_23_30
      · skip
        rcases h with ⟨rfl, rfl⟩ | ⟨rfl, rfl⟩ | ⟨rfl, rfl⟩ | ⟨rfl, rfl⟩ | ⟨rfl, rfl⟩ | ⟨rfl, rfl⟩ | ⟨rfl, rfl⟩ | ⟨rfl, rfl⟩ | ⟨rfl, rfl⟩ | ⟨rfl, rfl⟩
        · exact kit_cc xd_21 xt_21 xs_21_21 xs_26_21
        · exact kit_cc xd_22 xt_22 xs_22_22 xs_26_22
        · exact kit_cc xd_23 xt_23 xs_23_23 xs_26_23
        · exact kit_cc xd_24 xt_24 xs_24_24 xs_26_24
        · exact kit_cc xd_25 xt_25 xs_25_25 xs_26_25
        · exact kit_cc xd_26 xt_26 xs_26_26 xs_26_26
        · exact kit_cc xd_27 xt_27 xs_27_27 xs_26_27
        · exact kit_cc xd_28 xt_28 xs_28_28 xs_26_28
        · exact kit_cc xd_29 xt_29 xs_29_29 xs_26_29
        · exact kit_cc xd_30 xt_30 xs_30_30 xs_26_30
      · skip
        rcases h with ⟨rfl, rfl⟩ | ⟨rfl, rfl⟩ | ⟨rfl, rfl⟩ | ⟨rfl, rfl⟩ | ⟨rfl, rfl⟩ | ⟨rfl, rfl⟩ | ⟨rfl, rfl⟩ | ⟨rfl, rfl⟩ | ⟨rfl, rfl⟩ | ⟨rfl, rfl⟩
        · exact kit_cc xd_21 xt_21 xs_21_21 xs_27_21
        · exact kit_cc xd_22 xt_22 xs_22_22 xs_27_22
        · exact kit_cc xd_23 xt_23 xs_23_23 xs_27_23
        · exact kit_cc xd_24 xt_24 xs_24_24 xs_27_24
        · exact kit_cc xd_25 xt_25 xs_25_25 xs_27_25
        · exact kit_cc xd_26 xt_26 xs_26_26 xs_27_26
        · exact kit_cc xd_27 xt_27 xs_27_27 xs_27_27
        · exact kit_cc xd_28 xt_28 xs_28_28 xs_27_28
        · exact kit_cc xd_29 xt_29 xs_29_29 xs_27_29
        · exact kit_cc xd_30 xt_30 xs_30_30 xs_27_30
      · skip
        rcases h with ⟨rfl, rfl⟩ | ⟨rfl, rfl⟩ | ⟨rfl, rfl⟩ | ⟨rfl, rfl⟩ | ⟨rfl, rfl⟩ | ⟨rfl, rfl⟩ | ⟨rfl, rfl⟩ | ⟨rfl, rfl⟩ | ⟨rfl, rfl⟩ | ⟨rfl, rfl⟩
        · exact kit_cc xd_21 xt_21 xs_21_21 xs_28_21
        · exact kit_cc xd_22 xt_22 xs_22_22 xs_28_22
        · exact kit_cc xd_23 xt_23 xs_23_23 xs_28_23
        · exact kit_cc xd_24 xt_24 xs_24_24 xs_28_24
        · exact kit_cc xd_25 xt_25 xs_25_25 xs_28_25
        · exact kit_cc xd_26 xt_26 xs_26_26 xs_28_26
        · exact kit_cc xd_27 xt_27 xs_27_27 xs_28_27
        · exact kit_cc xd_28 xt_28 xs_28_28 xs_28_28
        · exact kit_cc xd_29 xt_29 xs_29_29 xs_28_29
        · exact kit_cc xd_30 xt_30 xs_30_30 xs_28_30
      · skip
        rcases h with ⟨rfl, rfl⟩ | ⟨rfl, rfl⟩ | ⟨rfl, rfl⟩ | ⟨rfl, rfl⟩ | ⟨rfl, rfl⟩ | ⟨rfl, rfl⟩ | ⟨rfl, rfl⟩ | ⟨rfl, rfl⟩ | ⟨rfl, rfl⟩ | ⟨rfl, rfl⟩
        · exact kit_cc xd_21 xt_21 xs_21_21 xs_29_21
        · exact kit_cc xd_22 xt_22 xs_22_22 xs_29_22
        · exact kit_cc xd_23 xt_23 xs_23_23 xs_29_23
        · exact kit_cc xd_24 xt_24 xs_24_24 xs_29_24
        · exact kit_cc xd_25 xt_25 xs_25_25 xs_29_25
        · exact kit_cc xd_26 xt_26 xs_26_26 xs_29_26
        · exact kit_cc xd_27 xt_27 xs_27_27 xs_29_27
        · exact kit_cc xd_28 xt_28 xs_28_28 xs_29_28
        · exact kit_cc xd_29 xt_29 xs_29_29 xs_29_29
        · exact kit_cc xd_30 xt_30 xs_30_30 xs_29_30
    · intro c hc
      rcases rE_cases hc with rfl | rfl | rfl | rfl | rfl | rfl
      · exact kit_cb xv_21 (by decide +kernel)
      · exact kit_cb xv_23 (by decide +kernel)
      · exact kit_cb xv_26 (by decide +kernel)
      · exact kit_cb xv_27 (by decide +kernel)
      · exact kit_cb xv_28 (by decide +kernel)
      · exact kit_cb xv_29 (by decide +kernel)
    · intro c hc
      rcases rE_cases hc with rfl | rfl | rfl | rfl | rfl | rfl
      · exact PySem.W.exm_ref xb_20 xd_20 xt_20 xs_21_20
      · exact PySem.W.exm_ref xb_20 xd_20 xt_20 xs_23_20
      · exact PySem.W.exm_ref xb_20 xd_20 xt_20 xs_26_20
      · exact PySem.W.exm_ref xb_20 xd_20 xt_20 xs_27_20
      · exact PySem.W.exm_ref xb_20 xd_20 xt_20 xs_28_20
      · exact PySem.W.exm_ref xb_20 xd_20 xt_20 xs_29_20
  have st : ∀ base, StepOk l.prog w K mg base g lP := (fun base => lStep rfl rfl rfl D tx tp14 ⟨_, fun_mk (st := s0) l0 c0 k0⟩ ⟨_, fun_mk (st := s1) l1 c1 k1⟩ ⟨_, fun_mk (st := s3) l3 c3 k3⟩ ⟨_, fun_mk (st := s4) l4 c4 k4⟩ ⟨_, fun_mk (st := s5) l5 c5 k5⟩ ⟨_, fun_mk (st := s6) l6 c6 k6⟩ ⟨_, fun_mk (st := s7) l7 c7 k7⟩ ⟨_, fun_mk (st := s8) l8 c8 k8⟩ ⟨_, fun_mk (st := s9) l9 c9 k9⟩ ⟨_, fun_mk (st := s10) l10 c10 k10⟩ ⟨_, fun_mk (st := s11) l11 c11 k11⟩ ⟨_, fun_mk (st := s12) l12 c12 k12⟩ ⟨_, fun_mk (st := s13) l13 c13 k13⟩ ⟨⟨_, _, _, _, _, _, _, _, l14⟩, c14, ⟨_, _, _, _, _, _, co14, ve14, fe14⟩, ⟨_, _, _, ce14⟩, clsIn_some hd_4, mr14, nx14, ty14, fn14, th14⟩ ⟨_, fun_mk (st := s15) l15 c15 k15⟩ ⟨_, fun_mk (st := s16) l16 c16 k16⟩ ⟨_, fun_mk (st := s100) l100 c100 k100⟩ ⟨_, fun_mk (st := s101) l101 c101 k101⟩ ⟨_, fun_mk (st := s103) l103 c103 k103⟩ ⟨_, fun_mk (st := s108) l108 c108 k108⟩ ⟨_, fun_mk (st := s105) l105 c105 k105⟩)
  obtain ⟨fd, h1, h2⟩ := law_D (p := lP) (g := g) (cs := [(cdA200, PT)]) ⟨_, fun_mk (st := s200) l200 c200 k200⟩ rfl rfl rfl tx 30 st sc200 rfl rfl rfl (fun base hB oc od kV doc pm an cdv ct osl lk A outer s H E G1 T => by
      have ec : cdv = .ref cdA200 := code_eq lk l200
      subst ec
      exact b200 G1 T D (errD_mk G1 T eK ⟨_, _, _, _, _, _, _, _, _, lE, cE⟩ (fun _ _ _ _ _ _ us hl => match us, hl with | [_], _ => rfl) (PySem.W.mg_of X G aE) kE scE (by decide +kernel) (by decide +kernel) (by decide +kernel) (by decide +kernel) (by decide +kernel) (errs_glob (by decide +kernel)) (by decide +kernel) (fun Xs gs n Gs hfn Es => bErr Gs hfn Es)) ⟨hB (cdA200, PT) (List.mem_singleton.mpr rfl), rfl, rfl, rfl⟩ (lam_ok (n := 29) tx (st base) T.room)) bd200 hrun
  refine ⟨[(cdA200, PT)], g.tabs, fd, fun p hp => ?_, fun p hp => ?_, fun p hp => ?_, fun t ht => ⟨(cdA200, PT), List.mem_singleton.mpr rfl, ?_⟩, h1, fun base _ _ hB => h2 base hB⟩
  · rw [List.mem_singleton.mp hp]; exact own _ _ _ _ _ _ _ _ l200 rfl rfl co200 tv200
  · rw [List.mem_singleton.mp hp]; exact tn200
  · rw [List.mem_singleton.mp hp]; exact PySem.W.codeHd_of_K X th200
  · rw [List.mem_singleton.mp ht]
end SV
set_option linter.all false
set_option Elab.async false
set_option maxHeartbeats 4000000
set_option maxRecDepth 4000
set_option exponentiation.threshold 4000
set_option pp.deepTerms false
set_option pp.deepTerms.threshold 5
namespace SV
open PySem
local macro_rules | `(tactic| simp_arith [$xs,*]) => `(tactic| simp only [↓q_cst, ↓q_var, ↓q_frzV, ↓q_frzD, ↓q_frzC, ↓q_frz2, ↓q_new, ↓q_bin, ↓q_neg, ↓q_oeq, ↓q_cmp, ↓q_chn, ↓q_and, ↓q_or, ↓q_not, ↓q_ite, ↓q_tup, ↓q_lst, ↓q_dsp0, ↓q_ds1, ↓q_frzD1, ↓q_sub, ↓q_slc, ↓q_rev, ↓q_fld, ↓q_prp, ↓q_kcn, ↓q_cal, ↓q_mth, ↓q_smt, ↓q_ctr, ↓q_ctv, ↓q_app, ↓q_bif, ↓q_bmt, ↓q_isi, ↓q_fst, ↓q_snil, ↓q_scons, ↓q_sstar, ↓q_onone, ↓q_osome, ↓q_anil, ↓q_acons, ↓q_ival, ↓q_ienm, ↓q_izip, ↓q_irng, ↓q_iitm, ↓q_iitf, ↓q_ilkv, ↓q_frn, ↓q_lok, ↓q_gnm, ↓q_gtp, ↓q_gsb, ↓q_gat, ↓q_gsnil, ↓q_gscons, ↓q_dspC, ↓q_dnil, ↓q_dcons, ↓q_lc, ↓q_flc, ↓q_tnil, ↓q_tasg, ↓q_tpar, ↓q_taug, ↓q_texp, ↓q_tifs, ↓q_tret, ↓q_tpas, ↓q_tfor, ↓q_tlok, ↓q_twhl,
  ↓k_frz_, ↓k_new_, ↓k_bin2_, ↓k_bin_, ↓k_neg_, ↓k_oeq2_, ↓k_oeq_, ↓k_cmp2_, ↓k_cmp_, ↓k_pr_, ↓k_chn4_, ↓k_chn3_, ↓k_chn2_, ↓k_chn_, ↓k_and_, ↓k_or_, ↓k_not_, ↓k_ite_, ↓k_tup_, ↓k_lst_, ↓k_dsp_, ↓k_ds12_, ↓k_ds11_, ↓k_sub2_, ↓k_sub_, ↓k_slc3_, ↓k_slc2_, ↓k_slc_, ↓k_rev_, ↓k_fld_, ↓k_prp_, ↓k_kcn_, ↓k_cal2_, ↓k_cal_, ↓k_mth2_, ↓k_mth_, ↓k_ctr_, ↓k_app2_, ↓k_app_, ↓k_bif_, ↓k_bmt2_, ↓k_bmt_, ↓k_isi2_, ↓k_isi_, ↓k_fst_, ↓k_es2_, ↓k_es_, ↓k_st2_, ↓k_st_, ↓k_o_, ↓k_a_, ↓k_val_, ↓k_enm_, ↓k_zip2_, ↓k_zip_, ↓k_rng2_, ↓k_rng_, ↓k_itm_, ↓k_itf_, ↓k_lkv_, ↓k_frn_, ↓k_lok2_, ↓k_lok_, ↓k_gsb3_, ↓k_gsb2_, ↓k_gsb_, ↓k_gat_, ↓k_gs_, ↓k_ss_, ↓k_tasg_, ↓k_tpar_, ↓k_taug2_, ↓k_taug_, ↓k_texp_, ↓k_tifs_, ↓k_tret_, ↓k_tfor_, ↓k_tlk2_, ↓k_tlok_, ↓k_lcb_, ↓k_lc_, ↓k_flcb_, ↓k_flc_, ↓k_ds2_, ↓k_ds_,
  ↓nx_nx, ↓nx_ret, ↓nx_nil, ↓loop_nx, ↓loop_cnt, ↓loop_brk, ↓loop_ret, ↓lvR, ↓lvT, ↓lvN, ↓lvNT, ↓kpR, ↓kpN,
  ↓v_add, ↓v_addS, ↓v_addT, ↓v_addL, ↓v_sub, ↓v_mul, ↓v_mulT, ↓v_mulL, ↓v_div, ↓v_mod, ↓v_pow, ↓v_rsh, ↓v_neg, ↓v_negI, ↓v_aug, ↓c_eqI', ↓c_neI', ↓c_eqT, ↓c_neT, ↓c_lt', ↓c_gt', ↓c_le', ↓c_ge', ↓d_le, ↓d_lt, ↓d_gt, ↓d_ge, ↓c_isN non_OD, ↓c_isN non_non, ↓c_isN non_int, ↓c_isN non_str, ↓c_isN non_lst, ↓c_isN non_tup, ↓c_isN non_ins, ↓c_isnN non_OD, ↓c_isnN non_non, ↓c_isnN non_int, ↓c_isnN non_str, ↓c_isnN non_lst, ↓c_isnN non_tup, ↓c_isnN non_ins,
  ↓u_sub own_dct, ↓sD_dct, kT_str, kT_int, kO_tup, ↓su_LN, ↓su_TN, ↓su_L0, ↓su_L1, ↓su_LL, ↓su_T0, ↓su_T1, ↓su_TL, ↓f_lenL, ↓f_lenT, ↓f_lenS, ↓f_abs, ↓f_min2, ↓f_max2, ↓f_intB, ↓f_intI, ↓f_list sq_lst, ↓f_list sq_tup, ↓f_tuple sq_lst, ↓f_tuple sq_tup, ↓f_sorted, sz_lit, sz_lt, sz_1, sz_01, Nat.reducePow, Int.zero_add, ↓m_appI, ↓rng1, ↓rng2, ↓f_lenI, ↓sD_refI, kd_apR, sq_ref, dc_ref, rs_ref, rs_lst, rs_tup, rs_int, ↓c_inC, ↓c_inD, ↓c_ninD, Nat.zero_le, ↓c_eqC, ↓c_neC, strOf_inj, ↓f_all, ↓f_intS, ↓f_strI, ↓u_str, signs_eq, natc, natc0, natc1, Bool.not_eq_true', decide_eq_false_iff_not, ite_not, ↓v_slcL, ↓v_slcT, ↓v_slcS, ↓v_rev, ↓m_split, kd_cnt, kd_idx, kd_join, kd_split,  cls_ins, cls_ref, own_ref, fldD, hasF, fput, fget, flds, getAt, MO.obj.injEq, MO.lst.injEq, MO.dct.injEq, D.ins.injEq, and_assoc, exists_and_left, exists_and_right, beq_self_eq_true, Bool.or_true, Bool.true_or, Bool.or_false, Bool.false_or, Nat.reduceBEq, Nat.reduceEqDiff, OP_ok, OP_bind, OP_gd, OP_opt,  ↓i_int, ↓i_tup, ↓i_lst, ↓i_str, ↓i_bl, ↓i_non, sq_lst, sq_tup, dc_lst, dc_tup, dc_dct,
  wN_meth, wN_kcon, wN_init, wN_fuel, ix_nat, ix_0, ix_1, ix_lit, if_some, nrE_nil, nrE_cons, outEq_nil, outEq_cons, sle_iff, ele_nil, ele_none, ele_some, getA, getA0, setA, setA0, lenA, fz_ref, r_1n, r_n1, fz_lst, fz_tup, fz_int, fz_str, fz_non, fz_ins, fz_dct, fz_OD, ref_inj, newS, walkD, seqV, tgN, wipeE, cloD, cloDs, List.foldl_cons, List.foldl_nil, List.append_assoc, List.cons_append, List.nil_append, List.append_nil,
  List.getElem?_cons_succ, List.getElem?_cons_zero, List.set_cons_succ, List.set_cons_zero, List.length_cons, List.length_nil, List.map_cons, List.map_nil, Nat.reduceAdd, Nat.reduceSub, Nat.reduceLT, Nat.reduceLeDiff, Nat.reduceEqDiff, Nat.add_one_sub_one, Int.reduceLE, Int.reduceLT, Int.reduceNeg, Int.reduceAdd, Int.reduceSub, Int.reduceMul, Int.reducePow, Int.reduceToNat, Int.reduceEq, Int.reduceAbs, List.reduceReplicate,  List.length_map, D.bl.injEq, D.int.injEq, D.lst.injEq, D.tup.injEq, D.str.injEq, exists_eq_left', exists_eq_left, exists_eq, exists_eq', Option.some.injEq, if_true, if_false, decide_true, decide_false, Bool.false_eq_true, Bool.not_false, Bool.not_true, Bool.true_and, Bool.and_true, Bool.false_and, Bool.and_false, Bool.and_eq_true, and_self, true_and, and_true, decide_eq_true_eq, Prod.mk.injEq, S.mk.injEq, List.cons.injEq, ne_eq, reduceCtorEq, not_false_eq_true, not_true_eq_false, implies_true, Option.isNone_none, Option.isNone_some, List.mem_cons, List.not_mem_nil, or_false, false_or, or_true, true_or, $xs,*])
/-- cells alone: made, called, negated, compared -/
structure PL (p : Pg) : Prop where
  f0 : p.fn 0 = some F0
  f1 : p.fn 1 = some F1
  f3 : p.fn 3 = some F3
  f4 : p.fn 4 = some F4
  f5 : p.fn 5 = some F5
  f6 : p.fn 6 = some F6
  f7 : p.fn 7 = some F7
  f8 : p.fn 8 = some F8
  f9 : p.fn 9 = some F9
  f10 : p.fn 10 = some F10
  f11 : p.fn 11 = some F11
  f12 : p.fn 12 = some F12
  f13 : p.fn 13 = some F13
  f14 : p.fn 14 = some F14
  f15 : p.fn 15 = some F15
  f16 : p.fn 16 = some F16
  i0 : p.init 0 = some 3
  i1 : p.init 1 = some 3
  i2 : p.init 2 = some 3
  i3 : p.init 3 = some 3
  i4 : p.init 4 = some 14
  k0 : p.kcon 0 0 = some (.str "first")
  k1 : p.kcon 1 0 = some (.str "last")
  k2 : p.kcon 2 0 = some (.str "less")
  k3 : p.kcon 3 0 = some (.str "greater")
  k4 : p.kcon 4 0 = some (.str "near")
  m00 : p.meth 0 0 = some 4
  m10 : p.meth 1 0 = some 8
  m20 : p.meth 2 0 = some 10
  m30 : p.meth 3 0 = some 12
  m40 : p.meth 4 0 = some 15
  m46 : p.meth 4 6 = some 3
  m02 : p.meth 0 2 = some 6
  m12 : p.meth 1 2 = some 9
  m22 : p.meth 2 2 = some 11
  m32 : p.meth 3 2 = some 13
  m42 : p.meth 4 2 = some 16
  ml : ∀ c : CK, p.meth (cK c) 10 = some 7
  q : ∀ c : CK, p.meth (cK c) 1 = some 5
section
variable {p : Pg} {n : Nat} {m : List MO} {s : S} {P : D × S → Prop}
theorem PL.cell (h : PL p) (c : CK) : CellH p c := by
  cases c
  · exact ⟨h.m00, h.f4⟩
  · exact ⟨h.m10, h.f8⟩
  · exact ⟨h.m20, h.f10⟩
  · exact ⟨h.m30, h.f12⟩
  · exact ⟨h.m40, h.f15⟩
theorem mk0L (h : PL p) {s : S} {P : D × S → Prop} : OP (makeD (wN p (n + 1)) 0 [] s) P ↔ P (cellD .first, s) := OPe (make_cell (c := .first) (by intro k e; cases e) ⟨h.i0, h.k0, h.f3⟩ s)
theorem mk1L (h : PL p) {s : S} {P : D × S → Prop} : OP (makeD (wN p (n + 1)) 1 [] s) P ↔ P (cellD .last, s) := OPe (make_cell (c := .last) (by intro k e; cases e) ⟨h.i1, h.k1, h.f3⟩ s)
theorem mk2L (h : PL p) {s : S} {P : D × S → Prop} : OP (makeD (wN p (n + 1)) 2 [] s) P ↔ P (cellD .less, s) := OPe (make_cell (c := .less) (by intro k e; cases e) ⟨h.i2, h.k2, h.f3⟩ s)
theorem mk3L (h : PL p) {s : S} {P : D × S → Prop} : OP (makeD (wN p (n + 1)) 3 [] s) P ↔ P (cellD .greater, s) := OPe (make_cell (c := .greater) (by intro k e; cases e) ⟨h.i3, h.k3, h.f3⟩ s)
theorem run1L (h : PL p) (v lo hi : Int) (hv : lo ≤ v ∧ v ≤ hi) : OP ((callF p (n + 2)).1 1 [.int v, .int lo, .int hi] m) (fun r => r = (.non, m)) := by
  refine run_L h.f1 rfl rfl ?_
  simp_arith [F1, ↓OPw (run0 h.f0 _ _ _), hv.1, hv.2]
theorem run3L (h : PL p) {c : Nat} {z : Str} (hk : p.kcon c 0 = some (.str z)) (hf : hasF c 0 = true) : OP ((callF p (n + 1)).1 3 [.ref m.length] (m ++ [.obj c []])) (fun r => r = (.non, m ++ [.obj c [(0, .str z)]])) := by
  refine run_K h.f3 rfl rfl ?_
  simp_arith [F3, hk]
  exact hf
theorem mk4L (h : PL p) {k : Int} (hk : -1000000000 ≤ k ∧ k ≤ 1000000000) {s : S} : OP (makeD (wN p (n + 3)) 4 [.int k] s) (fun r => r = (cellD (.near k), s)) := by
  refine mk_V h.i4 rfl (fs := [(0, .str (labK (.near k))), (1, .int k)]) (t := []) ?_ rfl rfl rfl
  refine run_K h.f14 rfl rfl ?_
  have hb : k.natAbs < 2 ^ 1900 := Nat.lt_of_lt_of_le (show k.natAbs < 2 ^ 31 by omega) (Nat.pow_le_pow_right (by decide) (by decide))
  simp_arith [F14, h.m46, ↓OPw (run3L h h.k4 rfl), ↓OPw (run1L h k _ _ hk), hb]
  rfl
theorem ap_cellL (h : PL p) {c : CK} {a b : Int} : OP (callM (wN p (n + 1)) (cellD c) 0 [.int a, .int b] s) P ↔ P (.tup [.int (keep1 c a b).1, .int (keep1 c a b).2], s) := OPe (cell_call (h.cell c) a b s)
theorem n_cellL (h : PL p) {c : CK} (hc : okK c = true) : OP (negF (wN p (n + 4)) (cellD c) s) P ↔ P (cellD (negK c), s) := by
  have key : ∀ (f g : Nat) (F : Fn), p.meth (cK c) 2 = some f → OP ((callF p (n + 4)).1 f [cellD c] s.m) (fun r => r = (cellD (negK c), s.m)) → (OP (negF (wN p (n + 4)) (cellD c) s) P ↔ P (cellD (negK c), s)) := by
    intro f g F hm hr
    have : OP (callM (wN p (n + 4)) (cellD c) 2 [] s) P ↔ P (cellD (negK c), s) := by
      unfold callM
      rw [cls_cell]
      simp only [wN_meth, hm]
      rw [OP_inS]
      exact OPw hr
    rw [← this]
    cases c <;> exact Iff.rfl
  cases c with
  | first =>
    refine key 6 0 F6 h.m02 (run_L h.f6 rfl rfl ?_)
    simp_arith [F6, mk0L h]
    exact ⟨rfl, rfl⟩
  | last =>
    refine key 9 0 F6 h.m12 (run_L h.f9 rfl rfl ?_)
    simp_arith [F9, mk1L h]
    exact ⟨rfl, rfl⟩
  | less =>
    refine key 11 0 F6 h.m22 (run_L h.f11 rfl rfl ?_)
    simp_arith [F11, mk3L h]
    exact ⟨rfl, rfl⟩
  | greater =>
    refine key 13 0 F6 h.m32 (run_L h.f13 rfl rfl ?_)
    simp_arith [F13, mk2L h]
    exact ⟨rfl, rfl⟩
  | near k =>
    have hk : -1000000000 ≤ k ∧ k ≤ 1000000000 := of_decide_eq_true hc
    refine key 16 0 F6 h.m42 (run_L h.f16 rfl rfl ?_)
    simp_arith [F16, cellD]
    rw [show (0 : Int) - k = -k by omega, OPe (mk4L (n := n) h (k := -k) (by omega))]
    simp_arith []
    exact ⟨rfl, rfl⟩
theorem own_cellsL (h : PL p) (c e : CK) : ownEq (wN p (n + 1)) m (cellD c) (cellD e) = some (decide (c = e)) := by
  obtain ⟨_, e1, rfl⟩ := run5 (n := n) (m := m) h.f5 c e
  obtain ⟨_, e2, rfl⟩ := run5 (n := n) (m := m) h.f5 e c
  unfold ownEq
  rw [cls_cell, cls_cell]
  have hk : ownOk (cK c) (cK e) = true := by simp [ownOk, cK_lt]
  have hm : (wN p (n + 1)).meth (if ownFst (cK c) (cK e) then cK e else cK c) 1 = some 5 := by
    rw [wN_meth]; split
    · exact h.q e
    · exact h.q c
  simp only [hk, if_true, hm]
  cases ownFst (cK c) (cK e) with
  | true =>
    simp only [if_true]
    rw [show (wN p (n + 1)).call 5 [cellD e, cellD c] m = _ from e2]
    simp only [if_true]
    congr 1
    simp [eq_comm]
  | false =>
    simp only [Bool.false_eq_true, if_false]
    rw [show (wN p (n + 1)).call 5 [cellD c, cellD e] m = _ from e1]
    simp only [if_true]
/-- == of cells; != of cells of one class -/
theorem o_cellL (h : PL p) {c e : CK} : OP (oeqF (wN p (n + 1)) false (cellD c) (cellD e) s) P ↔ P (.bl (decide (c = e)), s) := by
  unfold oeqF
  have : oeqD (wN p (n + 1)) s.m false (cellD c) (cellD e) = some (decide (c = e)) := by
    rw [← own_cellsL (n := n) (m := s.m) h c e, cell_form c, cell_form e]
    simp only [oeqD, Bool.false_eq_true, false_and, if_false]
  rw [this, OP_bind, OP_some, OP_ok]
  simp
theorem o_cellN (h : PL p) {c e : CK} (hk : cK c = cK e) : OP (oeqF (wN p (n + 1)) true (cellD c) (cellD e) s) P ↔ P (.bl (!decide (c = e)), s) := by
  unfold oeqF
  have : oeqD (wN p (n + 1)) s.m true (cellD c) (cellD e) = some (decide (c = e)) := by
    rw [← own_cellsL (n := n) (m := s.m) h c e, cell_form c, cell_form e]
    simp only [oeqD, hk, ne_eq, not_true, and_false, if_false]
  rw [this, OP_bind, OP_some, OP_ok]
  simp
/-- a cell is no text -/
theorem run5S (h : PL p) (c : CK) (z : Str) : OP ((callF p (n + 1)).1 5 [cellD c, .str z] m) (fun r => r = (.bl false, m)) := by
  refine run_L h.f5 rfl rfl ?_
  have i1 : ∀ {m : List MO} {R : Bool → Prop}, OP (isiD m (.str z) (.own 0)) R ↔ R false := by
    intro m R
    simp [isiD, kindD, OP_ok]
  rw [cell_form c]
  cases c <;> simp_arith [F5, cK, tlK, ↓i1]
theorem o_cellS (h : PL p) {c : CK} {z : Str} : OP (oeqF (wN p (n + 1)) false (cellD c) (.str z) s) P ↔ P (.bl false, s) := by
  unfold oeqF
  have : oeqD (wN p (n + 1)) s.m false (cellD c) (.str z) = some false := by
    obtain ⟨_, e1, rfl⟩ := run5S (n := n) (m := s.m) h c z
    rw [cell_form c]
    show (if false = true then none else ownEqS (wN p (n + 1)) s.m (cK c) _ _) = _
    rw [if_neg (by simp)]
    unfold ownEqS
    rw [wN_meth, h.q c, ← cell_form c]
    simp only
    rw [show (wN p (n + 1)).call 5 [cellD c, .str z] s.m = _ from e1]
    simp only [if_true]
  rw [this, OP_bind, OP_some, OP_ok]
  simp
/-- no number from lo to hi -/
def offD (d : D) (lo hi : Int) : Prop := (∃ v, d = .int v ∧ ¬ (lo ≤ v ∧ v ≤ hi)) ∨ d = .non ∨ (∃ b, d = .bl b) ∨ (∃ z, d = .str z) ∨ ∃ xs, d = .tup xs
theorem run0X (h : p.fn 0 = some F0) {d : D} {lo hi : Int} (hd : offD d lo hi) : OP ((callF p (n + 1)).1 0 [d, .int lo, .int hi] m) (fun r => r = (.bl false, m)) := by
  refine run_L h rfl rfl ?_
  rcases hd with ⟨v, rfl, hv⟩ | rfl | ⟨b, rfl⟩ | ⟨z, rfl⟩ | ⟨xs, rfl⟩
  · have : ¬ (lo ≤ v) ∨ ¬ (v ≤ hi) := by omega
    by_cases h1 : lo ≤ v
    · have h2 : ¬ v ≤ hi := by omega
      simp_arith [F0, h1, h2]
    · simp_arith [F0, h1]
  · simp_arith [F0]
  · cases b <;> simp_arith [F0]
  · simp_arith [F0]
  · simp_arith [F0]
theorem run1X (h0 : p.fn 0 = some F0) (h1 : p.fn 1 = some F1) {d : D} {lo hi : Int} (hd : offD d lo hi) : (callF p (n + 2)).1 1 [d, .int lo, .int hi] m = .exc 21 .non ⟨[], m⟩ := by
  obtain ⟨_, e0, rfl⟩ := run0X (n := n) (m := m) h0 hd
  show (match p.fn 1 with | some i => runF (wAt p (callF p (n + 1)).1 (callF p (n + 1)).2) i [d, .int lo, .int hi] m | none => .bad) = _
  rw [h1]
  have ec : (wAt p (callF p (n + 1)).1 (callF p (n + 1)).2).call 0 [d, .int lo, .int hi] m = .ok (.bl false, m) := e0
  unfold runF
  simp only [argsOf, F1]
  simp [exSs, exS, evE, evEs, ec, inS, asBool, Out.bind, bind, leaveX, exOk_refl, cloD]
end
section
variable {p : Pg} {n : Nat} {m : List MO}
def eqO2 : Nat → D → Bool
  | _, .non => true
  | _, .int _ => true
  | _, .str _ => true
  | k + 1, .lst xs => xs.all (eqO2 k) && decide (xs.length ≤ 1000000)
  | k + 1, .tup xs => xs.all (eqO2 k) && decide (xs.length ≤ 1000000)
  | _, _ => false
theorem run108B (h : p.fn 108 = some F108) (k : Nat) : ∀ (d : D) (n : Nat) (m : List MO), eqO2 k d = true → OP ((callF p (n + k + 1)).1 108 [d, d] m) (fun r => r = (.bl true, m)) := by
  have base : ∀ (k : Nat) (d : D) (n : Nat) (m : List MO), (d = .non ∨ (∃ i, d = .int i) ∨ ∃ z, d = .str z) → OP ((callF p (n + k + 1)).1 108 [d, d] m) (fun r => r = (.bl true, m)) := by
    rintro k d n m (rfl | ⟨i, rfl⟩ | ⟨z, rfl⟩)
    · refine run_L h rfl rfl ?_
      simp_arith [F108]
    · refine run_L h rfl rfl ?_
      simp_arith [F108]
    · refine run_L h rfl rfl ?_
      simp_arith [F108]
  induction k with
  | zero =>
    intro d n m hd
    cases d with
    | non => exact base 0 _ n m (.inl rfl)
    | int i => exact base 0 _ n m (.inr (.inl ⟨i, rfl⟩))
    | str z => exact base 0 _ n m (.inr (.inr ⟨z, rfl⟩))
    | _ => cases hd
  | succ k ih =>
    have turn : ∀ (xs : List D) (n : Nat) (m : List MO) (i : Nat) (d : D), xs.all (eqO2 k) = true → xs[i]? = some d → OP ((callF p (n + (k + 1))).1 108 [d, d] m) (fun r => r = (.bl true, m)) := by
      intro xs n m i d ha hi
      exact ih d n m (List.all_eq_true.mp ha d (List.mem_of_getElem? hi))
    intro d n m hd
    cases d with
    | non => exact base (k + 1) _ n m (.inl rfl)
    | int i => exact base (k + 1) _ n m (.inr (.inl ⟨i, rfl⟩))
    | str z => exact base (k + 1) _ n m (.inr (.inr ⟨z, rfl⟩))
    | lst xs =>
      have hd' : xs.all (eqO2 k) = true ∧ decide (xs.length ≤ 1000000) = true := by simpa [eqO2] using hd
      have hl := of_decide_eq_true hd'.2
      refine run_L h rfl rfl ?_
      simp_arith [F108, ↓c_eqB', ↓c_neB']
      refine ⟨by omega, by omega, ?_⟩
      refine l_I (fun i ys m' => m' = m ∧ ys = (List.replicate i true).map D.bl) (by simp [nrE]) (by rw [rangeL_len, szL]; omega) ⟨rfl, rfl⟩ ?_ ?_
      · rintro i x ys m' hx ⟨rfl, rfl⟩ hm hy
        obtain ⟨hi, rfl⟩ := get_range hx
        have hi' : i < xs.length := by omega
        have hg : xs[i]? = some xs[i] := List.getElem?_eq_getElem hi'
        simp_arith [hg]
        rw [OPw (turn xs n _ i xs[i] hd'.1 hg)]
        simp_arith []
        exact ⟨_, rfl, rfl, rfl, by simp [List.replicate_succ']⟩
      · rintro ys m' ⟨rfl, rfl⟩ hm
        simp_arith [rangeL_len]
        rw [show (List.replicate (xs.length : Int).toNat true).map D.bl = (List.replicate (xs.length : Int).toNat true).map (fun a => D.bl (id a)) from rfl, f_all]
        have hal : (List.replicate (xs.length : Int).toNat true).all id = true := by rw [List.all_eq_true]; intro x hx; exact (List.mem_replicate.mp hx).2
        simp_arith [hal]
    | tup xs =>
      have hd' : xs.all (eqO2 k) = true ∧ decide (xs.length ≤ 1000000) = true := by simpa [eqO2] using hd
      have hl := of_decide_eq_true hd'.2
      refine run_L h rfl rfl ?_
      simp_arith [F108, ↓c_eqB', ↓c_neB']
      refine ⟨by omega, by omega, ?_⟩
      refine l_I (fun i ys m' => m' = m ∧ ys = (List.replicate i true).map D.bl) (by simp [nrE]) (by rw [rangeL_len, szL]; omega) ⟨rfl, rfl⟩ ?_ ?_
      · rintro i x ys m' hx ⟨rfl, rfl⟩ hm hy
        obtain ⟨hi, rfl⟩ := get_range hx
        have hi' : i < xs.length := by omega
        have hg : xs[i]? = some xs[i] := List.getElem?_eq_getElem hi'
        simp_arith [hg]
        rw [OPw (turn xs n _ i xs[i] hd'.1 hg)]
        simp_arith []
        exact ⟨_, rfl, rfl, rfl, by simp [List.replicate_succ']⟩
      · rintro ys m' ⟨rfl, rfl⟩ hm
        simp_arith [rangeL_len]
        rw [show (List.replicate (xs.length : Int).toNat true).map D.bl = (List.replicate (xs.length : Int).toNat true).map (fun a => D.bl (id a)) from rfl, f_all]
        have hal : (List.replicate (xs.length : Int).toNat true).all id = true := by rw [List.all_eq_true]; intro x hx; exact (List.mem_replicate.mp hx).2
        simp_arith [hal]
    | _ => cases hd
end
section
variable {p : Pg} {n : Nat}
theorem five_at {mark : Int} {k : Nat} (hk : k < 5) : ∃ c, ([.first, .last, .less, .greater, .near mark] : List CK)[k]? = some c ∧ (∃ z, (["first", "last", "less", "greater", "near"] : List Str)[k]? = some z ∧ ∀ p : Pg, PL p → p.kcon (cK c) 0 = some (.str z)) := by
  match k, hk with
  | 0, _ => exact ⟨_, rfl, _, rfl, fun p h => h.k0⟩
  | 1, _ => exact ⟨_, rfl, _, rfl, fun p h => h.k1⟩
  | 2, _ => exact ⟨_, rfl, _, rfl, fun p h => h.k2⟩
  | 3, _ => exact ⟨_, rfl, _, rfl, fun p h => h.k3⟩
  | 4, _ => exact ⟨_, rfl, _, rfl, fun p h => h.k4⟩
theorem five_inj {mark : Int} {k o : Nat} (hk : k < 5) (ho : o < 5) {c e : CK} (hc : ([.first, .last, .less, .greater, .near mark] : List CK)[k]? = some c) (he : ([.first, .last, .less, .greater, .near mark] : List CK)[o]? = some e) : (c = e) = (k = o) := by
  match k, hk, o, ho with
  | 0, _, 0, _ | 0, _, 1, _ | 0, _, 2, _ | 0, _, 3, _ | 0, _, 4, _ | 1, _, 0, _ | 1, _, 1, _ | 1, _, 2, _ | 1, _, 3, _ | 1, _, 4, _ | 2, _, 0, _ | 2, _, 1, _ | 2, _, 2, _ | 2, _, 3, _ | 2, _, 4, _
  | 3, _, 0, _ | 3, _, 1, _ | 3, _, 2, _ | 3, _, 3, _ | 3, _, 4, _ | 4, _, 0, _ | 4, _, 1, _ | 4, _, 2, _ | 4, _, 3, _ | 4, _, 4, _ => cases hc; cases he; simp
theorem five_ok {mark : Int} (hm : -1000000000 ≤ mark ∧ mark ≤ 1000000000) : ∀ c ∈ ([.first, .last, .less, .greater, .near mark] : List CK), okK c = true := by
  intro c hc
  simp only [List.mem_cons, List.not_mem_nil, or_false] at hc
  rcases hc with rfl | rfl | rfl | rfl | rfl <;> first | rfl | exact decide_eq_true hm
theorem eof_X {n : Nat} {p : Pg} {kk : Nat} {e' : Ex} {s s' : S} {c : Nat} {d : D} {P : D × S → Prop} (hk : p.lam kk = some e') (hx : evE (wN p n) e' s = .exc c d s') (hg : errG c d = true) : OP (evE (wN p (n + 1)) (.eof (.lam kk)) s) P ↔ P (errD c d, ⟨s.e, s'.m⟩) := by
  have e : evE (wN p (n + 1)) (.eof (.lam kk)) s = .ok (errD c d, ⟨s.e, s'.m⟩) := by
    simp only [evE]
    show errO (wN p (n + 1)) (.clo kk) s = _
    unfold errO
    have : (wN p (n + 1)).clo kk s = evE (wN p n) e' s := by
      show (match p.lam kk with | some e => evE _ e s | none => .bad) = _
      rw [hk]
    simp only [this, hx, hg, if_true]
  rw [e, OP_ok]
theorem mk4X (h : PL p) {d : D} (hd : offD d (-1000000000) 1000000000) (s : S) : makeD (wN p (n + 3)) 4 [d] s = .exc 21 .non s := by
  have e3 : (callF p (n + 2)).1 3 [.ref s.m.length] (s.m ++ [.obj 4 []]) = .ok (.non, s.m ++ [.obj 4 [(0, .str "near")]]) := by
    obtain ⟨_, e, rfl⟩ := run3L (n := n + 1) (m := s.m) h h.k4 (c := 4) rfl
    exact e
  have e1 := run1X (n := n) (m := s.m ++ [.obj 4 [(0, .str "near")]]) h.f0 h.f1 hd
  have e14 : (callF p (n + 3)).1 14 [.ref s.m.length, d] (s.m ++ [.obj 4 []]) = .exc 21 .non ⟨[], s.m ++ [.obj 4 [(0, .str "near")]]⟩ := by
    show (match p.fn 14 with | some i => runF (wAt p (callF p (n + 2)).1 (callF p (n + 2)).2) i _ _ | none => .bad) = _
    rw [h.f14]
    unfold runF
    have hcl : clsOf (s.m ++ [.obj 4 []]) (.ref s.m.length) = some 4 := by simp [clsOf]
    have hm : (wAt p (callF p (n + 2)).1 (callF p (n + 2)).2).meth 4 6 = some 3 := h.m46
    have hc3 : (wAt p (callF p (n + 2)).1 (callF p (n + 2)).2).call 3 [.ref s.m.length] (s.m ++ [.obj 4 []]) = .ok (.non, s.m ++ [.obj 4 [(0, .str "near")]]) := e3
    have hc1 : (wAt p (callF p (n + 2)).1 (callF p (n + 2)).2).call 1 [d, .int (-1000000000), .int 1000000000] (s.m ++ [.obj 4 [(0, .str "near")]]) = .exc 21 .non ⟨[], s.m ++ [.obj 4 [(0, .str "near")]]⟩ := e1
    have hb : ∀ m : List MO, binF (wAt p (callF p (n + 2)).1 (callF p (n + 2)).2) .Sub (.int 0) (.int 1000000000) ⟨[some (.ref s.m.length), some d, none], m⟩ = .ok (.int (-1000000000), ⟨[some (.ref s.m.length), some d, none], m⟩) := fun m => rfl
    simp only [argsOf, F14]
    simp [exSs, exS, evE, evEs, callM, hcl, hm, hc3, inS, Out.bind, bind, hb, hc1, leaveX]
  unfold makeD
  rw [show (wN p (n + 3)).init 4 = some 14 from h.i4]
  simp only
  rw [show (wN p (n + 3)).call 14 [.ref s.m.length, d] (s.m ++ [.obj 4 []]) = _ from e14]
  simp [inS, exOk_app, cloD]
end
section
variable {p : Pg} {n : Nat}
theorem i_cell {m : List MO} {c : CK} {R : Bool → Prop} : OP (isiD m (cellD c) (.own 0)) R ↔ R true := by
  rw [cell_form c, i_own0 (Nat.lt_succ_iff.mp (cK_lt c))]
  have : isSub (cK c) 0 = true := by cases c <;> rfl
  rw [this]
theorem law01 (h : PL p) (h0 : p.fn 100 = some F100) (h1 : p.fn 101 = some F101) (h3 : p.fn 103 = some F103) (h5 : p.fn 105 = some F105) (h8 : p.fn 108 = some F108) (hl : p.lam 3200 = some (.ctr 4 (.cons (.var 12) .nil))) (ns : List Int) (hn : ns.length ≤ 63) :
    OP (runF (wN p (n + 6)) F200 [.scr ns] []) (fun r => r.1 = .bl true) := by
  refine run_leave _ rfl rfl rfl ?_
  show OP (exSs _ none F200.body _) _
  simp_arith [F200]
  refine (run100 (n := n + 5) h0 ns hn 1 (by decide)).mono ?_
  rintro r ⟨zs, rfl, hD⟩
  simp_arith []
  refine fR_I (fun i s => ∃ zs t, Dz zs ∧ s = ⟨[some (.scr ns), some (.ref 1), none, none, none, none, none, none, none, none, none, none, none], .dead :: .lst zs :: t⟩) ⟨_, ⟨zs, [], hD, rfl⟩, by simp_arith []⟩ ?_ ?_
  · rintro i s hi ⟨zs, t, hD, rfl⟩
    simp_arith []
    refine draw h1 hD (by decide) fun v1 zs hv0 hv1 hD => ?_
    simp_arith []
    refine draw h1 hD (by decide) fun v2 zs hw0 hw1 hD => ?_
    simp_arith []
    refine draw h1 hD (by decide) fun v zs hk0 hk1 hD => ?_
    simp_arith []
    refine sub_all hk0 (by exact hk1) fun d hd => ?_
    obtain ⟨mark, rfl, hm⟩ : ∃ mark, d = .int mark ∧ -1000000000 ≤ mark ∧ mark ≤ 1000000000 := by
      simp at hd
      rcases hd with rfl | rfl | rfl | rfl | rfl
      · exact ⟨0, rfl, by decide, by decide⟩
      · exact ⟨_, rfl, by decide, by decide⟩
      · exact ⟨_, rfl, by decide, by decide⟩
      · exact ⟨_, rfl, by omega, by omega⟩
      · exact ⟨_, rfl, by omega, by omega⟩
    have hb1 : mark.natAbs < 2 ^ 1900 := Nat.lt_of_lt_of_le (show mark.natAbs < 2 ^ 31 by omega) (Nat.pow_le_pow_right (by decide) (by decide))
    have hb2 : (0 - mark).natAbs < 2 ^ 1900 := Nat.lt_of_lt_of_le (show (0 - mark).natAbs < 2 ^ 31 by omega) (Nat.pow_le_pow_right (by decide) (by decide))
    simp_arith [↓mk0L h, ↓mk1L h, ↓mk2L h, ↓mk3L h, ↓OPe (mk4L h hm), hb1, hb2]
    have hL : ∀ k : Int, -1000000000 ≤ k ∧ k ≤ 1000000000 → (Str.ofString "near:").length + (strOfInt k).length ≤ sizeL := by
      intro k hk
      have h1 := (lab_len (c := .near k) (decide_eq_true hk)).2
      have h2 : (labK (.near k)).length = (Str.ofString "near:").length + (strOfInt k).length := PySem.Str.length_append _ _
      rw [szL]
      omega
    refine ⟨hL _ hm, hL _ (by omega), ?_⟩
    refine draw h1 hD (by decide) fun v zs hk0 hk1 hD => ?_
    obtain ⟨kn, rfl⟩ : ∃ kn : Nat, v = (kn : Int) := ⟨v.toNat, by omega⟩
    have hkn : kn < 5 := by omega
    simp_arith []
    refine draw h1 hD (by decide) fun v zs ho0 ho1 hD => ?_
    obtain ⟨on, rfl⟩ : ∃ on : Nat, v = (on : Int) := ⟨v.toNat, by omega⟩
    have hon : on < 5 := by omega
    simp_arith []
    refine run103' h1 h3 hD (by decide) fun row zs hD hlr hr => ?_
    obtain ⟨a, b, hab⟩ : ∃ a b, ((row ++ [mark + 1, mark - 1]).take 2) = [a, b] := by
      rcases row with _ | ⟨x, _ | ⟨y, r⟩⟩
      · exact ⟨_, _, rfl⟩
      · exact ⟨_, _, rfl⟩
      · exact ⟨x, y, by simp⟩
    have hsl : sliceL (row.map D.int ++ [D.int (mark + 1), D.int (mark - 1)]) none (some 2) = [D.int a, D.int b] := by
      have e : row.map D.int ++ [D.int (mark + 1), D.int (mark - 1)] = (row ++ [mark + 1, mark - 1]).map D.int := by simp
      rw [e, show (some 2 : Option Int) = some ((2 : Nat) : Int) from rfl, sl_takeM, hab]
      rfl
    have hrl : row.length + 2 ≤ sizeL := by rw [szL]; omega
    obtain ⟨c, hc, z, hz, hk⟩ := five_at (mark := mark) hkn
    obtain ⟨e, he, -⟩ := five_at (mark := mark) hon
    have hce := five_inj hkn hon hc he
    have hok := five_ok hm
    have hcok := hok c (List.mem_of_getElem? hc)
    have hkz := hk p h
    have hc4 : ([cellD .first, cellD .last, cellD .less, cellD .greater, cellD (.near mark)] : List D)[kn]? = some (cellD c) := by
      rw [show ([cellD .first, cellD .last, cellD .less, cellD .greater, cellD (.near mark)] : List D) = ([.first, .last, .less, .greater, .near mark] : List CK).map cellD from rfl, List.getElem?_map, hc]; rfl
    have ho4 : ([cellD .first, cellD .last, cellD .less, cellD .greater, cellD (.near mark)] : List D)[on]? = some (cellD e) := by
      rw [show ([cellD .first, cellD .last, cellD .less, cellD .greater, cellD (.near mark)] : List D) = ([.first, .last, .less, .greater, .near mark] : List CK).map cellD from rfl, List.getElem?_map, he]; rfl
    have hc5 : ([.str "first", .str "last", .str "less", .str "greater", .str ("near:" ++ strOfInt mark)] : List D)[kn]? = some (.str (labK c)) := by
      rw [show ([.str "first", .str "last", .str "less", .str "greater", .str ("near:" ++ strOfInt mark)] : List D) = ([.first, .last, .less, .greater, .near mark] : List CK).map (fun c => .str (labK c)) from rfl, List.getElem?_map, hc]; rfl
    have hc6 : ([.str "first", .str "last", .str "greater", .str "less", .str ("near:" ++ strOfInt (0 - mark))] : List D)[kn]? = some (.str (labK (negK c))) := by
      rw [show (0 : Int) - mark = -mark by omega, show ([.str "first", .str "last", .str "greater", .str "less", .str ("near:" ++ strOfInt (-mark))] : List D) = ([.first, .last, .less, .greater, .near mark] : List CK).map (fun c => .str (labK (negK c))) from rfl, List.getElem?_map, hc]; rfl
    have hc7 : ([.str "first", .str "last", .str "less", .str "greater", .str "near"] : List D)[kn]? = some (.str z) := by
      rw [show ([.str "first", .str "last", .str "less", .str "greater", .str "near"] : List D) = (["first", "last", "less", "greater", "near"] : List Str).map D.str from rfl, List.getElem?_map, hz]; rfl
    have hnc := negK_ok hcok
    have hisub : isSub (cK c) 0 = true := by cases c <;> rfl
    have hnn : cK (negK (negK c)) = cK c := by rw [negK_neg]
    simp_arith [hsl, hrl, hc4, hc5, hc6, ↓lb_cell h.f7 (h.ml _), ↓n_cellL h hcok, ↓OPw (run108B h8 1 (.lst [.str (labK c), .str (labK (negK c))]) (n + 4) _ rfl)]
    have hci : ((kn : Int) = (on : Int)) = (kn = on) := propext Int.ofNat_inj
    simp_arith [own_cell, cls_cell, hkz, hc4, hc5, hc6, hc7, ho4, ↓ap_cellL h, ↓OPw (run105K h5 c hcok a b), ↓OPw (run108B h8 1 (.tup [.int (keep1 c a b).1, .int (keep1 c a b).2]) (n + 4) _ rfl), ↓o_cellL h, ↓o_cellS h, ↓i_cell, ↓OPw (run108B h8 0 (.str z) (n + 5) _ rfl),
      ↓n_cellL h hcok, ↓n_cellL h hnc, negK_neg, ↓o_cellN h rfl, hce, hci, ↓c_neB']
    have tail : ∀ k' : Int, -1000000000 ≤ k' ∧ k' ≤ 1000000000 → (mark = k') = False → ∀ s : S, OP (makeD (wN p (n + 6)) 4 [.int k'] s) (fun r => r = (cellD (.near k'), s)) := fun k' hk' _ s => mk4L h hk'
    split
    all_goals
      rename_i hlt
      rw [OPe (mk4L h (by omega))]
      have hne1 : (mark = mark + 1) = False := by simp only [eq_iff_iff, iff_false]; omega
      have hne3 : mark < 1000000000 ∨ (mark = 0) = False := by
        by_cases h0 : mark = 0
        · left; omega
        · right; simp [h0]
      have hne4 : ¬ mark < 1000000000 → (mark = 0) = False := fun hh => hne3.resolve_left hh
      try have hne5 := hne4 hlt
      simp_arith [↓o_cellL h, ↓o_cellN h rfl, ↓OPe (mk4L h hm), CK.near.injEq, hne1, hne4, hlt]
      refine draw h1 hD (by decide) fun v zs hq0 hq1 hD => ?_
      simp_arith []
      refine sub_all hq0 (by exact hq1) fun d hd => ?_
      have hoff : offD d (-1000000000) 1000000000 := by
        simp at hd
        rcases hd with rfl | rfl | rfl | rfl | rfl | rfl
        · exact .inl ⟨_, rfl, by decide⟩
        · exact .inl ⟨_, rfl, by decide⟩
        · exact .inr (.inl rfl)
        · exact .inr (.inr (.inl ⟨_, rfl⟩))
        · exact .inr (.inr (.inr (.inl ⟨_, rfl⟩)))
        · exact .inr (.inr (.inr (.inr ⟨_, rfl⟩)))
      simp_arith []
      have hx : ∀ s : S, s.e[12]? = some (some d) → evE (wN p (n + 5)) (.ctr 4 (.cons (.var 12) .nil)) s = .exc 21 .non s := fun s hs => by
        simp only [evE, evEs, hs]
        exact mk4X h hoff s
      rw [eof_X hl (hx _ rfl) rfl]
      have hcmp : ∀ (w : W) (s : S) (P : D × S → Prop), OP (cmpF w .NotEq (.tup [.str "number", .int 0]) (.tup [.str "number", .int 0]) s) P ↔ P (.bl false, s) := fun w s P => by
        rw [v_cmpN ne1, d_ne (k := true)]
        · rfl
        · exact (by decide +kernel : eqD (.tup [.str "number", .int 0]) (.tup [.str "number", .int 0]) = some true)
      simp_arith [errD, hcmp]
      exact endI hD (by simp_arith [])
  · rintro s ⟨zs, t, hD, rfl⟩
    simp_arith []
    exact lv_retT (m := []) rfl rfl
end
theorem lP_pl : PL lP := by
  constructor <;> first | rfl | (intro c; cases c <;> rfl)
theorem law_true (ns : List Int) (hns : ns.length ≤ 63) : ∃ m, runF (wAt lP (callF lP 30).1 (callF lP 30).2) F200 [.scr ns] [] = .ok (.bl true, m) := by
  obtain ⟨⟨d, m⟩, h, rfl⟩ := law01 (n := 24) lP_pl rfl rfl rfl rfl rfl rfl ns hns
  exact ⟨m, h⟩
end SV
set_option linter.all false
set_option Elab.async false
set_option maxRecDepth 100000
set_option maxHeartbeats 4000000
open PySem PySem.W PyProof.Rows in
set_option maxRecDepth 100000 in
set_option maxHeartbeats 0 in
theorem PySem.Challenge.cw_siftchain_k01_cells_and_labels_holds : PySem.Challenge.rw_siftchain_k01_cells_and_labels.Holds := by
  w_on; o_law; k_head; (case hw => w_witness2)
  k_fill
  refine SV.walkEnd (l := PySem.Challenge.rw_siftchain_k01_cells_and_labels) (n := 30) rfl rfl ⟨rfl, by decide, by decide⟩ (by decide +kernel) (fun w h Y => by first | exact PySem.W.kIn_of Y | exact PySem.W.km_in_of Y) ?F
  case F =>
    intro w mg fa h KX G hmg own
    refine' SV.all_mk KX G hmg ?hC0 ?hC1 ?hC2 ?hC3 ?hC4 ?hC20 ?hC21 ?hC22 ?hC23 ?hC24 ?hC25 ?hC26 ?hC27 ?hC28 ?hC29 ?hC30 ?xq_21 ?xk_21 ?xb_21 ?xt_21 ?xd_20 ?xt_20 ?xs_21_20 ?xs_23_20 ?xs_26_20 ?xs_27_20 ?xs_28_20 ?xs_29_20 ?xd_21 ?xs_21_21 ?xs_23_21 ?xs_26_21 ?xs_27_21 ?xs_28_21 ?xs_29_21 ?xd_22 ?xt_22 ?xs_22_22 ?xs_21_22 ?xs_23_22 ?xs_26_22 ?xs_27_22 ?xs_28_22 ?xs_29_22 ?xd_23 ?xt_23 ?xs_21_23 ?xs_23_23 ?xs_26_23 ?xs_27_23 ?xs_28_23 ?xs_29_23 ?xd_24 ?xt_24 ?xs_24_24 ?xs_21_24 ?xs_23_24 ?xs_26_24 ?xs_27_24 ?xs_28_24 ?xs_29_24 ?xd_25 ?xt_25 ?xs_25_25 ?xs_21_25 ?xs_23_25 ?xs_26_25 ?xs_27_25 ?xs_28_25 ?xs_29_25 ?xd_26 ?xt_26 ?xs_21_26 ?xs_23_26 ?xs_26_26 ?xs_27_26 ?xs_28_26 ?xs_29_26 ?xd_27 ?xt_27 ?xs_21_27 ?xs_23_27 ?xs_26_27 ?xs_27_27 ?xs_28_27 ?xs_29_27 ?xd_28 ?xt_28 ?xs_21_28 ?xs_23_28 ?xs_26_28 ?xs_27_28 ?xs_28_28 ?xs_29_28 ?xd_29 ?xt_29 ?xs_21_29 ?xs_23_29 ?xs_26_29 ?xs_27_29 ?xs_28_29 ?xs_29_29 ?xd_30 ?xt_30 ?xs_30_30 ?xs_21_30 ?xs_23_30 ?xs_26_30 ?xs_27_30 ?xs_28_30 ?xs_29_30 ?xb_20 ?xg_21 ?xh_21 ?xa_21 ?xm_21 ?xv_21 ?xg_23 ?xh_23 ?xb_23 ?xa_23 ?xm_23 ?xv_23 ?xg_26 ?xh_26 ?xb_26 ?xa_26 ?xm_26 ?xv_26 ?xg_27 ?xh_27 ?xb_27 ?xa_27 ?xm_27 ?xv_27 ?xg_28 ?xh_28 ?xb_28 ?xa_28 ?xm_28 ?xv_28 ?xg_29 ?xh_29 ?xb_29 ?xa_29 ?xm_29 ?xv_29 ?b_ValueError ?aE ?lE ?cE ?kE ?a0 ?l0 ?c0 ?k0 ?a1 ?l1 ?c1 ?k1 ?a3 ?l3 ?c3 ?k3 ?a4 ?l4 ?c4 ?k4 ?a5 ?l5 ?c5 ?k5 ?a6 ?l6 ?c6 ?k6 ?a7 ?r7 ?pg7 ?pt7 ?l7 ?c7 ?k7 ?a8 ?l8 ?c8 ?k8 ?a9 ?l9 ?c9 ?k9 ?a10 ?l10 ?c10 ?k10 ?a11 ?l11 ?c11 ?k11 ?a12 ?l12 ?c12 ?k12 ?a13 ?l13 ?c13 ?k13 ?a14 ?l14 ?c14 ?co14 ?ve14 ?fe14 ?ce14 ?mr14 ?ty14 ?fn14 ?th14 ?tp14 ?k14 ?a15 ?l15 ?c15 ?k15 ?a16 ?l16 ?c16 ?k16 ?a100 ?l100 ?c100 ?k100 ?a101 ?l101 ?c101 ?k101 ?a103 ?l103 ?c103 ?k103 ?a108 ?l108 ?c108 ?k108 ?a105 ?l105 ?c105 ?k105 ?a200 ?l200 ?c200 ?co200 ?tv200 ?tn200 ?th200 ?k200 ?pg_0 ?hd_0 ?po_0 ?sa_0 ?ca_0 ?mo_0 ?kb_0_int ?kb_0_bool ?kb_0_str ?kb_0_tuple ?kb_0_list ?kb_0_dict ?pg_1 ?hd_1 ?po_1 ?sa_1 ?ca_1 ?mo_1 ?kb_1_int ?kb_1_bool ?kb_1_str ?kb_1_tuple ?kb_1_list ?kb_1_dict ?pg_2 ?hd_2 ?po_2 ?sa_2 ?ca_2 ?mo_2 ?kb_2_int ?kb_2_bool ?kb_2_str ?kb_2_tuple ?kb_2_list ?kb_2_dict ?pg_3 ?hd_3 ?po_3 ?sa_3 ?ca_3 ?mo_3 ?kb_3_int ?kb_3_bool ?kb_3_str ?kb_3_tuple ?kb_3_list ?kb_3_dict ?pg_4 ?hd_4 ?po_4 ?sa_4 ?ca_4 ?mo_4 ?kb_4_int ?kb_4_bool ?kb_4_str ?kb_4_tuple ?kb_4_list ?kb_4_dict ?sb_0_1 ?sb_0_2 ?sb_0_3 ?sb_0_4 ?sb_1_0 ?sb_1_2 ?sb_1_3 ?sb_1_4 ?sb_2_0 ?sb_2_1 ?sb_2_3 ?sb_2_4 ?sb_3_0 ?sb_3_1 ?sb_3_2 ?sb_3_4 ?sb_4_0 ?sb_4_1 ?sb_4_2 ?sb_4_3 ?ne_0 ?st_0 ?ne_1 ?st_1 ?ne_2 ?st_2 ?ne_3 ?st_3 ?ne_4 ?st_4 ?hn_ ?ht_ ?nf_0_0 ?nf_1_0 ?nf_2_0 ?nf_3_0 ?nf_4_0 ?nf_4_1 ?nf_0_2 ?nf_0_3 ?nf_0_4 ?nf_0_5 ?nf_0_6 ?nf_0_7 ?nf_0_8 ?nf_0_9 ?nf_0_10 ?nf_0_11 ?kc_0 ?kg_0 ?kc_1 ?kg_1 ?kc_2 ?kg_2 ?kc_3 ?kg_3 ?kc_4 ?kg_4 ?mk_0 ?in_0 ?if_3 ?kp_0 ?mk_1 ?in_1 ?kp_1 ?mk_2 ?in_2 ?kp_2 ?mk_3 ?in_3 ?kp_3 ?mk_4 ?in_4 ?if_14 ?kp_4 ?m_0_0 ?if_4 ?fi_4 ?m_0_1 ?if_5 ?fi_5 ?sf_0 ?m_0_2 ?if_6 ?fi_6 ?m_0_10 ?m_1_0 ?if_8 ?fi_8 ?m_1_1 ?sf_1 ?m_1_2 ?if_9 ?fi_9 ?m_1_10 ?m_2_0 ?if_10 ?fi_10 ?m_2_1 ?sf_2 ?m_2_2 ?if_11 ?fi_11 ?m_2_10 ?m_3_0 ?if_12 ?fi_12 ?m_3_1 ?sf_3 ?m_3_2 ?if_13 ?fi_13 ?m_3_10 ?m_4_0 ?if_15 ?fi_15 ?m_4_1 ?sf_4 ?m_4_2 ?if_16 ?fi_16 ?nx14 ?m_4_10 ?ty_0 ?kt_0_NoneType ?kt_0_int ?kt_0_bool ?kt_0_str ?kt_0_tuple ?kt_0_list ?kt_0_dict ?ko_0_0 ?ko_0_1 ?ko_0_2 ?ko_0_3 ?ko_0_4 ?i_GREAT ?b_len ?b_abs ?b_min ?b_max ?b_sorted ?b_int ?b_str ?b_list ?b_tuple ?b_dict ?b_sum ?b_all ?b_isinstance ?b_enumerate ?b_range ?b_zip ?b_set ?b_bool ?b_super own SV.law_true
    (case hC0 => k_is)
    (case hC1 => k_is)
    (case hC2 => k_is)
    (case hC3 => k_is)
    (case hC4 => k_is)
    (case hC20 => k_is)
    (case hC21 => k_is)
    (case hC22 => k_is)
    (case hC23 => k_is)
    (case hC24 => k_is)
    (case hC25 => k_is)
    (case hC26 => k_is)
    (case hC27 => k_is)
    (case hC28 => k_is)
    (case hC29 => k_is)
    (case hC30 => k_is)
    (case xq_21 => k_exc)
    (case xk_21 => k_is)
    (case xb_21 => k_is)
    (case xt_21 => k_is)
    (case xd_20 => k_is)
    (case xt_20 => k_is)
    (case xs_21_20 => k_is)
    (case xs_23_20 => k_is)
    (case xs_26_20 => k_is)
    (case xs_27_20 => k_is)
    (case xs_28_20 => k_is)
    (case xs_29_20 => k_is)
    (case xd_21 => k_is)
    (case xs_21_21 => k_is)
    (case xs_23_21 => k_is)
    (case xs_26_21 => k_is)
    (case xs_27_21 => k_is)
    (case xs_28_21 => k_is)
    (case xs_29_21 => k_is)
    (case xd_22 => k_is)
    (case xt_22 => k_is)
    (case xs_22_22 => k_is)
    (case xs_21_22 => k_is)
    (case xs_23_22 => k_is)
    (case xs_26_22 => k_is)
    (case xs_27_22 => k_is)
    (case xs_28_22 => k_is)
    (case xs_29_22 => k_is)
    (case xd_23 => k_is)
    (case xt_23 => k_is)
    (case xs_21_23 => k_is)
    (case xs_23_23 => k_is)
    (case xs_26_23 => k_is)
    (case xs_27_23 => k_is)
    (case xs_28_23 => k_is)
    (case xs_29_23 => k_is)
    (case xd_24 => k_is)
    (case xt_24 => k_is)
    (case xs_24_24 => k_is)
    (case xs_21_24 => k_is)
    (case xs_23_24 => k_is)
    (case xs_26_24 => k_is)
    (case xs_27_24 => k_is)
    (case xs_28_24 => k_is)
    (case xs_29_24 => k_is)
    (case xd_25 => k_is)
    (case xt_25 => k_is)
    (case xs_25_25 => k_is)
    (case xs_21_25 => k_is)
    (case xs_23_25 => k_is)
    (case xs_26_25 => k_is)
    (case xs_27_25 => k_is)
    (case xs_28_25 => k_is)
    (case xs_29_25 => k_is)
    (case xd_26 => k_is)
    (case xt_26 => k_is)
    (case xs_21_26 => k_is)
    (case xs_23_26 => k_is)
    (case xs_26_26 => k_is)
    (case xs_27_26 => k_is)
    (case xs_28_26 => k_is)
    (case xs_29_26 => k_is)
    (case xd_27 => k_is)
    (case xt_27 => k_is)
    (case xs_21_27 => k_is)
    (case xs_23_27 => k_is)
    (case xs_26_27 => k_is)
    (case xs_27_27 => k_is)
    (case xs_28_27 => k_is)
    (case xs_29_27 => k_is)
    (case xd_28 => k_is)
    (case xt_28 => k_is)
    (case xs_21_28 => k_is)
    (case xs_23_28 => k_is)
    (case xs_26_28 => k_is)
    (case xs_27_28 => k_is)
    (case xs_28_28 => k_is)
    (case xs_29_28 => k_is)
    (case xd_29 => k_is)
    (case xt_29 => k_is)
    (case xs_21_29 => k_is)
    (case xs_23_29 => k_is)
    (case xs_26_29 => k_is)
    (case xs_27_29 => k_is)
    (case xs_28_29 => k_is)
    (case xs_29_29 => k_is)
    (case xd_30 => k_is)
    (case xt_30 => k_is)
    (case xs_30_30 => k_is)
    (case xs_21_30 => k_is)
    (case xs_23_30 => k_is)
    (case xs_26_30 => k_is)
    (case xs_27_30 => k_is)
    (case xs_28_30 => k_is)
    (case xs_29_30 => k_is)
    (case xb_20 => k_is)
    (case xg_21 => k_is)
    (case xh_21 => k_is)
    (case xa_21 => k_is)
    (case xm_21 => k_is)
    (case xv_21 => k_is)
    (case xg_23 => k_is)
    (case xh_23 => k_is)
    (case xb_23 => k_is)
    (case xa_23 => k_is)
    (case xm_23 => k_is)
    (case xv_23 => k_is)
    (case xg_26 => k_is)
    (case xh_26 => k_is)
    (case xb_26 => k_is)
    (case xa_26 => k_is)
    (case xm_26 => k_is)
    (case xv_26 => k_is)
    (case xg_27 => k_is)
    (case xh_27 => k_is)
    (case xb_27 => k_is)
    (case xa_27 => k_is)
    (case xm_27 => k_is)
    (case xv_27 => k_is)
    (case xg_28 => k_is)
    (case xh_28 => k_is)
    (case xb_28 => k_is)
    (case xa_28 => k_is)
    (case xm_28 => k_is)
    (case xv_28 => k_is)
    (case xg_29 => k_is)
    (case xh_29 => k_is)
    (case xb_29 => k_is)
    (case xa_29 => k_is)
    (case xm_29 => k_is)
    (case xv_29 => k_is)
    (case b_ValueError => k_is)
    (case aE => k_is)
    (case lE => k_is)
    (case cE => k_is)
    (case kE => k_is)
    (case a0 => k_is)
    (case l0 => k_is)
    (case c0 => k_is)
    (case k0 => k_is)
    (case a1 => k_is)
    (case l1 => k_is)
    (case c1 => k_is)
    (case k1 => k_is)
    (case a3 => k_is)
    (case l3 => k_is)
    (case c3 => k_is)
    (case k3 => k_is)
    (case a4 => k_is)
    (case l4 => k_is)
    (case c4 => k_is)
    (case k4 => k_is)
    (case a5 => k_is)
    (case l5 => k_is)
    (case c5 => k_is)
    (case k5 => k_is)
    (case a6 => k_is)
    (case l6 => k_is)
    (case c6 => k_is)
    (case k6 => k_is)
    (case a7 => k_is)
    (case r7 => k_is)
    (case pg7 => k_is)
    (case pt7 => k_is)
    (case l7 => k_is)
    (case c7 => k_is)
    (case k7 => k_is)
    (case a8 => k_is)
    (case l8 => k_is)
    (case c8 => k_is)
    (case k8 => k_is)
    (case a9 => k_is)
    (case l9 => k_is)
    (case c9 => k_is)
    (case k9 => k_is)
    (case a10 => k_is)
    (case l10 => k_is)
    (case c10 => k_is)
    (case k10 => k_is)
    (case a11 => k_is)
    (case l11 => k_is)
    (case c11 => k_is)
    (case k11 => k_is)
    (case a12 => k_is)
    (case l12 => k_is)
    (case c12 => k_is)
    (case k12 => k_is)
    (case a13 => k_is)
    (case l13 => k_is)
    (case c13 => k_is)
    (case k13 => k_is)
    (case a14 => k_is)
    (case l14 => k_is)
    (case c14 => k_is)
    (case co14 => k_is)
    (case ve14 => rfl)
    (case fe14 => first | rfl | decide +kernel)
    (case ce14 => k_is)
    (case mr14 => k_is)
    (case ty14 => k_is)
    (case fn14 => k_is)
    (case th14 => k_is)
    (case tp14 => first | rfl | decide +kernel)
    (case k14 => k_is)
    (case a15 => k_is)
    (case l15 => k_is)
    (case c15 => k_is)
    (case k15 => k_is)
    (case a16 => k_is)
    (case l16 => k_is)
    (case c16 => k_is)
    (case k16 => k_is)
    (case a100 => k_is)
    (case l100 => k_is)
    (case c100 => k_is)
    (case k100 => k_is)
    (case a101 => k_is)
    (case l101 => k_is)
    (case c101 => k_is)
    (case k101 => k_is)
    (case a103 => k_is)
    (case l103 => k_is)
    (case c103 => k_is)
    (case k103 => k_is)
    (case a108 => k_is)
    (case l108 => k_is)
    (case c108 => k_is)
    (case k108 => k_is)
    (case a105 => k_is)
    (case l105 => k_is)
    (case c105 => k_is)
    (case k105 => k_is)
    (case a200 => k_is)
    (case l200 => k_is)
    (case c200 => k_is)
    (case co200 => k_is)
    (case tv200 => rfl)
    (case tn200 => first | rfl | kernel_rfl | decide +kernel)
    (case th200 => first | rfl | kernel_rfl | decide +kernel)
    (case k200 => k_is)
    (case pg_0 => k_is)
    (case hd_0 => k_is)
    (case po_0 => k_is)
    (case sa_0 => k_is)
    (case ca_0 => k_is)
    (case mo_0 => k_is)
    (case kb_0_int => k_is)
    (case kb_0_bool => k_is)
    (case kb_0_str => k_is)
    (case kb_0_tuple => k_is)
    (case kb_0_list => k_is)
    (case kb_0_dict => k_is)
    (case pg_1 => k_is)
    (case hd_1 => k_is)
    (case po_1 => k_is)
    (case sa_1 => k_is)
    (case ca_1 => k_is)
    (case mo_1 => k_is)
    (case kb_1_int => k_is)
    (case kb_1_bool => k_is)
    (case kb_1_str => k_is)
    (case kb_1_tuple => k_is)
    (case kb_1_list => k_is)
    (case kb_1_dict => k_is)
    (case pg_2 => k_is)
    (case hd_2 => k_is)
    (case po_2 => k_is)
    (case sa_2 => k_is)
    (case ca_2 => k_is)
    (case mo_2 => k_is)
    (case kb_2_int => k_is)
    (case kb_2_bool => k_is)
    (case kb_2_str => k_is)
    (case kb_2_tuple => k_is)
    (case kb_2_list => k_is)
    (case kb_2_dict => k_is)
    (case pg_3 => k_is)
    (case hd_3 => k_is)
    (case po_3 => k_is)
    (case sa_3 => k_is)
    (case ca_3 => k_is)
    (case mo_3 => k_is)
    (case kb_3_int => k_is)
    (case kb_3_bool => k_is)
    (case kb_3_str => k_is)
    (case kb_3_tuple => k_is)
    (case kb_3_list => k_is)
    (case kb_3_dict => k_is)
    (case pg_4 => k_is)
    (case hd_4 => k_is)
    (case po_4 => k_is)
    (case sa_4 => k_is)
    (case ca_4 => k_is)
    (case mo_4 => k_is)
    (case kb_4_int => k_is)
    (case kb_4_bool => k_is)
    (case kb_4_str => k_is)
    (case kb_4_tuple => k_is)
    (case kb_4_list => k_is)
    (case kb_4_dict => k_is)
    (case sb_0_1 => k_is)
    (case sb_0_2 => k_is)
    (case sb_0_3 => k_is)
    (case sb_0_4 => k_is)
    (case sb_1_0 => k_is)
    (case sb_1_2 => k_is)
    (case sb_1_3 => k_is)
    (case sb_1_4 => k_is)
    (case sb_2_0 => k_is)
    (case sb_2_1 => k_is)
    (case sb_2_3 => k_is)
    (case sb_2_4 => k_is)
    (case sb_3_0 => k_is)
    (case sb_3_1 => k_is)
    (case sb_3_2 => k_is)
    (case sb_3_4 => k_is)
    (case sb_4_0 => k_is)
    (case sb_4_1 => k_is)
    (case sb_4_2 => k_is)
    (case sb_4_3 => k_is)
    (case ne_0 => k_is)
    (case st_0 => k_is)
    (case ne_1 => k_is)
    (case st_1 => k_is)
    (case ne_2 => k_is)
    (case st_2 => k_is)
    (case ne_3 => k_is)
    (case st_3 => k_is)
    (case ne_4 => k_is)
    (case st_4 => k_is)
    (case hn_ => k_is)
    (case ht_ => k_is)
    (case nf_0_0 => k_is)
    (case nf_1_0 => k_is)
    (case nf_2_0 => k_is)
    (case nf_3_0 => k_is)
    (case nf_4_0 => k_is)
    (case nf_4_1 => k_is)
    (case nf_0_2 => k_is)
    (case nf_0_3 => k_is)
    (case nf_0_4 => k_is)
    (case nf_0_5 => k_is)
    (case nf_0_6 => k_is)
    (case nf_0_7 => k_is)
    (case nf_0_8 => k_is)
    (case nf_0_9 => k_is)
    (case nf_0_10 => k_is)
    (case nf_0_11 => k_is)
    (case kc_0 => k_is)
    (case kg_0 => k_is)
    (case kc_1 => k_is)
    (case kg_1 => k_is)
    (case kc_2 => k_is)
    (case kg_2 => k_is)
    (case kc_3 => k_is)
    (case kg_3 => k_is)
    (case kc_4 => k_is)
    (case kg_4 => k_is)
    (case mk_0 => k_is)
    (case in_0 => k_is)
    (case if_3 => k_is)
    (case kp_0 => k_is)
    (case mk_1 => k_is)
    (case in_1 => k_is)
    (case kp_1 => k_is)
    (case mk_2 => k_is)
    (case in_2 => k_is)
    (case kp_2 => k_is)
    (case mk_3 => k_is)
    (case in_3 => k_is)
    (case kp_3 => k_is)
    (case mk_4 => k_is)
    (case in_4 => k_is)
    (case if_14 => k_is)
    (case kp_4 => k_is)
    (case m_0_0 => k_is)
    (case if_4 => k_is)
    (case fi_4 => k_is)
    (case m_0_1 => k_is)
    (case if_5 => k_is)
    (case fi_5 => k_is)
    (case sf_0 => k_is)
    (case m_0_2 => k_is)
    (case if_6 => k_is)
    (case fi_6 => k_is)
    (case m_0_10 => k_is)
    (case m_1_0 => k_is)
    (case if_8 => k_is)
    (case fi_8 => k_is)
    (case m_1_1 => k_is)
    (case sf_1 => k_is)
    (case m_1_2 => k_is)
    (case if_9 => k_is)
    (case fi_9 => k_is)
    (case m_1_10 => k_is)
    (case m_2_0 => k_is)
    (case if_10 => k_is)
    (case fi_10 => k_is)
    (case m_2_1 => k_is)
    (case sf_2 => k_is)
    (case m_2_2 => k_is)
    (case if_11 => k_is)
    (case fi_11 => k_is)
    (case m_2_10 => k_is)
    (case m_3_0 => k_is)
    (case if_12 => k_is)
    (case fi_12 => k_is)
    (case m_3_1 => k_is)
    (case sf_3 => k_is)
    (case m_3_2 => k_is)
    (case if_13 => k_is)
    (case fi_13 => k_is)
    (case m_3_10 => k_is)
    (case m_4_0 => k_is)
    (case if_15 => k_is)
    (case fi_15 => k_is)
    (case m_4_1 => k_is)
    (case sf_4 => k_is)
    (case m_4_2 => k_is)
    (case if_16 => k_is)
    (case fi_16 => k_is)
    (case nx14 => ks_is)
    (case m_4_10 => k_is)
    (case ty_0 => k_is)
    (case kt_0_NoneType => k_is)
    (case kt_0_int => k_is)
    (case kt_0_bool => k_is)
    (case kt_0_str => k_is)
    (case kt_0_tuple => k_is)
    (case kt_0_list => k_is)
    (case kt_0_dict => k_is)
    (case ko_0_0 => k_is)
    (case ko_0_1 => k_is)
    (case ko_0_2 => k_is)
    (case ko_0_3 => k_is)
    (case ko_0_4 => k_is)
    (case i_GREAT => k_is)
    (case b_len => k_is)
    (case b_abs => k_is)
    (case b_min => k_is)
    (case b_max => k_is)
    (case b_sorted => k_is)
    (case b_int => k_is)
    (case b_str => k_is)
    (case b_list => k_is)
    (case b_tuple => k_is)
    (case b_dict => k_is)
    (case b_sum => k_is)
    (case b_all => k_is)
    (case b_isinstance => k_is)
    (case b_enumerate => k_is)
    (case b_range => k_is)
    (case b_zip => k_is)
    (case b_set => k_is)
    (case b_bool => k_is)
    (case b_super => k_is)
