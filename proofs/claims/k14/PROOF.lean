import PyProof.Rows.All
import Wide.All
import OpenK.AllK
import Wide.FinOn
import HandS.ForMost
import HandS.Walk
import HandS.Zip
import HandS.TupAny
import KE.SortData
import KE.KTupSum
import KE.DataMinMax
import KE.DataAny
import KE.DataIsa
import KE.DataCmp
import HandS.TupMul
import PyProof.StrOps2
import HandS.Flow
import PyProof.SeqIndex
import PyProof.ListStr
import PyProof.TupleOfStr
import KE.GoesEnum
import KE.GoesZip
import KE.GoesMore
import HandS.ForExc
import HandS.ExcOwn
import HandS.WordsExc
import HandS.TryOnly
import KE.DataFind
import HandS.Style
import KE.KRevSl
import PyProof.Rows.StrRev
import HandS.Conv
import HandS.Iter
import HandS.Strs
import HandS.SetFor
import KE.KDictZip
import PyProof.ListNew
import PyProof.Rows.ListAppend
import KE.KDictPairs
import PySem.Challenge.RW_truthtold_k14_whole_flat_functions_by_or
set_option Elab.async false
set_option linter.all false
set_option maxRecDepth 100000
/-! MirA: what Python's operations give, over data in plain Lean: a small monad (draws, exceptions), operators, loops. -/
namespace Mir
open PySem PySem.W

abbrev D := PyData
structure Exc where
  cls : Str
  val : Option D
/-- the two numbers of the drawing cup -/
abbrev Cup := Int × Int
inductive Res (α : Type) where
  | ok (a : α) (c : Cup)
  | exc (e : Exc) (c : Cup)
  | bad
def M (α : Type) := Cup → Res α
namespace M
variable {α β : Type}
protected def pure (a : α) : M α := fun c => .ok a c
protected def bind (m : M α) (f : α → M β) : M β := fun c =>
  match m c with
  | .ok a c' => f a c'
  | .exc e c' => .exc e c'
  | .bad => .bad
end M
instance : Monad M where
  pure := M.pure
  bind := M.bind
theorem M.ext {α : Type} {m n : M α} (h : ∀ c, m c = n c) : m = n := funext h
instance : LawfulMonad M := LawfulMonad.mk' M
  (id_map := fun x => M.ext fun c => by
    show M.bind x _ c = x c
    unfold M.bind
    cases x c <;> rfl)
  (pure_bind := fun _ _ => rfl)
  (bind_assoc := fun x f g => M.ext fun c => by
    show M.bind (M.bind x f) g c = M.bind x (fun a => M.bind (f a) g) c
    unfold M.bind
    cases x c <;> rfl)
def bad {α : Type} : M α := fun _ => .bad
def lft {α : Type} : Option α → M α
  | some a => pure a
  | none => bad
def raise {α : Type} (e : Exc) : M α := fun c => .exc e c

/-- the longest list, tuple, text that is let -/
abbrev lim : Nat := 16777216
abbrev O1 := D → Option D
abbrev O2 := D → D → Option D
def un1 (g : O1) (ma : M D) : M D := do
  let x ← ma
  lft (g x)
def bin (g : O2) (ma mb : M D) : M D := do
  let x ← ma
  let y ← mb
  lft (g x y)

/-! ### operators -/
def dAdd : O2
  | .int i, .int j => some (.int (i + j))
  | .str x, .str y => if x.length + y.length ≤ lim then some (.str (x ++ y)) else none
  | .list xs, .list ys => if xs.length + ys.length ≤ lim then some (.list (xs ++ ys)) else none
  | .tuple xs, .tuple ys => if xs.length + ys.length ≤ lim then some (.tuple (xs ++ ys)) else none
  | _, _ => none
def dSub : O2
  | .int i, .int j => some (.int (i - j))
  | _, _ => none
/-- below 2 ^ 64 in size -/
def sm64 (i : Int) : Bool := decide (i.natAbs < 18446744073709551616)
/-- a text, said many times -/
def repS (z : Str) (k : Int) : Str := if k < 1 then Str.empty else if (k == 1 || z.length == 0) = true then z else ⟨(List.replicate k.toNat z.cps).foldl (· ++ ·) #[]⟩
def dMul : O2
  | .int i, .int j => if sm64 i || sm64 j then some (.int (i * j)) else none
  | .tuple xs, .int k => if decide (-1000000 ≤ k) && decide (k ≤ 1000) && decide (xs.length ≤ 1000) then some (.tuple (List.replicate k.toNat xs).flatten) else none
  | .str z, .int k => if decide (-1000000 ≤ k) && decide (k ≤ 1000) && decide (z.length ≤ 1000) then some (.str (repS z k)) else none
  | _, _ => none
def dFdiv : O2
  | .int i, .int j => if decide (j ≠ 0) && decide (j.natAbs < 1073741824) then some (.int (i.fdiv j)) else none
  | _, _ => none
def dMod : O2
  | .int i, .int j => if j = 0 then none else some (.int (i.fmod j))
  | _, _ => none
def dPow : O2
  | .int i, .int j => if decide (0 ≤ j) && decide (j ≤ 1000000) && sm64 i then some (.int (i ^ j.toNat)) else none
  | _, _ => none
def dShl : O2
  | .int i, .int j => if decide (0 ≤ j) && decide (j ≤ 1000000) && sm64 i then some (.int (i * 2 ^ j.toNat)) else none
  | _, _ => none
def dShr : O2
  | .int i, .int j => if 0 ≤ j then some (.int (i / 2 ^ j.toNat)) else none
  | _, _ => none
def dBand : O2
  | .int i, .int j => some (.int (Builtin.bitAnd i j))
  | _, _ => none
def dBor : O2
  | .int i, .int j => some (.int (Builtin.bitOr i j))
  | _, _ => none
def dBxor : O2
  | .int i, .int j => some (.int (Builtin.bitXor i j))
  | _, _ => none
def dNeg : O1
  | .int i => some (.int (-i))
  | _ => none
/-! ### comparisons -/
def dEq : O2 := fun d e => if min d.depth e.depth ≤ 60 then some (.bool (PyData.eqv d e)) else none
def dNe : O2 := fun d e => if min d.depth e.depth ≤ 60 then some (.bool (!PyData.eqv d e)) else none
def cmpOk (d e : D) : Bool := alike d e && (match d with | .none => false | _ => true) && decide (min d.depth e.depth ≤ 60)
def dLt : O2 := fun d e => if cmpOk d e then some (.bool (dataLt d e)) else none
def dGt : O2 := fun d e => if cmpOk d e then some (.bool (dataLt e d)) else none
def dLe : O2 := fun d e => if cmpOk d e then some (.bool (!dataLt e d)) else none
def dGe : O2 := fun d e => if cmpOk d e then some (.bool (!dataLt d e)) else none
/-- x in y -/
def inB (x : D) : D → Option Bool
  | .list ys => if min (PyData.depthAll ys) x.depth ≤ 60 then some (ys.any fun y => PyData.eqv y x) else none
  | .tuple ys => if min (PyData.depthAll ys) x.depth ≤ 60 then some (ys.any fun y => PyData.eqv y x) else none
  | .str z => match x with
    | .str w => (match w.cps.toList with
      | [c] => some (decide (c ∈ z.cps.toList))
      | _ => some (!(Builtin.Str.occurrences z w 0 z.length 1).isEmpty))
    | _ => none
  | _ => none
def dIn : O2 := fun x y => (inB x y).map .bool
def dNotIn : O2 := fun x y => (inB x y).map fun b => .bool (!b)
def dIsN : O1
  | .none => some (.bool true)
  | _ => some (.bool false)
def dNotN : O1
  | .none => some (.bool false)
  | _ => some (.bool true)
/-- a value's truth -/
def dTru : D → Option Bool
  | .str x => if x.length ≤ lim then some ((x.length : Int) != 0) else none
  | .dict _ => none
  | d => some d.truthy
def truth (m : M D) : M Bool := do
  let d ← m
  lft (dTru d)
def notV (m : M D) : M D := do
  let b ← truth m
  pure (.bool (!b))
def notT (m : M Bool) : M Bool := do
  let b ← m
  pure (!b)
def andV (ma mb : M D) : M D := do
  let x ← ma
  let b ← lft (dTru x)
  if b then mb else pure x
def orV (ma mb : M D) : M D := do
  let x ← ma
  let b ← lft (dTru x)
  if b then pure x else mb
def andT (ma mb : M Bool) : M Bool := do
  let b ← ma
  if b then mb else pure false
def orT (ma mb : M Bool) : M Bool := do
  let b ← ma
  if b then pure true else mb
def ifM {α : Type} (mt : M Bool) (ma mb : M α) : M α := do
  let b ← mt
  if b then ma else mb
/-- a op b op c -/
def chn (g1 g2 : O2) (ma mb mc : M D) : M D := do
  let x ← ma
  let y ← mb
  let r ← lft (g1 x y)
  match r with
  | .bool true => do
    let z ← mc
    lft (g2 y z)
  | .bool false => pure (.bool false)
  | _ => bad
/-- several, from the left -/
def seqM : List (M D) → M (List D)
  | [] => pure []
  | m :: r => do
    let x ← m
    let xs ← seqM r
    pure (x :: xs)
def tupM (ms : List (M D)) : M D := do
  let xs ← seqM ms
  pure (.tuple xs)
def lstM (m : M (List D)) : M D := do
  let xs ← m
  pure (.list xs)
def callM {α : Type} (f : List D → M α) (ms : List (M D)) : M α := do
  let xs ← seqM ms
  f xs
/-! ### places, slices, length -/
/-- an index as a place among n -/
def ixN (n : Nat) (i : Int) : Option Nat := if 0 ≤ i then (if i < n then some i.toNat else none) else if -(n : Int) ≤ i then some (i + n).toNat else none
def atI {α : Type} (xs : List α) (i : Int) : Option α := (ixN xs.length i).bind fun j => xs[j]?
def dIx : O2
  | .list xs, .int i => atI xs i
  | .tuple xs, .int i => atI xs i
  | .str z, .int i => if z.length ≤ lim then (atI z.cps.toList i).map fun c => .str ⟨#[c]⟩ else none
  | _, _ => none
def sIx (n d : Nat) : Option Int → Nat
  | none => d
  | some i => if i < 0 then (i + n).toNat else min i.toNat n
def cutL {α : Type} (xs : List α) (lo hi : Option Int) : List α := (xs.drop (sIx xs.length 0 lo)).take (sIx xs.length xs.length hi - sIx xs.length 0 lo)
def dSl (d : D) (lo hi : Option Int) : Option D :=
  match d with
  | .list xs => some (.list (cutL xs lo hi))
  | .tuple xs => some (.tuple (cutL xs lo hi))
  | .str z => if z.length ≤ lim then some (.str ⟨(cutL z.cps.toList lo hi).toArray⟩) else none
  | _ => none
def dLen : O1
  | .list xs => some (.int xs.length)
  | .tuple xs => some (.int xs.length)
  | .str z => if z.length ≤ lim then some (.int z.length) else none
  | _ => none
def optI (m : M D) : M (Option Int) := do
  let x ← m
  match x with
  | .int i => pure (some i)
  | _ => bad
def slc (m : M D) (lo hi : M (Option Int)) : M D := do
  let d ← m
  let l ← lo
  let h ← hi
  lft (dSl d l h)
/-! ### built-in calls -/
def dAbs : O1
  | .int i => some (.int (if i < 0 then -i else i))
  | _ => none
def dInt : O1
  | .int i => some (.int i)
  | .bool b => some (.int (if b then 1 else 0))
  | .str z => if z.length ≤ 640 then (PySem.intText? z).map .int else none
  | _ => none
def dStr : O1
  | .int i => if i.natAbs.log2 < 1920 then some (.str (toString i)) else none
  | _ => none
/-- the items that are walked -/
def dItems : D → Option (List D)
  | .list xs => some xs
  | .tuple xs => some xs
  | .str z => if z.length ≤ lim then some (z.cps.toList.map fun c => .str ⟨#[c]⟩) else none
  | _ => none
def dTuple : O1
  | .list xs => some (.tuple xs)
  | .tuple xs => some (.tuple xs)
  | .str z => if z.length ≤ lim then some (.tuple (z.cps.toList.map fun c => .str ⟨#[c]⟩)) else none
  | _ => none
def intsOf : List D → Option (List Int)
  | [] => some []
  | .int i :: r => (intsOf r).map (i :: ·)
  | _ :: _ => none
def strsOf : List D → Option (List Str)
  | [] => some []
  | .str i :: r => (strsOf r).map (i :: ·)
  | _ :: _ => none
def dSum : O1
  | .list xs => (intsOf xs).map fun ns => .int ns.sum
  | .tuple xs => (intsOf xs).map fun ns => .int ns.sum
  | _ => none
/-- all are alike with each other, none is None -/
def alikeB (xs : List D) : Bool := xs.all fun x => (xs.all fun y => alike x y) && (match x with | .none => false | _ => true)
def seqOf : D → Option (List D)
  | .list xs => some xs
  | .tuple xs => some xs
  | _ => none
def mxD : D → List D → D := fun x xs => xs.foldl (fun a y => if dataLt a y then y else a) x
def mnD : D → List D → D := fun x xs => xs.foldl (fun a y => if dataLt y a then y else a) x
def dMax : O1 := fun d => match seqOf d with
  | some (x :: xs) => if alikeB (x :: xs) && decide (PyData.depthAll (x :: xs) ≤ 60) then some (mxD x xs) else none
  | _ => none
def dMin : O1 := fun d => match seqOf d with
  | some (x :: xs) => if alikeB (x :: xs) && decide (PyData.depthAll (x :: xs) ≤ 60) then some (mnD x xs) else none
  | _ => none
def dMax2 : O2
  | .int i, .int j => some (.int (if j > i then j else i))
  | _, _ => none
def dMin2 : O2
  | .int i, .int j => some (.int (if j < i then j else i))
  | _, _ => none
def truAll : List D → Option (List Bool)
  | [] => some []
  | d :: r => match dTru d, truAll r with
    | some b, some bs => some (b :: bs)
    | _, _ => none
def dAll : O1 := fun d => match seqOf d with
  | some xs => (truAll xs).map fun bs => .bool (bs.all id)
  | _ => none
def dAny : O1 := fun d => match seqOf d with
  | some xs => (truAll xs).map fun bs => .bool (bs.any id)
  | _ => none
/-- the built-in classes that are asked for -/
inductive Ty | int | bool | str | list | tuple
def Ty.has : Ty → D → Bool
  | .int, .int _ => true
  | .int, .bool _ => true
  | .bool, .bool _ => true
  | .str, .str _ => true
  | .list, .list _ => true
  | .tuple, .tuple _ => true
  | _, _ => false
def dIsi (t : Ty) : O1 := fun d => some (.bool (t.has d))
/-- x.index(y), found -/
def dIndex : O2 := fun d y => match seqOf d with
  | some xs => if min (PyData.depthAll xs) y.depth ≤ 60 then (xs.findIdx? fun x => PyData.eqv x y).map fun j => .int j else none
  | none => none
def dCount : O2 := fun d y => match seqOf d with
  | some xs => if min (PyData.depthAll xs) y.depth ≤ 60 then some (.int (xs.countP fun x => PyData.eqv x y)) else none
  | none => none
def dJoin : O2 := fun d e => match d, seqOf e with
  | .str s, some xs => match strsOf xs with
    | some ys => if (ys.map (·.length)).sum + ys.length * s.length ≤ lim then some (.str (Str.join s ys)) else none
    | none => none
  | _, _ => none
/-- sep.join(xs) -/
def joinM (ma mb : M D) : M D := do
  let x ← ma
  match x with
  | .str s => do
    let y ← mb
    lft (dJoin (.str s) y)
  | _ => bad
/-- sorting -/
def leD (x y : D) : Bool := !dataLt y x
def ins (x : D) : List D → List D
  | [] => [x]
  | y :: r => if leD x y then x :: y :: r else y :: ins x r
def isort : List D → List D
  | [] => []
  | x :: r => ins x (isort r)
def sortOk (xs : List D) : Bool := xs.all (fun x => xs.all fun y => alike x y) && decide (PyData.depthAll xs ≤ 60) &&
  (xs.all (fun x => match x with | .tuple (_ :: _) => true | _ => false) || xs.all (fun x => match x with | .none => false | .tuple _ => false | _ => true) ||
    (decide (xs.length ≤ 1) && xs.all (fun x => match x with | .none => false | _ => true)))
def dSorted (d : D) : Option (List D) := match seqOf d with
  | some xs => if sortOk xs then some (isort xs) else none
  | none => none

/-! ### walks, comprehensions, loops -/
def rng (lo : Int) (n : Nat) : List D := (List.range n).map fun (i : Nat) => .int (lo + i)
def dRange1 : D → Option (List D)
  | .int j => if decide (-(2 ^ 62) ≤ j) && decide (j < 2 ^ 62) && decide (j.toNat ≤ lim) then some (rng 0 j.toNat) else none
  | _ => none
def dRange2 : D → D → Option (List D)
  | .int i, .int j => if decide (-(2 ^ 62) ≤ i) && decide (i < 2 ^ 62) && decide (-(2 ^ 62) ≤ j) && decide (j < 2 ^ 62) && decide ((j - i).toNat ≤ lim) then some (rng i (j - i).toNat) else none
  | _, _ => none
def zip2 (xs ys : List D) : List D := List.zipWith (fun x y => .tuple [x, y]) xs ys
def enumFrom (n : Nat) : List D → List D
  | [] => []
  | x :: r => .tuple [.int n, x] :: enumFrom (n + 1) r
def enum (xs : List D) : List D := enumFrom 0 xs

/-- what raises is not let -/
def nex {α : Type} (m : M α) : M α := fun c => match m c with
  | .ok a c' => .ok a c'
  | .exc _ _ => .bad
  | .bad => .bad
def mapC (f : D → M D) : List D → M (List D)
  | [] => pure []
  | x :: r => do
    let y ← nex (f x)
    let ys ← mapC f r
    pure (y :: ys)
/-- [f x for x in .. if p x] by one step: none is left out -/
def filtC (f : D → M (Option D)) : List D → M (List D)
  | [] => pure []
  | x :: r => do
    let o ← nex (f x)
    let ys ← filtC f r
    pure (match o with
      | some y => y :: ys
      | none => ys)
/-- the step of a test and an item -/
def whn (p : M Bool) (m : M D) : M (Option D) := do
  let b ← p
  if b then do
    let y ← m
    pure (some y)
  else pure none
/-- a loop without return or break -/
def forS {τ : Type} (f : D → τ → M τ) : List D → τ → M τ
  | [], t => pure t
  | x :: r, t => do
    let t' ← f x t
    forS f r t'
/-- how a loop's turn ends -/
inductive Out (τ : Type) where
  | nxt (t : τ)
  | brk (t : τ)
  | ret (d : D)
def forO {τ : Type} (f : D → τ → M (Out τ)) : List D → τ → M (Out τ)
  | [], t => pure (.nxt t)
  | x :: r, t => do
    match ← f x t with
    | .nxt t' => forO f r t'
    | .brk t' => pure (.nxt t')
    | .ret d => pure (.ret d)
def whileO {τ : Type} (c : τ → M Bool) (f : τ → M (Out τ)) : Nat → τ → M (Out τ)
  | 0, _ => bad
  | n + 1, t => do
    if ← c t then
      match ← f t with
      | .nxt t' => whileO c f n t'
      | .brk t' => pure (.nxt t')
      | .ret d => pure (.ret d)
    else pure (.nxt t)
def whileS {τ : Type} (c : τ → M Bool) (f : τ → M τ) : Nat → τ → M τ
  | 0, _ => bad
  | n + 1, t => do
    if ← c t then
      let t' ← f t
      whileS c f n t'
    else pure t
/-- a, b = .. -/
def par2 : D → Option (D × D)
  | .tuple [a, b] => some (a, b)
  | _ => none
def par3 : D → Option (D × D × D)
  | .tuple [a, b, c] => some (a, b, c)
  | _ => none
def dZip (x y : D) : Option (List D) := match dItems x, dItems y with
  | some xs, some ys => some (zip2 xs ys)
  | _, _ => none
def dEnum (x : D) : Option (List D) := (dItems x).map enum
end Mir

set_option maxRecDepth 100000
namespace Mir
open PySem PySem.Spec PyProof.Rows L2

/-! ### weakest ends of a mirror run -/
def Wp {α : Type} (r : Res α) (Q : α → Cup → Prop) (E : Exc → Cup → Prop) : Prop := match r with
  | .ok a c => Q a c
  | .exc e c => E e c
  | .bad => False
theorem Wp.mono {α : Type} {r : Res α} {Q Q' : α → Cup → Prop} {E E' : Exc → Cup → Prop} (h : Wp r Q E) (hQ : ∀ a c, Q a c → Q' a c) (hE : ∀ e c, E e c → E' e c) : Wp r Q' E' := by
  cases r with
  | ok a c => exact hQ _ _ h
  | exc e c => exact hE _ _ h
  | bad => exact h
theorem Wp_bind {α β : Type} {m : M α} {f : α → M β} {c : Cup} {Q : β → Cup → Prop} {E : Exc → Cup → Prop} : Wp ((m >>= f) c) Q E ↔ Wp (m c) (fun a c' => Wp (f a c') Q E) E := by
  show Wp (M.bind m f c) Q E ↔ _
  unfold M.bind
  cases m c <;> exact Iff.rfl
theorem Wp_pure {α : Type} {a : α} {c : Cup} {Q : α → Cup → Prop} {E : Exc → Cup → Prop} : Wp ((pure a : M α) c) Q E ↔ Q a c := Iff.rfl
theorem Wp_lft {α : Type} {o : Option α} {c : Cup} {Q : α → Cup → Prop} {E : Exc → Cup → Prop} (h : Wp (lft o c) Q E) : ∃ a, o = some a ∧ Q a c := by
  cases o with
  | some a => exact ⟨a, rfl, h⟩
  | none => exact h.elim

end Mir
namespace L2
open PySem PySem.Spec PyProof.Rows Mir
/-! ### data over a heap that only grows -/
theorem SqL.sameM {K : PySem.W.Frag} {F F' : Hp} {a : Addr} {xs : List V} (s : Same F F') (h : SqL K F a xs) : SqL K F' a xs := s.seq h
theorem SqT.sameM {K : PySem.W.Frag} {F F' : Hp} {a : Addr} {xs : List V} (s : Same F F') (h : SqT K F a xs) : SqT K F' a xs := by
  rcases h with (h | ⟨o, h⟩) | h
  · exact .inl (.inl (s _ _ h))
  · exact .inl (.inr ⟨o, s _ _ h⟩)
  · exact .inr h
mutual
theorem Dp.sameM {K : PySem.W.Frag} {F F' : Hp} (s : Same F F') : ∀ (d : D) (v : V), Dp K F v d → Dp K F' v d
  | .none, _, h => by cases h; exact .non
  | .bool _, _, h => by cases h; exact .bl _
  | .int _, _, h => by cases h; exact .int _
  | .str _, _, h => by cases h; exact .str _
  | .list ds, _, h => by
    cases h with
    | lst h1 h2 => exact .lst (s.seq h1) (DpAll.sameM s ds _ h2)
  | .tuple ds, _, h => by
    cases h with
    | tup h1 h2 => exact .tup (SqT.sameM s h1) (DpAll.sameM s ds _ h2)
  | .dict _, _, h => by cases h
theorem DpAll.sameM {K : PySem.W.Frag} {F F' : Hp} (s : Same F F') : ∀ (ds : List D) (vs : List V), DpAll K F vs ds → DpAll K F' vs ds
  | [], _, h => by cases h; exact .nil
  | d :: ds, _, h => by
    cases h with
    | cons h1 h2 => exact .cons (Dp.sameM s d _ h1) (DpAll.sameM s ds _ h2)
end
theorem DpAll.lenM {K : PySem.W.Frag} {F : Hp} : ∀ {ds : List D} {vs : List V}, DpAll K F vs ds → vs.length = ds.length
  | [], _, h => by cases h; rfl
  | _ :: _, _, h => by
    cases h with
    | cons _ h2 => simp [DpAll.lenM h2]
theorem DpAll.getM {K : PySem.W.Frag} {F : Hp} : ∀ {ds : List D} {vs : List V} {i : Nat} {v : V}, DpAll K F vs ds → vs[i]? = some v → ∃ d, ds[i]? = some d ∧ Dp K F v d
  | [], _, _, _, h, e => by cases h; simp at e
  | d :: ds, _, i, v, h, e => by
    cases h with
    | cons h1 h2 =>
      cases i with
      | zero =>
        have e' := Option.some.inj (show some _ = some v from e)
        subst e'
        exact ⟨d, rfl, h1⟩
      | succ i => exact DpAll.getM (i := i) h2 (by simpa using e)
theorem DpAll.getDM {K : PySem.W.Frag} {F : Hp} {ds : List D} {vs : List V} {i : Nat} {d : D} (h : DpAll K F vs ds) (e : ds[i]? = some d) : ∃ v, vs[i]? = some v ∧ Dp K F v d := by
  have hl := h.lenM
  have hi : i < ds.length := (List.getElem?_eq_some_iff.mp e).1
  have hv : i < vs.length := by omega
  obtain ⟨d', e', p⟩ := h.getM (List.getElem?_eq_getElem hv)
  rw [e] at e'
  cases e'
  exact ⟨_, List.getElem?_eq_getElem hv, p⟩
theorem DpAll.appM {K : PySem.W.Frag} {F : Hp} : ∀ {ds es : List D} {vs us : List V}, DpAll K F vs ds → DpAll K F us es → DpAll K F (vs ++ us) (ds ++ es)
  | [], _, _, _, h, h' => by cases h; exact h'
  | _ :: _, _, _, _, h, h' => by
    cases h with
    | cons h1 h2 => exact .cons h1 (DpAll.appM h2 h')
theorem DpAll.takeM {K : PySem.W.Frag} {F : Hp} : ∀ {ds : List D} {vs : List V} (n : Nat), DpAll K F vs ds → DpAll K F (vs.take n) (ds.take n)
  | _, _, 0, _ => .nil
  | _, _, _ + 1, .nil => .nil
  | _, _, n + 1, .cons h t => .cons h (DpAll.takeM n t)
theorem DpAll.dropM {K : PySem.W.Frag} {F : Hp} : ∀ {ds : List D} {vs : List V} (n : Nat), DpAll K F vs ds → DpAll K F (vs.drop n) (ds.drop n)
  | _, _, 0, h => h
  | _, _, _ + 1, .nil => .nil
  | _, _, n + 1, .cons _ t => DpAll.dropM n t
mutual
theorem Dp.plainM {K : PySem.W.Frag} {F : Hp} : ∀ (d : D) (v : V), Dp K F v d → d.plain = true
  | .none, _, _ => rfl
  | .bool _, _, _ => rfl
  | .int _, _, _ => rfl
  | .str _, _, _ => rfl
  | .list ds, _, h => by
    cases h with
    | lst _ h2 => rw [PyData.plain]; exact DpAll.plainM ds _ h2
  | .tuple ds, _, h => by
    cases h with
    | tup _ h2 => rw [PyData.plain]; exact DpAll.plainM ds _ h2
  | .dict _, _, h => by cases h
theorem DpAll.plainM {K : PySem.W.Frag} {F : Hp} : ∀ (ds : List D) (vs : List V), DpAll K F vs ds → PyData.plainAll ds = true
  | [], _, _ => rfl
  | d :: ds, _, h => by
    cases h with
    | cons h1 h2 => rw [PyData.plainAll, Dp.plainM d _ h1, DpAll.plainM ds _ h2]; rfl
end

end L2
namespace Mir
open PySem PySem.Spec PyProof.Rows L2
/-! ### the state: F what is frozen (data), H what is tracked, A the drawing cup's address -/
structure Frz (F H : Hp) : Prop where
  sub : Same F H
  nt : ∀ a ps, F a ≠ some (.tbl ps)
structure Ext (A : Option Addr) (F H F' H' : Hp) : Prop where
  f : Same F F'
  h : ∀ a o, H a = some o → A ≠ some a → (∀ ps, o ≠ .tbl ps) → H' a = some o
  n : ∀ a o, F' a = some o → F a = some o ∨ H a = none
  d : ∀ a, H' a = none → H a = none
theorem Ext.refl {A : Option Addr} {F H : Hp} : Ext A F H F H := ⟨Same.refl F, fun _ _ h _ _ => h, fun _ _ h => .inl h, fun _ h => h⟩
theorem Ext.trans {A : Option Addr} {F H F1 H1 F2 H2 : Hp} (a : Ext A F H F1 H1) (b : Ext A F1 H1 F2 H2) : Ext A F H F2 H2 :=
  ⟨a.f.trans b.f, fun c o h n t => b.h c o (a.h c o h n t) n t, fun c o h => (b.n c o h).elim (fun q => a.n c o q) (fun q => .inr (a.d c q)), fun c h => a.d c (b.d c h)⟩
theorem Ext.to {A : Option Addr} {F H F' H' : Hp} (a : Ext none F H F' H') : Ext A F H F' H' := ⟨a.f, fun c o h _ t => a.h c o h (fun z => nomatch z) t, a.n, a.d⟩
structure Wd (A : Option Addr) (c : Cup) (F H : Hp) : Prop where
  frz : Frz F H
  cup : ∀ a, A = some a → F a = none ∧ H a = some (.lst [.int c.1, .int c.2])
theorem Wd.ext {A : Option Addr} {c : Cup} {F H F' H' : Hp} (w : Wd A c F H) (e : Ext none F H F' H') (z : Frz F' H') : Wd A c F' H' := by
  refine ⟨z, fun a ha => ?_⟩
  obtain ⟨h1, h2⟩ := w.cup a ha
  refine ⟨?_, e.h a _ h2 (fun z => nomatch z) (fun ps z => nomatch z)⟩
  cases q : F' a with
  | none => rfl
  | some o =>
    rcases e.n a o q with h | h
    · rw [h1] at h; cases h
    · rw [h2] at h; cases h
/-- a new object, frozen at once -/
theorem Ext.new {F H : Hp} {p : Addr} {o : HO} (z : Frz F H) (h : H p = none) : Ext none F H (upd F p o) (upd H p o) := by
  have hF : F p = none := Same.free z.sub h
  refine ⟨fun b u e => ?_, fun b u e _ _ => ?_, fun b u e => ?_, fun b e => ?_⟩
  · rw [upd_ne (ne_of_none e hF)]; exact e
  · rw [upd_ne (ne_of_none e h)]; exact e
  · by_cases hb : b = p
    · exact .inr (hb ▸ h)
    · rw [upd_ne hb] at e; exact .inl e
  · by_cases hb : b = p
    · rw [hb, upd_same] at e; cases e
    · rw [upd_ne hb] at e; exact e
theorem Frz.new {F H : Hp} {p : Addr} {o : HO} (z : Frz F H) (ho : ∀ ps, o ≠ .tbl ps) : Frz (upd F p o) (upd H p o) := by
  refine ⟨fun b u e => ?_, fun b ps e => ?_⟩
  · by_cases hb : b = p
    · rw [hb, upd_same] at e ⊢; exact e
    · rw [upd_ne hb] at e ⊢; exact z.sub b u e
  · by_cases hb : b = p
    · rw [hb, upd_same] at e; exact ho ps (Option.some.inj e)
    · rw [upd_ne hb] at e; exact z.nt b ps e
/-- a new object, not frozen -/
theorem Ext.new' {F H : Hp} {p : Addr} {o : HO} (h : H p = none) : Ext none F H F (upd H p o) := by
  refine ⟨Same.refl F, fun b u e _ _ => ?_, fun b u e => .inl e, fun b e => ?_⟩
  · rw [upd_ne (ne_of_none e h)]; exact e
  · by_cases hb : b = p
    · rw [hb, upd_same] at e; cases e
    · rw [upd_ne hb] at e; exact e
theorem Frz.new' {F H : Hp} {p : Addr} {o : HO} (z : Frz F H) (h : H p = none) : Frz F (upd H p o) :=
  ⟨fun b u e => by rw [upd_ne (ne_of_none (z.sub b u e) h)]; exact z.sub b u e, z.nt⟩

/-! ### slots -/
inductive Sl where
  /-- not known -/
  | un
  /-- data -/
  | val (d : D)
  /-- a list of the def's own, that may change -/
  | own (xs : List D)
  /-- the drawing cup -/
  | cup
  /-- what is frozen, of any other kind, by what is true of it -/
  | kn (φ : Hp → V → Prop)
def SlotR (K : PySem.W.Frag) (A : Option Addr) (B F H : Hp) : Sl → Option V → Prop
  | .un, _ => True
  | .val d, o => ∃ v, o = some v ∧ Dp K F v d
  | .own xs, o => ∃ p vs, o = some (.ref p) ∧ B p = none ∧ F p = none ∧ A ≠ some p ∧ H p = some (.lst vs) ∧ DpAll K F vs xs
  | .cup, o => ∃ a, A = some a ∧ o = some (.ref a)
  | .kn φ, o => ∃ v, o = some v ∧ ∀ F', Same F F' → φ F' v
structure Slots (K : PySem.W.Frag) (A : Option Addr) (B F H : Hp) (ρ : List Sl) (σ : L2.St) : Prop where
  len : ρ.length = σ.length
  at_ : ∀ (i : Nat) (sl : Sl) (o : Option V), ρ[i]? = some sl → σ[i]? = some o → SlotR K A B F H sl o
  apart : ∀ (i j : Nat) (xs ys : List D) (p : Addr), ρ[i]? = some (.own xs) → ρ[j]? = some (.own ys) → σ[i]? = some (some (.ref p)) → σ[j]? = some (some (.ref p)) → i = j
theorem Slots.ext {K : PySem.W.Frag} {A : Option Addr} {B F H F' H' : Hp} {ρ : List Sl} {σ : L2.St} (s : Slots K A B F H ρ σ) (e : Ext A F H F' H') : Slots K A B F' H' ρ σ := by
  refine ⟨s.len, fun i sl o h1 h2 => ?_, s.apart⟩
  have q := s.at_ i sl o h1 h2
  cases sl with
  | un => trivial
  | val d =>
    obtain ⟨v, e1, e2⟩ := q
    exact ⟨v, e1, Dp.sameM e.f d v e2⟩
  | own xs =>
    obtain ⟨p, vs, e1, e2, e3, e4, e5, e6⟩ := q
    refine ⟨p, vs, e1, e2, ?_, e4, e.h p _ e5 e4 (fun ps z => nomatch z), DpAll.sameM e.f xs vs e6⟩
    cases z : F' p with
    | none => rfl
    | some o' =>
      rcases e.n p o' z with h | h
      · rw [e3] at h; cases h
      · rw [e5] at h; cases h
  | cup => exact q
  | kn φ => obtain ⟨v, e1, e2⟩ := q; exact ⟨v, e1, fun F2 q => e2 F2 (e.f.trans q)⟩
theorem Slots.get {K : PySem.W.Frag} {A : Option Addr} {B F H : Hp} {ρ : List Sl} {σ : L2.St} (s : Slots K A B F H ρ σ) {i : Nat} {sl : Sl} (h : ρ[i]? = some sl) : ∃ o, σ[i]? = some o ∧ SlotR K A B F H sl o := by
  have hi := (List.getElem?_eq_some_iff.mp h).1
  have hs : i < σ.length := by rw [← s.len]; exact hi
  exact ⟨_, List.getElem?_eq_getElem hs, s.at_ i sl _ h (List.getElem?_eq_getElem hs)⟩
theorem Slots.val {K : PySem.W.Frag} {A : Option Addr} {B F H : Hp} {ρ : List Sl} {σ : L2.St} (s : Slots K A B F H ρ σ) {i : Nat} {d : D} (h : ρ[i]? = some (.val d)) : ∃ v, σ[i]? = some (some v) ∧ Dp K F v d := by
  obtain ⟨o, h1, v, e1, e2⟩ := s.get h
  exact ⟨v, by rw [h1, e1], e2⟩

/-! ### the canonical readings -/
section
variable (K : PySem.W.Frag) (A : Option Addr) (E : Exc → L2.St → Hp → Prop) (ρ : List Sl)
/-- what a mirror run asks and gives, from the state c F B -/
def tG {α β : Type} (R : Hp → α → β → Prop) (m : M α) (c : Cup) (F B : Hp) (σ : L2.St) (H : Hp) (Q : β → Hp → Prop) : Prop := Wd A c F H ∧ Slots K A B F H ρ σ ∧
  Wp (m c) (fun d c' => ∀ v F' H', Ext A F H F' H' → Wd A c' F' H' → R F' d v → Q v H') (fun e c' => ∀ F' H', Ext A F H F' H' → Wd A c' F' H' → E e σ H')
def tR {α β : Type} (R : Hp → α → β → Prop) (m : M α) : L2.St → Hp → (β → Hp → Prop) → Prop := fun σ H Q => ∃ c F B, tG K A E ρ R m c F B σ H Q
abbrev RD : Hp → D → V → Prop := fun F d v => Dp K F v d
abbrev RL : Hp → List D → List V → Prop := fun F d v => DpAll K F v d
abbrev RB : Hp → Bool → Bool → Prop := fun _ d v => d = v
def tM (m : M D) : TE := tR K A E ρ (RD K) m
def tT (m : M Bool) : TT := tR K A E ρ RB m
def tA (m : M (List D)) : TA := tR K A E ρ (RL K) m
end
end Mir
namespace L2
open PySem PySem.Spec PyProof.Rows Mir
theorem PE.impM {X : Cx} {e : Expr} {t t' : TE} (h : PE X e t) (i : ∀ σ H Q, t' σ H Q → t σ H Q) : PE X e t' := ⟨fun pins s σ H Q I q => h.run pins s σ H Q I (i σ H Q q)⟩
theorem PT.impM {X : Cx} {e : Expr} {t t' : TT} (h : PT X e t) (i : ∀ σ H Q, t' σ H Q → t σ H Q) : PT X e t' := ⟨fun pins s σ H Q I q => h.run pins s σ H Q I (i σ H Q q)⟩
theorem PA.impM {X : Cx} {e : List Expr} {t t' : TA} (h : PA X e t) (i : ∀ σ H Q, t' σ H Q → t σ H Q) : PA X e t' := ⟨fun pos pins s σ H Q I q => h.run pos pins s σ H Q I (i σ H Q q)⟩
end L2
namespace Mir
open PySem PySem.Spec PyProof.Rows L2
section
variable {K : PySem.W.Frag} {A : Option Addr} {E : Exc → L2.St → Hp → Prop} {ρ : List Sl} {α β γ δ : Type} {R : Hp → α → β → Prop} {R' : Hp → γ → δ → Prop} {m : M α} {f : α → M γ} {σ : L2.St} {H F B : Hp} {c : Cup} {Q Q' : δ → Hp → Prop}
theorem tG.mono {m : M γ} (h : tG K A E ρ R' m c F B σ H Q) (i : ∀ v H', Q v H' → Q' v H') : tG K A E ρ R' m c F B σ H Q' :=
  ⟨h.1, h.2.1, h.2.2.mono (fun _ _ q v F' H' e w r => i v H' (q v F' H' e w r)) fun _ _ q => q⟩
/-- one after another -/
theorem tG.bind (h : tG K A E ρ R' (m >>= f) c F B σ H Q) : tG K A E ρ R m c F B σ H (fun v H1 => ∃ d c' F', Ext A F H F' H1 ∧ R F' d v ∧ tG K A E ρ R' (f d) c' F' B σ H1 Q) := by
  obtain ⟨w, s, h⟩ := h
  refine ⟨w, s, (Wp_bind.mp h).mono (fun d c' q v F' H' e w' r => ⟨d, c', F', e, r, w', s.ext e, q.mono (fun d2 c2 q2 v2 F2 H2 e2 w2 r2 => q2 v2 F2 H2 (e.trans e2) w2 r2) fun x c2 q2 F2 H2 e2 w2 => q2 F2 H2 (e.trans e2) w2⟩) fun _ _ q => q⟩
/-- .. where what the first gives has a property -/
theorem tG.bindP {P : α → Prop} (hP : ∀ c Q E, Wp (m c) Q E → Wp (m c) (fun d c' => P d ∧ Q d c') E) (h : tG K A E ρ R' (m >>= f) c F B σ H Q) : tG K A E ρ R m c F B σ H (fun v H1 => ∃ d c' F', P d ∧ Ext A F H F' H1 ∧ R F' d v ∧ tG K A E ρ R' (f d) c' F' B σ H1 Q) := by
  obtain ⟨w, s, h⟩ := h
  refine ⟨w, s, (hP _ _ _ (Wp_bind.mp h)).mono (fun d c' ⟨pd, q⟩ v F' H' e w' r => ⟨d, c', F', pd, e, r, w', s.ext e, q.mono (fun d2 c2 q2 v2 F2 H2 e2 w2 r2 => q2 v2 F2 H2 (e.trans e2) w2 r2) fun x c2 q2 F2 H2 e2 w2 => q2 F2 H2 (e.trans e2) w2⟩) fun _ _ q => q⟩
theorem tG.pure {d : γ} {v : δ} (h : tG K A E ρ R' (Pure.pure d) c F B σ H Q) (r : R' F d v) : Q v H := h.2.2 v F H .refl h.1 r
theorem tG.lft {o : Option γ} (h : tG K A E ρ R' (Mir.lft o) c F B σ H Q) : ∃ d, o = some d ∧ ∀ v F' H', Ext none F H F' H' → Frz F' H' → R' F' d v → Q v H' := by
  obtain ⟨w, s, h⟩ := h
  obtain ⟨d, e, q⟩ := Wp_lft h
  exact ⟨d, e, fun v F' H' x z r => q v F' H' x.to (w.ext x z) r⟩
end

/-! ### value operations -/
/-- a one-place operation by data -/
def rD1 (K : PySem.W.Frag) (g : O1) : V → Hp → VK → Prop := fun x H Q => ∃ F d r, Frz F H ∧ Dp K F x d ∧ g d = some r ∧ ∀ v F' H', Ext none F H F' H' → Frz F' H' → Dp K F' v r → Q v H'
def rD2 (K : PySem.W.Frag) (g : O2) : R2 := fun x y H Q => ∃ F d e r, Frz F H ∧ Dp K F x d ∧ Dp K F y e ∧ g d e = some r ∧ ∀ v F' H', Ext none F H F' H' → Frz F' H' → Dp K F' v r → Q v H'
def rDA (K : PySem.W.Frag) (g : List D → Option D) : List V → Hp → VK → Prop := fun xs H Q => ∃ F ds r, Frz F H ∧ DpAll K F xs ds ∧ g ds = some r ∧ ∀ v F' H', Ext none F H F' H' → Frz F' H' → Dp K F' v r → Q v H'
section
variable {X : Cx} {A : Option Addr} {E : Exc → L2.St → Hp → Prop} {ρ : List Sl} {a b : Expr} {ma mb : M D} {pos : Pos}
theorem two_ok {g : O2} {σ : L2.St} {H : Hp} {Q : VK} (h : tM X.K A E ρ (bin g ma mb) σ H Q) : tOp (rD2 X.K g) (tM X.K A E ρ ma) (tM X.K A E ρ mb) σ H Q := by
  obtain ⟨c, F, B, h⟩ := h
  refine ⟨c, F, B, (tG.bind (R := RD X.K) h).mono fun x H1 ⟨d, c1, F1, e1, r1, h1⟩ => ⟨c1, F1, B, (tG.bind (R := RD X.K) h1).mono fun y H2 ⟨d2, c2, F2, e2, r2, h2⟩ => ?_⟩⟩
  obtain ⟨r, er, q⟩ := h2.lft
  exact ⟨F2, d, d2, r, h2.1.frz, Dp.sameM e2.f d x r1, r2, er, q⟩
theorem one_ok {g : O1} {σ : L2.St} {H : Hp} {Q : VK} (h : tM X.K A E ρ (un1 g ma) σ H Q) : tM X.K A E ρ ma σ H fun x H1 => rD1 X.K g x H1 Q := by
  obtain ⟨c, F, B, h⟩ := h
  refine ⟨c, F, B, (tG.bind (R := RD X.K) h).mono fun x H1 ⟨d, c1, F1, e1, r1, h1⟩ => ?_⟩
  obtain ⟨r, er, q⟩ := h1.lft
  exact ⟨F1, d, r, h1.1.frz, r1, er, q⟩
theorem ev_bin {op : Operator} {g : O2} (ho : OpR X (binaryOp op) (rD2 X.K g)) (ha : PE X a (tM X.K A E ρ ma)) (hb : PE X b (tM X.K A E ρ mb)) : PE X (.BinOp a op b pos) (tM X.K A E ρ (bin g ma mb)) :=
  (pe_op ho ha hb).impM fun _ _ _ h => two_ok h
theorem ev_cmp {op : CmpOp} {g : O2} (ho : OpR X (compareOp op) (rD2 X.K g)) (ha : PE X a (tM X.K A E ρ ma)) (hb : PE X b (tM X.K A E ρ mb)) (hm : behindInMarks op b = false) : PE X (.Compare a [op] [b] pos) (tM X.K A E ρ (bin g ma mb)) :=
  (pe_cmpR ho ha hb hm).impM fun _ _ _ h => two_ok h
theorem ev_un {op : UnaryOp} {g : O1} (ho : UnR X (unaryOp op) (rD1 X.K g)) (ha : PE X a (tM X.K A E ρ ma)) : PE X (.UnaryOp op a pos) (tM X.K A E ρ (un1 g ma)) :=
  (pe_un ho ha).impM fun _ _ _ h => one_ok h
/-- names and constants -/
theorem ev_var {i : Nat} {x : Str} {d : D} (hρ : ρ[i]? = some (.val d)) (h : PE X (.Name x pos) (tVar i)) : PE X (.Name x pos) (tM X.K A E ρ (pure d)) :=
  h.impM fun σ H Q ⟨c, F, B, g⟩ => by
    obtain ⟨v, e, p⟩ := g.2.1.val hρ
    exact ⟨v, e, g.pure p⟩
theorem ev_int {i : Int} {j pos} : PE X (.Constant (.int i) j pos) (tM X.K A E ρ (pure (.int i))) := pe_int.impM fun _ _ _ ⟨_, _, _, g⟩ => g.pure (.int i)
theorem ev_bl {i : Bool} {j pos} : PE X (.Constant (.bool i) j pos) (tM X.K A E ρ (pure (.bool i))) := pe_bl.impM fun _ _ _ ⟨_, _, _, g⟩ => g.pure (.bl i)
theorem ev_str {i : Str} {j pos} : PE X (.Constant (.str i) j pos) (tM X.K A E ρ (pure (.str i))) := pe_str.impM fun _ _ _ ⟨_, _, _, g⟩ => g.pure (.str i)
theorem ev_non {j pos} : PE X (.Constant .none j pos) (tM X.K A E ρ (pure .none)) := pe_non.impM fun _ _ _ ⟨_, _, _, g⟩ => g.pure .non
end
end Mir

set_option maxRecDepth 100000
namespace Mir
open PySem PySem.Spec PyProof.Rows L2
section
variable {X : Cx}
theorem lim_eq : lim = sizeLine := sizeLine_eq.symm
theorem lst_new {pins : List (Addr × Obj)} {s : Shared} {σ : L2.St} {H F : Hp} {Q : VK} {ys : List V} {ds : List D} {its : List Value} {t' : Nat} (I : Inv X pins σ H s) (z : Frz F H) (hv : Vals ys its) (hz : ys.length ≤ sizeLine) (p : DpAll X.K F ys ds)
    (q : ∀ v F' H', Ext none F H F' H' → Frz F' H' → Dp X.K F' v (.list ds) → Q v H') :
    EP X pins σ Q (.ref s.heap.objs.size) { s with heap := s.heap.push { cls := .type "list", data := .seq its.toArray }, toks := t' } := by
  have hn : H s.heap.objs.size = none := I.fresh
  have e := Ext.new (o := .lst ys) z hn
  exact ⟨.ref s.heap.objs.size, _, I.lnew hv hz, rfl, q _ _ _ e (z.new fun ps z => nomatch z) (.lst (SqL.of upd_same) (DpAll.sameM e.f _ _ p))⟩
theorem tup_new {F H : Hp} {Q : VK} {ys : List V} {ds : List D} (z : Frz F H) (p : DpAll X.K F ys ds) (q : ∀ v F' H', Ext none F H F' H' → Frz F' H' → Dp X.K F' v (.tuple ds) → Q v H') (a : Addr) (hn : H a = none) : Q (.ref a) (upd H a (.tup ys)) := by
  have e := Ext.new (o := .tup ys) z hn
  exact q _ _ _ e (z.new fun ps z => nomatch z) (.tup (SqT.of upd_same) (DpAll.sameM e.f _ _ p))
theorem lst_new' {F H : Hp} {Q : VK} {ys : List V} {ds : List D} (z : Frz F H) (p : DpAll X.K F ys ds) (q : ∀ v F' H', Ext none F H F' H' → Frz F' H' → Dp X.K F' v (.list ds) → Q v H') (a : Addr) (hn : H a = none) : Q (.ref a) (upd H a (.lst ys)) := by
  have e := Ext.new (o := .lst ys) z hn
  exact q _ _ _ e (z.new fun ps z => nomatch z) (.lst (SqL.of upd_same) (DpAll.sameM e.f _ _ p))

/-! ### arithmetic -/
theorem od_add : OpR X (binaryOp .Add) (rD2 X.K dAdd) := by
  intro pins s σ H x y v u Q I rx ry h
  obtain ⟨F, d, e, r, z, pd, pe, er, q⟩ := h
  unfold dAdd at er
  split at er
  · cases er; cases pd; cases pe
    exact op_add pins s σ H _ _ v u Q I rx ry ⟨_, _, rfl, rfl, q _ F H .refl z (.int _)⟩
  · split at er
    · rename_i hz
      cases er; cases pd; cases pe
      rw [lim_eq] at hz
      exact op_add_str pins s σ H _ _ v u Q I rx ry ⟨_, _, rfl, rfl, hz, q _ F H .refl z (.str _)⟩
    · cases er
  · split at er
    · rename_i hz
      cases er
      rw [lim_eq] at hz
      cases pd with
      | lst h1 p1 =>
        cases pe with
        | lst h2 p2 =>
          cases rx; cases ry
          obtain ⟨its, r1, ⟨o1, n1, g1, c1, dd1, e1⟩, _⟩ := I.list (SqL.sameM z.sub h1)
          obtain ⟨its2, r2, ⟨o2, n2, g2, c2, dd2, e2⟩, _⟩ := I.list (SqL.sameM z.sub h2)
          have l1 := r1.length
          have l2 := r2.length
          have m1 := p1.lenM
          have m2 := p2.lenM
          obtain ⟨cls1, dict1, data1, sl1⟩ := o1
          obtain ⟨cls2, dict2, data2, sl2⟩ := o2
          simp only at c1 dd1 e1 c2 dd2 e2
          subst c1 dd1 e1 c2 dd2 e2
          have ea : its.toArray ++ its2.toArray = (its ++ its2).toArray := by simp
          refine concat_meets ⟨_, g1, rfl⟩ ⟨_, g2, rfl⟩ noFill_list_add seq_list_add PySem.F.slot_list_add PySem.F.entry_list_add (PySem.F.args_list_add_2 _ _) (list_addW _ _ its.toArray its2.toArray n1 n2 none none sl1 sl2 (by rw [List.size_toArray, List.size_toArray]; omega)) ⟨g1, g2, ?_⟩
          rw [ea]
          exact lst_new (t' := s.toks) I z (r1.append r2) (by rw [List.length_append]; omega) (p1.appM p2) q
    · cases er
  · split at er
    · rename_i hz
      cases er
      rw [lim_eq] at hz
      cases pd with
      | @tup a1 xs1 _ h1 p1 =>
        cases pe with
        | @tup a2 xs2 _ h2 p2 =>
          have m1 := p1.lenM
          have m2 := p2.lenM
          refine op_catA pins s σ H _ _ v u Q I rx ry ⟨_, _, _, _, rfl, rfl, SqT.sameM z.sub h1, SqT.sameM z.sub h2, by omega, fun e => ?_, fun _ e => ?_, fun _ _ a hn => tup_new z (p1.appM p2) q a hn⟩
          · subst e; cases p1
            exact q _ F H .refl z (.tup h2 p2)
          · subst e; cases p2
            rw [List.append_nil]  at q
            exact q _ F H .refl z (.tup h1 p1)
    · cases er
  · cases er
theorem od_int {f : Value → Value → Sem Value} {g : O2} {C : Int → Int → Prop} {k : Int → Int → Int} (op : OpR X f (rI C fun i j => .int (k i j))) (hg : ∀ d e r, g d e = some r → ∃ i j, d = .int i ∧ e = .int j ∧ C i j ∧ r = .int (k i j)) : OpR X f (rD2 X.K g) := by
  intro pins s σ H x y v u Q I rx ry h
  obtain ⟨F, d, e, r, z, pd, pe, er, q⟩ := h
  obtain ⟨i, j, rfl, rfl, hc, rfl⟩ := hg d e r er
  cases pd; cases pe
  exact op pins s σ H _ _ v u Q I rx ry ⟨_, _, rfl, rfl, hc, q _ F H .refl z (.int _)⟩
theorem od_int0 {f : Value → Value → Sem Value} {g : O2} {k : Int → Int → Int} (op : OpR X f (rI0 fun i j => .int (k i j))) (hg : ∀ d e r, g d e = some r → ∃ i j, d = .int i ∧ e = .int j ∧ r = .int (k i j)) : OpR X f (rD2 X.K g) := by
  intro pins s σ H x y v u Q I rx ry h
  obtain ⟨F, d, e, r, z, pd, pe, er, q⟩ := h
  obtain ⟨i, j, rfl, rfl, rfl⟩ := hg d e r er
  cases pd; cases pe
  exact op pins s σ H _ _ v u Q I rx ry ⟨_, _, rfl, rfl, q _ F H .refl z (.int _)⟩
theorem od_sub : OpR X (binaryOp .Sub) (rD2 X.K dSub) := od_int0 op_sub fun d e r h => by
  unfold dSub at h
  split at h
  · cases h; exact ⟨_, _, rfl, rfl, rfl⟩
  · cases h
theorem sm64_ok {i : Int} (h : sm64 i = true) : -(2 ^ 64) < i ∧ i < 2 ^ 64 := by
  have h' : i.natAbs < 18446744073709551616 := of_decide_eq_true h
  omega
theorem tuple_mulW1 (l : Addr) (items : Array Value) (n : Nat) (dd : Option Addr) (sl : Array (Option Value)) (x : Int) (u : Tok) (c0 : (decide (x < -(2 ^ 63)) || decide (x ≥ 2 ^ 63)) = false) (c1 : (items.isEmpty || x == 1) = true) :
    Meets (Builtin.«tuple.__mul__» ⟨[.ref l, .int x u], []⟩) (fun _ R s => s.heap.get? l = some { cls := .type "tuple", dict := dd, data := .seq items n, slots := sl } ∧ R (.ok (.ret (Value.ref l))) s) :=
  .of_wp fun prog w A R s h => by
    obtain ⟨hp, g, d, tk, os⟩ := s
    obtain ⟨hl, h⟩ := h
    have f1 := AutoSeq1.idx_int
    wp_walk using wpAny_loadPart' hl
    repeat (first
      | (refine wpAny_ite_false (decide_eq_false (by rw [c0]; exact Bool.false_ne_true)) ?_; wp_walk using wpAny_loadPart' hl)
      | (refine wpAny_ite_true (decide_eq_true c1) ?_; wp_walk using wpAny_loadPart' hl))
    exact ⟨_, rfl, h⟩
theorem tuple_mulW0 (l : Addr) (items : Array Value) (n : Nat) (dd : Option Addr) (sl : Array (Option Value)) (x : Int) (u : Tok) (c0 : (decide (x < -(2 ^ 63)) || decide (x ≥ 2 ^ 63)) = false) (c1 : (items.isEmpty || x == 1) = false) (c2 : (decide (x ≤ 0) || items.isEmpty) = true) :
    Meets (Builtin.«tuple.__mul__» ⟨[.ref l, .int x u], []⟩) (fun _ R s => s.heap.get? l = some { cls := .type "tuple", dict := dd, data := .seq items n, slots := sl } ∧ R (.ok (.ret (Value.ref s.heap.objs.size))) { s with heap := s.heap.push { cls := Value.type "tuple", data := Data.seq #[] }, toks := s.toks }) :=
  .of_wp fun prog w A R s h => by
    obtain ⟨hp, g, d, tk, os⟩ := s
    obtain ⟨hl, h⟩ := h
    have f1 := AutoSeq1.idx_int
    wp_walk using wpAny_loadPart' hl
    repeat (first
      | (refine wpAny_ite_false (decide_eq_false (by rw [c0]; exact Bool.false_ne_true)) ?_; wp_walk using wpAny_loadPart' hl)
      | (refine wpAny_ite_false (decide_eq_false (by rw [c1]; exact Bool.false_ne_true)) ?_; wp_walk using wpAny_loadPart' hl)
      | (refine wpAny_ite_true (decide_eq_true c2) ?_; wp_walk using wpAny_loadPart' hl))
    exact ⟨_, rfl, h⟩
theorem tup_mul : OpR X (binaryOp .Mult) (fun x y H Q => ∃ l k xs, x = .ref l ∧ y = .int k ∧ SqT X.K H l xs ∧ -1000000 ≤ k ∧ k ≤ 1000 ∧ xs.length ≤ 1000 ∧ ((xs = [] ∨ k = 1) → Q x H) ∧ (k ≤ 0 → ∀ p, H p = none → Q (.ref p) (upd H p (.tup []))) ∧ (xs ≠ [] → 2 ≤ k → ∀ p, H p = none → Q (.ref p) (upd H p (.tup (List.replicate k.toNat xs).flatten)))) := by
  intro pins s σ H x y v u Q I rx ry h
  obtain ⟨l, k, xs, rfl, rfl, hT, k1, k2, hz, q1, q2, q3⟩ := h
  by_cases c : xs ≠ [] ∧ 2 ≤ k
  · exact op_repT pins s σ H _ _ v u Q I rx ry ⟨l, k, xs, rfl, rfl, hT, c.1, c.2, k2, hz, q3 c.1 c.2⟩
  · cases rx
    obtain ⟨t, rfl⟩ := ry
    obtain ⟨its, r, ⟨⟨cls, dd, data, sl⟩, ho, hc, n, hd⟩, hs⟩ := I.tuple hT
    simp only at hc hd
    subst hc hd
    have hle : its.length = xs.length := r.length.symm
    have c0 : (decide (k < -(2 ^ 63)) || decide (k ≥ 2 ^ 63)) = false := by
      rw [decide_eq_false (by omega), decide_eq_false (by omega)] <;> rfl
    by_cases h1 : xs = [] ∨ k = 1
    · have c1 : (its.toArray.isEmpty || k == 1) = true := by
        rcases h1 with h1 | h1
        · subst h1
          cases its with
          | nil => rfl
          | cons a b => cases hle
        · subst h1
          simp
      refine wpAny_binaryOp_repeat_ref (T := "tuple") (U := "int") (by decide) ⟨_, ho, rfl⟩ (fun s' => typeIs_int s' k t) noFill_tuple_mul F.fills_int_mul F.slot_int_rmul repeat_tuple F.slot_int_index.lookup
        (call_meets F.slot_int_rmul (typeIs_int s k t) F.entry_int_rmul (F.args_int_rmul_2 _ _) (int_rmul_tuple k t l its.toArray n dd sl)
          ⟨ho, rfl, ⟨_, ho, rfl⟩, call_meets F.slot_tuple_mul ⟨_, ho, rfl⟩ F.entry_tuple_mul (F.args_tuple_mul_2 _ _) (tuple_mulW1 l its.toArray n dd sl k t c0 c1) ⟨ho, ?_⟩⟩)
      exact ⟨.ref l, H, I, rfl, q1 h1⟩
    · have hne : xs ≠ [] := fun e => h1 (.inl e)
      have hk : k ≤ 0 := by
        have a1 : k ≠ 1 := fun e => h1 (.inr e)
        have a2 : ¬ 2 ≤ k := fun e => c ⟨hne, e⟩
        omega
      have hi : its.toArray.isEmpty = false := by
        cases its with
        | nil => exact absurd (List.eq_nil_of_length_eq_zero hle.symm) hne
        | cons a b => rfl
      have c1 : (its.toArray.isEmpty || k == 1) = false := by
        rw [hi, Bool.false_or]
        exact beq_eq_false_iff_ne.mpr (by omega)
      have c2 : (decide (k ≤ 0) || its.toArray.isEmpty) = true := by rw [decide_eq_true hk, Bool.true_or]
      refine wpAny_binaryOp_repeat_ref (T := "tuple") (U := "int") (by decide) ⟨_, ho, rfl⟩ (fun s' => typeIs_int s' k t) noFill_tuple_mul F.fills_int_mul F.slot_int_rmul repeat_tuple F.slot_int_index.lookup
        (call_meets F.slot_int_rmul (typeIs_int s k t) F.entry_int_rmul (F.args_int_rmul_2 _ _) (int_rmul_tuple k t l its.toArray n dd sl)
          ⟨ho, rfl, ⟨_, ho, rfl⟩, call_meets F.slot_tuple_mul ⟨_, ho, rfl⟩ F.entry_tuple_mul (F.args_tuple_mul_2 _ _) (tuple_mulW0 l its.toArray n dd sl k t c0 c1 c2) ⟨ho, ?_⟩⟩)
      refine ⟨.ref s.heap.objs.size, _, I.laid (t' := s.toks) (o := .tup []) (fun b ob q => Heap.get?_push_of_some _ q) (Nat.le_refl _) ?_, rfl, q2 hk _ (I.hok.fresh (Nat.le_refl _))⟩
      exact ⟨Nat.zero_le _, _, .nil, IsTup.new _ _⟩
theorem rep_dl {F : Hp} {vs : List V} {ds : List D} (h : DpAll X.K F vs ds) : ∀ n : Nat, DpAll X.K F (List.replicate n vs).flatten (List.replicate n ds).flatten
  | 0 => .nil
  | n + 1 => by
    rw [List.replicate_succ, List.replicate_succ, List.flatten_cons, List.flatten_cons]
    exact h.appM (rep_dl h n)
theorem size_foldl_rep {α : Type} (a : Array α) : ∀ (m : Nat) (acc : Array α), (List.foldl (fun x1 x2 => x1 ++ x2) acc (List.replicate m a)).size = acc.size + m * a.size
  | 0, acc => by simp
  | m + 1, acc => by
    rw [List.replicate_succ, List.foldl_cons, size_foldl_rep a m, Array.size_append, Nat.add_mul]
    omega
theorem str_mul : OpR X (binaryOp .Mult) (fun x y H Q => ∃ z k, x = .str z ∧ y = .int k ∧ -1000000 ≤ k ∧ k ≤ 1000 ∧ z.length ≤ 1000 ∧ Q (.str (repS z k)) H) := by
  intro pins s σ H x y v u Q I rx ry h
  obtain ⟨z, k, rfl, rfl, k1, k2, hz, q⟩ := h
  obtain ⟨t, rfl⟩ := rx
  obtain ⟨t', rfl⟩ := ry
  refine PySem.P.mul_str (by rw [decide_eq_false (by omega), decide_eq_false (by omega)] <;> rfl) ?_ ?_ ?_
  · intro h1 h2 h3
    have a1 : k ≤ 1000 := k2
    have a2 : ((z.length : Nat) : Int) ≤ 1000 := by omega
    have a3 : (1000 : Int) ≤ (2 ^ 63 - 1) / k := by
      apply Int.le_ediv_of_mul_le (by omega)
      omega
    omega
  · intro h1 h2
    unfold Builtin.Str.tooLong
    rw [sizeLine_eq]
    have a1 : z.length * k.toNat ≤ 1000 * 1000 := Nat.mul_le_mul hz (by omega)
    exact decide_eq_false (by omega)
  · unfold repS at q
    by_cases h1 : k < 1
    · rw [if_pos h1] at q ⊢
      exact ⟨by decide, ⟨.str Str.empty, H, I.tok _, ⟨_, rfl⟩, q⟩⟩
    · rw [if_neg h1] at q ⊢
      by_cases h2 : (k == 1 || z.length == 0) = true
      · rw [if_pos h2] at q ⊢
        exact ⟨.str z, H, I, ⟨_, rfl⟩, q⟩
      · rw [if_neg h2] at q ⊢
        refine ⟨?_, ⟨.str ⟨List.foldl (fun x1 x2 => x1 ++ x2) #[] (List.replicate k.toNat z.cps)⟩, H, I.tok _, ⟨_, rfl⟩, q⟩⟩
        show (List.foldl (fun x1 x2 => x1 ++ x2) #[] (List.replicate k.toNat z.cps)).size ≤ sizeLine
        rw [size_foldl_rep, sizeLine_eq]
        have a1 : k.toNat * z.cps.size ≤ 1000 * 1000 := Nat.mul_le_mul (by omega) hz
        simp only [List.size_toArray, List.length_nil]
        omega
theorem od_mul : OpR X (binaryOp .Mult) (rD2 X.K dMul) := by
  intro pins s σ H x y v u Q I rx ry h
  obtain ⟨F, d, e, r, z, pd, pe, er, q⟩ := h
  unfold dMul at er
  split at er
  · split at er
    · rename_i hs
      cases er; cases pd; cases pe
      refine op_mul pins s σ H _ _ v u Q I rx ry ⟨_, _, rfl, rfl, ?_, q _ F H .refl z (.int _)⟩
      rcases Bool.or_eq_true_iff.mp hs with h1 | h1
      · exact .inl (sm64_ok h1)
      · exact .inr (sm64_ok h1)
    · cases er
  · split at er
    · rename_i k hs
      rw [Bool.and_eq_true, Bool.and_eq_true, decide_eq_true_eq, decide_eq_true_eq, decide_eq_true_eq] at hs
      cases er; cases pe
      cases pd with
      | @tup a1 xs1 _ h1 p1 =>
        have m1 := p1.lenM
        refine tup_mul pins s σ H _ _ v u Q I rx ry ⟨_, _, _, rfl, rfl, SqT.sameM z.sub h1, hs.1.1, hs.1.2, by omega, fun e => ?_, fun hk a hn => ?_, fun _ _ a hn => tup_new z (rep_dl p1 _) q a hn⟩
        · refine q _ F H .refl z ?_
          rcases e with e | e
          · subst e; cases p1
            rw [show (List.replicate k.toNat ([] : List D)).flatten = [] from by simp]
            exact .tup h1 .nil
          · subst e
            rename_i xs0
            rw [show (List.replicate (1 : Int).toNat xs0).flatten = xs0 from by simp]
            exact .tup h1 p1
        · rw [show k.toNat = 0 by omega] at q
          exact tup_new z .nil q a hn
    · cases er
  · split at er
    · rename_i hs
      rw [Bool.and_eq_true, Bool.and_eq_true, decide_eq_true_eq, decide_eq_true_eq, decide_eq_true_eq] at hs
      cases er; cases pd; cases pe
      exact str_mul pins s σ H _ _ v u Q I rx ry ⟨_, _, rfl, rfl, hs.1.1, hs.1.2, hs.2, q _ F H .refl z (.str _)⟩
    · cases er
  · cases er
theorem od_fdiv : OpR X (binaryOp .FloorDiv) (rD2 X.K dFdiv) := od_int op_fdivN fun d e r h => by
  unfold dFdiv at h
  split at h
  · split at h
    · rename_i hs
      cases h
      obtain ⟨h1, h2⟩ := Bool.and_eq_true_iff.mp hs
      exact ⟨_, _, rfl, rfl, ⟨of_decide_eq_true h1, of_decide_eq_true h2⟩, rfl⟩
    · cases h
  · cases h
theorem od_mod : OpR X (binaryOp .Mod) (rD2 X.K dMod) := od_int op_modN fun d e r h => by
  unfold dMod at h
  split at h
  · split at h
    · cases h
    · rename_i hs
      cases h
      exact ⟨_, _, rfl, rfl, hs, rfl⟩
  · cases h
theorem cpow {i j : Int} (h : (decide (0 ≤ j) && decide (j ≤ 1000000) && sm64 i) = true) : CPow i j := by
  simp only [Bool.and_eq_true, decide_eq_true_eq] at h
  obtain ⟨⟨h1, h2⟩, h3⟩ := h
  have h' : i.natAbs < 18446744073709551616 := of_decide_eq_true h3
  exact ⟨h1, h2, by omega⟩
theorem od_pow : OpR X (binaryOp .Pow) (rD2 X.K dPow) := od_int op_pow fun d e r h => by
  unfold dPow at h
  split at h
  · split at h
    · rename_i hs
      cases h
      exact ⟨_, _, rfl, rfl, cpow hs, rfl⟩
    · cases h
  · cases h
theorem od_shl : OpR X (binaryOp .LShift) (rD2 X.K dShl) := od_int op_shl fun d e r h => by
  unfold dShl at h
  split at h
  · split at h
    · rename_i hs
      cases h
      exact ⟨_, _, rfl, rfl, cpow hs, rfl⟩
    · cases h
  · cases h
theorem od_shr : OpR X (binaryOp .RShift) (rD2 X.K dShr) := od_int op_shr fun d e r h => by
  unfold dShr at h
  split at h
  · split at h
    · rename_i hs
      cases h
      exact ⟨_, _, rfl, rfl, hs, rfl⟩
    · cases h
  · cases h
theorem od_band : OpR X (binaryOp .BitAnd) (rD2 X.K dBand) := od_int0 op_and fun d e r h => by
  unfold dBand at h
  split at h
  · cases h; exact ⟨_, _, rfl, rfl, rfl⟩
  · cases h
theorem od_bor : OpR X (binaryOp .BitOr) (rD2 X.K dBor) := od_int0 op_or fun d e r h => by
  unfold dBor at h
  split at h
  · cases h; exact ⟨_, _, rfl, rfl, rfl⟩
  · cases h
theorem od_bxor : OpR X (binaryOp .BitXor) (rD2 X.K dBxor) := od_int0 op_xor fun d e r h => by
  unfold dBxor at h
  split at h
  · cases h; exact ⟨_, _, rfl, rfl, rfl⟩
  · cases h
theorem ud_neg : UnR X (unaryOp .USub) (rD1 X.K dNeg) := by
  intro pins s σ H x v Q I rx h
  obtain ⟨F, d, r, z, pd, er, q⟩ := h
  unfold dNeg at er
  split at er
  · cases er; cases pd
    exact un_neg pins s σ H _ v Q I rx ⟨_, rfl, q _ F H .refl z (.int _)⟩
  · cases er

/-! ### comparisons -/
theorem Dp.reads2 {pins : List (Addr × Obj)} {s : Shared} {σ : L2.St} {H F : Hp} {d : D} {x : V} {v : Value} (I : Inv X pins σ H s) (z : Frz F H) (p : Dp X.K F x d) (r : RelV x v) : ∃ as, Reads s.heap v d as := Dp.reads I d x v (Dp.sameM z.sub d x p) r
theorem room60 {k : Nat} {A : Around} {n : Nat} (r : Room k A) (h : n ≤ 60) : A.units + n < cLine := by
  have := r.un
  omega
theorem room61 {k : Nat} {A : Around} {n : Nat} (r : Room k A) (h : n ≤ 60) : A.units + 1 + n < cLine := by
  have := r.un
  omega
theorem bl_end {pins : List (Addr × Obj)} {s : Shared} {σ : L2.St} {H F : Hp} {Q : VK} {b : Bool} {tk : Nat} (I : Inv X pins σ H s) (z : Frz F H) (q : ∀ v F' H', Ext none F H F' H' → Frz F' H' → Dp X.K F' v (.bool b) → Q v H') : EP X pins σ Q (.bool b) { s with toks := tk } :=
  ⟨.bl b, H, I.kept (t' := tk) fun _ _ e => e, rfl, q _ F H .refl z (.bl b)⟩
theorem od_eq {k : Nat} (hr : Room k X.A) : OpR X (compareOp .Eq) (rD2 X.K dEq) := by
  intro pins s σ H x y v u Q I rx ry h
  obtain ⟨F, d, e, r, z, pd, pe, er, q⟩ := h
  unfold dEq at er
  split at er
  · rename_i hd
    cases er
    obtain ⟨as, r1⟩ := Dp.reads2 I z pd rx
    obtain ⟨bs, r2⟩ := Dp.reads2 I z pe ry
    exact PySem.SeqAt.eq_plain r1 r2 (Dp.plainM _ _ pd) (Dp.plainM _ _ pe) (room60 hr hd) (bl_end (tk := s.toks) I z q)
  · cases er
theorem od_ne {k : Nat} (hr : Room k X.A) : OpR X (compareOp .NotEq) (rD2 X.K dNe) := by
  intro pins s σ H x y v u Q I rx ry h
  obtain ⟨F, d, e, r, z, pd, pe, er, q⟩ := h
  unfold dNe at er
  split at er
  · rename_i hd
    cases er
    obtain ⟨as, r1⟩ := Dp.reads2 I z pd rx
    obtain ⟨bs, r2⟩ := Dp.reads2 I z pe ry
    exact PySem.SeqAt.ne_plain r1 r2 (Dp.plainM _ _ pd) (Dp.plainM _ _ pe) (room60 hr hd) (bl_end (tk := s.toks) I z q)
  · cases er
theorem cmpOk_ok {d e : D} (h : cmpOk d e = true) : PySem.W.alike d e = true ∧ d ≠ .none ∧ min d.depth e.depth ≤ 60 := by
  unfold cmpOk at h
  simp only [Bool.and_eq_true, decide_eq_true_eq] at h
  obtain ⟨⟨h1, h2⟩, h3⟩ := h
  refine ⟨h1, fun z => ?_, h3⟩
  subst z
  cases h2
section
variable {k : Nat} (hr : Room k X.A)
include hr
theorem od_lt : OpR X (compareOp .Lt) (rD2 X.K dLt) := by
  intro pins s σ H x y v u Q I rx ry h
  obtain ⟨F, d, e, r, z, pd, pe, er, q⟩ := h
  unfold dLt at er
  split at er
  · rename_i hd
    cases er
    obtain ⟨h1, h2, h3⟩ := cmpOk_ok hd
    obtain ⟨as, r1⟩ := Dp.reads2 I z pd rx
    obtain ⟨bs, r2⟩ := Dp.reads2 I z pe ry
    exact PySem.W.lt_data r1 r2 h1 h2 (room60 hr h3) (bl_end (tk := s.toks) I z q)
  · cases er
theorem od_gt : OpR X (compareOp .Gt) (rD2 X.K dGt) := by
  intro pins s σ H x y v u Q I rx ry h
  obtain ⟨F, d, e, r, z, pd, pe, er, q⟩ := h
  unfold dGt at er
  split at er
  · rename_i hd
    cases er
    obtain ⟨h1, h2, h3⟩ := cmpOk_ok hd
    obtain ⟨as, r1⟩ := Dp.reads2 I z pd rx
    obtain ⟨bs, r2⟩ := Dp.reads2 I z pe ry
    exact PySem.W.gt_data r1 r2 h1 h2 (room60 hr h3) (bl_end (tk := s.toks) I z q)
  · cases er
theorem od_le : OpR X (compareOp .LtE) (rD2 X.K dLe) := by
  intro pins s σ H x y v u Q I rx ry h
  obtain ⟨F, d, e, r, z, pd, pe, er, q⟩ := h
  unfold dLe at er
  split at er
  · rename_i hd
    cases er
    obtain ⟨h1, h2, h3⟩ := cmpOk_ok hd
    obtain ⟨as, r1⟩ := Dp.reads2 I z pd rx
    obtain ⟨bs, r2⟩ := Dp.reads2 I z pe ry
    exact PySem.W.le_data r1 r2 h1 h2 (room60 hr h3) (bl_end (tk := s.toks) I z q)
  · cases er
theorem od_ge : OpR X (compareOp .GtE) (rD2 X.K dGe) := by
  intro pins s σ H x y v u Q I rx ry h
  obtain ⟨F, d, e, r, z, pd, pe, er, q⟩ := h
  unfold dGe at er
  split at er
  · rename_i hd
    cases er
    obtain ⟨h1, h2, h3⟩ := cmpOk_ok hd
    obtain ⟨as, r1⟩ := Dp.reads2 I z pd rx
    obtain ⟨bs, r2⟩ := Dp.reads2 I z pe ry
    exact PySem.W.ge_data r1 r2 h1 h2 (room60 hr h3) (bl_end (tk := s.toks) I z q)
  · cases er
theorem in_run {pins : List (Addr × Obj)} {s : Shared} {σ : L2.St} {H F : Hp} {x y : V} {d e : D} {v u : Value} {Q : VK} {b : Bool} (I : Inv X pins σ H s) (z : Frz F H) (rx : RelV x v) (ry : RelV y u) (pd : Dp X.K F x d) (pe : Dp X.K F y e) (er : inB d e = some b) :
    ((∀ v F' H', Ext none F H F' H' → Frz F' H' → Dp X.K F' v (.bool b) → Q v H') → wpAny (model X.prog X.w) X.A (compareOp .In v u) (EP X pins σ Q) X.xe s) ∧
    ((∀ v F' H', Ext none F H F' H' → Frz F' H' → Dp X.K F' v (.bool !b) → Q v H') → wpAny (model X.prog X.w) X.A (compareOp .NotIn v u) (EP X pins σ Q) X.xe s) := by
  unfold inB at er
  split at er
  · split at er
    · rename_i hd
      cases er
      obtain ⟨as, r1⟩ := Dp.reads2 I z pd rx
      obtain ⟨bs, r2⟩ := Dp.reads2 I z pe ry
      have pl := Dp.plainM _ _ pe
      rw [PyData.plain] at pl
      exact ⟨fun q => PySem.SeqAt.in_list_data r2 r1 pl (Dp.plainM _ _ pd) (room61 hr hd) (bl_end (tk := s.toks) I z q), fun q => PySem.SeqAt.notIn_list_data r2 r1 pl (Dp.plainM _ _ pd) (room61 hr hd) (bl_end (tk := s.toks) I z q)⟩
    · cases er
  · split at er
    · rename_i hd
      cases er
      obtain ⟨as, r1⟩ := Dp.reads2 I z pd rx
      obtain ⟨bs, r2⟩ := Dp.reads2 I z pe ry
      have pl := Dp.plainM _ _ pe
      rw [PyData.plain] at pl
      exact ⟨fun q => PySem.SeqAt.in_tuple_data r2 r1 pl (Dp.plainM _ _ pd) (room61 hr hd) (bl_end (tk := s.toks) I z q), fun q => PySem.SeqAt.notIn_tuple_data r2 r1 pl (Dp.plainM _ _ pd) (room61 hr hd) (bl_end (tk := s.toks) I z q)⟩
    · cases er
  · split at er
    · rename_i zz _ w
      cases pd; cases pe
      split at er
      · rename_i c hw
        cases er
        have ew : w = ⟨#[c]⟩ := TL.ext_tl hw
        subst ew
        exact ⟨fun q => op_in_sign pins s σ H _ _ v u Q I rx ry ⟨_, _, rfl, rfl, q _ F H .refl z (.bl _)⟩, fun q => op_notIn_sign pins s σ H _ _ v u Q I rx ry ⟨_, _, rfl, rfl, q _ F H .refl z (.bl _)⟩⟩
      · cases er
        exact ⟨fun q => op_in_str pins s σ H _ _ v u Q I rx ry ⟨_, _, rfl, rfl, q _ F H .refl z (.bl _)⟩, fun q => op_notin_str pins s σ H _ _ v u Q I rx ry ⟨_, _, rfl, rfl, q _ F H .refl z (.bl _)⟩⟩
    · cases er
  · cases er
theorem od_in : OpR X (compareOp .In) (rD2 X.K dIn) := by
  intro pins s σ H x y v u Q I rx ry h
  obtain ⟨F, d, e, r, z, pd, pe, er, q⟩ := h
  unfold dIn at er
  obtain ⟨b, eb, rfl⟩ := Option.map_eq_some_iff.mp er
  exact (in_run hr I z rx ry pd pe eb).1 q
theorem od_notIn : OpR X (compareOp .NotIn) (rD2 X.K dNotIn) := by
  intro pins s σ H x y v u Q I rx ry h
  obtain ⟨F, d, e, r, z, pd, pe, er, q⟩ := h
  unfold dNotIn at er
  obtain ⟨b, eb, rfl⟩ := Option.map_eq_some_iff.mp er
  exact (in_run hr I z rx ry pd pe eb).2 q
end
/-- is None, is not None -/
theorem od_isN : OpR X (compareOp .Is) (fun x y H Q => y = .non ∧ rD1 X.K dIsN x H Q) := by
  intro pins s σ H x y v u Q I rx ry h
  obtain ⟨ey, F, d, r, z, pd, er, q⟩ := h
  refine op_isN pins s σ H x y v u Q I rx ry ⟨ey, ?_⟩
  unfold dIsN at er
  split at er
  · cases er; cases pd; exact q _ F H .refl z (.bl _)
  · rename_i hd
    cases er
    have : decide (x = V.non) = false := decide_eq_false fun e => by subst e; cases pd; exact hd rfl
    rw [this]
    exact q _ F H .refl z (.bl _)
theorem od_notN : OpR X (compareOp .IsNot) (fun x y H Q => y = .non ∧ rD1 X.K dNotN x H Q) := by
  intro pins s σ H x y v u Q I rx ry h
  obtain ⟨ey, F, d, r, z, pd, er, q⟩ := h
  refine op_notN pins s σ H x y v u Q I rx ry ⟨ey, ?_⟩
  unfold dNotN at er
  split at er
  · cases er; cases pd; exact q _ F H .refl z (.bl _)
  · rename_i hd
    cases er
    have : decide (x = V.non) = false := decide_eq_false fun e => by subst e; cases pd; exact hd rfl
    rw [this]
    exact q _ F H .refl z (.bl _)
end
end Mir

set_option maxRecDepth 100000
namespace Mir
open PySem PySem.Spec PyProof.Rows L2
section
variable {X : Cx} {A : Option Addr} {E : Exc → L2.St → Hp → Prop} {ρ : List Sl} {a b c : Expr} {ma mb mc : M D} {pos : Pos}
/-! ### tests -/
theorem truV_of {F H : Hp} {x : V} {d : D} {k : Bool} (z : Frz F H) (p : Dp X.K F x d) (h : dTru d = some k) : TruV X.K x H k := by
  unfold dTru at h
  split at h
  · split at h
    · rename_i hz
      cases p
      rw [lim_eq] at hz
      exact ⟨hz, (Option.some.inj h).symm⟩
    · cases h
  · cases h
  · rename_i h1 h2
    have h := (Option.some.inj h).symm
    subst h
    cases p with
    | non => rfl
    | bl b => rfl
    | int i => rfl
    | str x => exact (h1 x rfl).elim
    | lst q _ =>
      rename_i hq _ _
      refine .inl ⟨_, SqL.sameM z.sub q, ?_⟩
      rename_i p1
      have := p1.lenM
      cases p1 <;> rfl
    | tup q p1 =>
      refine .inr (.inl ⟨_, SqT.sameM z.sub q, ?_⟩)
      cases p1 <;> rfl
theorem et_truth (ha : PE X a (tM X.K A E ρ ma)) (he : ∀ whole, isTrue a X.env whole = (do let v ← whole; standAt a.pos; holding [v] (truthy v)) := by intro _; rfl) : PT X a (tT X.K A E ρ (truth ma)) :=
  (pt_truth ha he).impM fun σ H Q ⟨c, F, B, h⟩ => ⟨c, F, B, (tG.bind (R := RD X.K) h).mono fun x H1 ⟨d, c1, F1, e1, r1, h1⟩ => by
    obtain ⟨k, ek, q⟩ := h1.lft
    exact ⟨k, truV_of h1.1.frz r1 ek, q k F1 H1 .refl h1.1.frz rfl⟩⟩
/-- a comparison gives a truth value -/
def BoolO (g : O2) : Prop := ∀ d e r, g d e = some r → ∃ b, r = .bool b
theorem bo_if {g : O2} {c : D → D → Bool} {f : D → D → Bool} (h : ∀ d e, g d e = if c d e = true then some (.bool (f d e)) else none) : BoolO g := fun d e r q => by
  rw [h] at q
  split at q
  · cases q; exact ⟨_, rfl⟩
  · cases q
theorem bo_eq : BoolO dEq := fun d e r q => by
  unfold dEq at q
  split at q
  · cases q; exact ⟨_, rfl⟩
  · cases q
theorem bo_ne : BoolO dNe := fun d e r q => by
  unfold dNe at q
  split at q
  · cases q; exact ⟨_, rfl⟩
  · cases q
theorem bo_lt : BoolO dLt := bo_if fun _ _ => rfl
theorem bo_gt : BoolO dGt := bo_if fun _ _ => rfl
theorem bo_le : BoolO dLe := bo_if fun _ _ => rfl
theorem bo_ge : BoolO dGe := bo_if fun _ _ => rfl
theorem bo_in : BoolO dIn := fun d e r q => by
  obtain ⟨b, _, rfl⟩ := Option.map_eq_some_iff.mp q
  exact ⟨b, rfl⟩
theorem bo_notIn : BoolO dNotIn := fun d e r q => by
  obtain ⟨b, _, rfl⟩ := Option.map_eq_some_iff.mp q
  exact ⟨_, rfl⟩
theorem wp_bin {g : O2} {P : D → Prop} (hg : ∀ d e r, g d e = some r → P r) (c : Cup) (Q : D → Cup → Prop) (E : Exc → Cup → Prop) (h : Wp (bin g ma mb c) Q E) : Wp (bin g ma mb c) (fun d c' => P d ∧ Q d c') E := by
  unfold bin at h ⊢
  rw [Wp_bind] at h ⊢
  refine h.mono (fun x c1 h1 => ?_) fun _ _ q => q
  rw [Wp_bind] at h1 ⊢
  refine h1.mono (fun y c2 h2 => ?_) fun _ _ q => q
  cases hq : g x y with
  | none => rw [hq] at h2; exact h2.elim
  | some r => rw [hq] at h2; exact ⟨hg _ _ _ hq, h2⟩
/-- a test of what is a truth value -/
theorem tb_ok {m : M D} (hP : ∀ c Q E, Wp (m c) Q E → Wp (m c) (fun d c' => (∃ b, d = .bool b) ∧ Q d c') E) {σ : L2.St} {H : Hp} {Q : Bool → Hp → Prop} (h : tT X.K A E ρ (truth m) σ H Q) : tM X.K A E ρ m σ H (fun x H' => ∃ k, x = .bl k ∧ Q k H') := by
  obtain ⟨c, F, B, h⟩ := h
  refine ⟨c, F, B, (tG.bindP (R := RD X.K) hP h).mono fun x H1 ⟨d, c1, F1, ⟨b, eb⟩, e1, r1, h1⟩ => ?_⟩
  subst eb
  cases r1
  obtain ⟨k, ek, q⟩ := h1.lft
  cases ek
  exact ⟨b, rfl, q _ F1 H1 .refl h1.1.frz rfl⟩
theorem et_cmp {op : CmpOp} {g : O2} (bo : BoolO g) (ho : OpR X (compareOp op) (rD2 X.K g)) (ha : PE X a (tM X.K A E ρ ma)) (hb : PE X b (tM X.K A E ρ mb)) (hm : behindInMarks op b = false) : PT X (.Compare a [op] [b] pos) (tT X.K A E ρ (truth (bin g ma mb))) :=
  (pt_cmpR ho ha hb hm).impM fun σ H Q h => two_ok (tb_ok (wp_bin bo) h)
/-- is None -/
theorem isn_ok {g : O1} {σ : L2.St} {H : Hp} {Q : VK} (h : tM X.K A E ρ (un1 g ma) σ H Q) : tOp (fun x y H Q => y = .non ∧ rD1 X.K g x H Q) (tM X.K A E ρ ma) (tC .non) σ H Q := by
  obtain ⟨c, F, B, h⟩ := h
  refine ⟨c, F, B, (tG.bind (R := RD X.K) h).mono fun x H1 ⟨d, c1, F1, e1, r1, h1⟩ => ?_⟩
  obtain ⟨r, er, q⟩ := h1.lft
  exact ⟨rfl, F1, d, r, h1.1.frz, r1, er, q⟩
theorem ev_isN {j p} (ha : PE X a (tM X.K A E ρ ma)) : PE X (.Compare a [.Is] [.Constant .none j p] pos) (tM X.K A E ρ (un1 dIsN ma)) := (pe_cmpR od_isN ha pe_non rfl).impM fun _ _ _ h => isn_ok h
theorem ev_notN {j p} (ha : PE X a (tM X.K A E ρ ma)) : PE X (.Compare a [.IsNot] [.Constant .none j p] pos) (tM X.K A E ρ (un1 dNotN ma)) := (pe_cmpR od_notN ha pe_non rfl).impM fun _ _ _ h => isn_ok h
theorem wp_un1 {g : O1} {P : D → Prop} (hg : ∀ d r, g d = some r → P r) (c : Cup) (Q : D → Cup → Prop) (E : Exc → Cup → Prop) (h : Wp (un1 g ma c) Q E) : Wp (un1 g ma c) (fun d c' => P d ∧ Q d c') E := by
  unfold un1 at h ⊢
  rw [Wp_bind] at h ⊢
  refine h.mono (fun x c1 h1 => ?_) fun _ _ q => q
  cases hq : g x with
  | none => rw [hq] at h1; exact h1.elim
  | some r => rw [hq] at h1; exact ⟨hg _ _ hq, h1⟩
theorem et_isN {j p} (ha : PE X a (tM X.K A E ρ ma)) : PT X (.Compare a [.Is] [.Constant .none j p] pos) (tT X.K A E ρ (truth (un1 dIsN ma))) :=
  (pt_cmpR od_isN ha pe_non rfl).impM fun σ H Q h => isn_ok (tb_ok (wp_un1 fun d r q => by cases d <;> cases q <;> exact ⟨_, rfl⟩) h)
theorem et_notN {j p} (ha : PE X a (tM X.K A E ρ ma)) : PT X (.Compare a [.IsNot] [.Constant .none j p] pos) (tT X.K A E ρ (truth (un1 dNotN ma))) :=
  (pt_cmpR od_notN ha pe_non rfl).impM fun σ H Q h => isn_ok (tb_ok (wp_un1 fun d r q => by cases d <;> cases q <;> exact ⟨_, rfl⟩) h)
/-- a op b op c -/
theorem chn_ok {g1 g2 : O2} {σ : L2.St} {H : Hp} {Q : VK} (h : tM X.K A E ρ (chn g1 g2 ma mb mc) σ H Q) : tChain (rD2 X.K g1) (rD2 X.K g2) (tM X.K A E ρ ma) (tM X.K A E ρ mb) (tM X.K A E ρ mc) σ H Q := by
  obtain ⟨c, F, B, h⟩ := h
  refine ⟨c, F, B, (tG.bind (R := RD X.K) h).mono fun x H1 ⟨d, c1, F1, e1, r1, h1⟩ => ⟨c1, F1, B, (tG.bind (R := RD X.K) h1).mono fun y H2 ⟨d2, c2, F2, e2, r2, h2⟩ => ?_⟩⟩
  have h3 := tG.bind (R := RD X.K) h2
  obtain ⟨r, er, q⟩ := h3.lft
  refine ⟨F2, d, d2, r, h2.1.frz, Dp.sameM e2.f d x r1, r2, er, fun v F' H' x1 z1 rv => ?_⟩
  obtain ⟨d', c', F3, e3, rd', h4⟩ := q v F' H' x1 z1 rv
  split at h4
  · cases rd'
    refine ⟨true, rfl, iteT ⟨c', F3, B, (tG.bind (R := RD X.K) h4).mono fun w' H4 ⟨d4, c4, F4, e4, r4, h5⟩ => ?_⟩⟩
    obtain ⟨r5, er5, q5⟩ := h5.lft
    exact ⟨F4, d2, d4, r5, h5.1.frz, Dp.sameM (e3.f.trans e4.f) d2 y r2, r4, er5, q5⟩
  · cases rd'
    exact ⟨false, rfl, iteF (h4.pure (.bl false))⟩
  · exact h4.2.2.elim
theorem ev_chn {op op' : CmpOp} {g1 g2 : O2} (ho : OpR X (compareOp op) (rD2 X.K g1)) (ho' : OpR X (compareOp op') (rD2 X.K g2)) (ha : PE X a (tM X.K A E ρ ma)) (hb : PE X b (tM X.K A E ρ mb)) (hc : PE X c (tM X.K A E ρ mc))
    (hm : lastMarks [op, op'] [b, c] = false := by with_unfolding_all rfl) : PE X (.Compare a [op, op'] [b, c] pos) (tM X.K A E ρ (chn g1 g2 ma mb mc)) := (pe_chain ho ho' ha hb hc hm).impM fun _ _ _ h => chn_ok h
theorem wp_chn {g1 g2 : O2} (hg2 : BoolO g2) (c : Cup) (Q : D → Cup → Prop) (E : Exc → Cup → Prop) (h : Wp (chn g1 g2 ma mb mc c) Q E) : Wp (chn g1 g2 ma mb mc c) (fun d c' => (∃ b, d = .bool b) ∧ Q d c') E := by
  unfold chn at h ⊢
  rw [Wp_bind] at h ⊢
  refine h.mono (fun x c1 h1 => ?_) fun _ _ q => q
  rw [Wp_bind] at h1 ⊢
  refine h1.mono (fun y c2 h2 => ?_) fun _ _ q => q
  rw [Wp_bind] at h2 ⊢
  refine h2.mono (fun r c3 h3 => ?_) fun _ _ q => q
  split at h3
  · rw [Wp_bind] at h3 ⊢
    refine h3.mono (fun w' c4 h4 => ?_) fun _ _ q => q
    cases hq : g2 y w' with
    | none => rw [hq] at h4; exact h4.elim
    | some r => rw [hq] at h4; exact ⟨hg2 _ _ _ hq, h4⟩
  · exact ⟨⟨_, rfl⟩, h3⟩
  · exact h3.elim
theorem et_chn {op op' : CmpOp} {g1 g2 : O2} (bo : BoolO g2) (ho : OpR X (compareOp op) (rD2 X.K g1)) (ho' : OpR X (compareOp op') (rD2 X.K g2)) (ha : PE X a (tM X.K A E ρ ma)) (hb : PE X b (tM X.K A E ρ mb)) (hc : PE X c (tM X.K A E ρ mc))
    (hm : lastMarks [op, op'] [b, c] = false := by with_unfolding_all rfl) : PT X (.Compare a [op, op'] [b, c] pos) (tT X.K A E ρ (truth (chn g1 g2 ma mb mc))) := (pt_chain ho ho' ha hb hc hm).impM fun _ _ _ h => chn_ok (tb_ok (wp_chn bo) h)
/-! and, or, not -/
section
variable {ta tb : M Bool} {rest : List Expr}
theorem et_not (ha : PT X a (tT X.K A E ρ ta)) : PT X (.UnaryOp .Not a pos) (tT X.K A E ρ (notT ta)) := (pt_not ha).impM fun σ H Q ⟨c, F, B, h⟩ =>
  ⟨c, F, B, (tG.bind (R := RB) h).mono fun x H1 ⟨d, c1, F1, e1, r1, h1⟩ => by cases r1; exact h1.pure rfl⟩
theorem ew_and1 (ha : PT X a (tT X.K A E ρ ta)) : PW X (.BoolOp .And [a] pos) (tT X.K A E ρ ta) := pw_and1 ha
theorem ew_or1 (ha : PT X a (tT X.K A E ρ ta)) : PW X (.BoolOp .Or [a] pos) (tT X.K A E ρ ta) := pw_or1 ha
theorem pw_imp {e : Expr} {t t' : TT} (h : PW X e t) (i : ∀ σ H Q, t' σ H Q → t σ H Q) : PW X e t' := ⟨fun wh pins s σ H Q I q => h.run wh pins s σ H Q I (i σ H Q q)⟩
theorem ew_and (ha : PT X a (tT X.K A E ρ ta)) (hb : PW X (.BoolOp .And (b :: rest) pos) (tT X.K A E ρ tb)) : PW X (.BoolOp .And (a :: b :: rest) pos) (tT X.K A E ρ (andT ta tb)) :=
  pw_imp (pw_and ha hb) fun σ H Q ⟨c, F, B, h⟩ => ⟨c, F, B, (tG.bind (R := RB) h).mono fun x H1 ⟨d, c1, F1, e1, r1, h1⟩ => by
    cases r1
    cases x with
    | true => exact iteT ⟨c1, F1, B, h1⟩
    | false => exact iteF (h1.pure rfl)⟩
theorem ew_or (ha : PT X a (tT X.K A E ρ ta)) (hb : PW X (.BoolOp .Or (b :: rest) pos) (tT X.K A E ρ tb)) : PW X (.BoolOp .Or (a :: b :: rest) pos) (tT X.K A E ρ (orT ta tb)) :=
  pw_imp (pw_or ha hb) fun σ H Q ⟨c, F, B, h⟩ => ⟨c, F, B, (tG.bind (R := RB) h).mono fun x H1 ⟨d, c1, F1, e1, r1, h1⟩ => by
    cases r1
    cases x with
    | true => exact iteT (h1.pure rfl)
    | false => exact iteF ⟨c1, F1, B, h1⟩⟩
theorem ev_not (ha : PE X a (tM X.K A E ρ ma)) : PE X (.UnaryOp .Not a pos) (tM X.K A E ρ (notV ma)) := (pe_notT ha).impM fun σ H Q ⟨c, F, B, h⟩ => by
  have h : tG X.K A E ρ (RD X.K) ((ma >>= fun d => Mir.lft (dTru d)) >>= fun b => pure (.bool (!b))) c F B σ H Q := h
  rw [bind_assoc] at h
  refine ⟨c, F, B, (tG.bind (R := RD X.K) h).mono fun x H1 ⟨d, c1, F1, e1, r1, h1⟩ => ?_⟩
  have h2 := tG.bind (R := RB) h1
  obtain ⟨k, ek, q⟩ := h2.lft
  obtain ⟨k', c', F', e', rk, h3⟩ := q k F1 H1 .refl h1.1.frz rfl
  cases rk
  exact ⟨k, truV_of h1.1.frz r1 ek, h3.pure (.bl _)⟩
theorem ev_one {op} (ha : PE X a (tM X.K A E ρ ma)) : PE X (.BoolOp op [a] pos) (tM X.K A E ρ ma) := pe_one ha
theorem ev_and (ha : PE X a (tM X.K A E ρ ma)) (hb : PE X (.BoolOp .And (b :: rest) pos) (tM X.K A E ρ mb)) : PE X (.BoolOp .And (a :: b :: rest) pos) (tM X.K A E ρ (andV ma mb)) := (pe_andT ha hb).impM fun σ H Q ⟨c, F, B, h⟩ => by
  refine ⟨c, F, B, (tG.bind (R := RD X.K) h).mono fun x H1 ⟨d, c1, F1, e1, r1, h1⟩ => ?_⟩
  have h2 := tG.bind (R := RB) h1
  obtain ⟨k, ek, q⟩ := h2.lft
  obtain ⟨k', c', F', e', rk, h3⟩ := q k F1 H1 .refl h1.1.frz rfl
  cases rk
  refine ⟨k, truV_of h1.1.frz r1 ek, ?_⟩
  cases k with
  | true => exact iteT ⟨c', F', B, h3⟩
  | false => exact iteF (h3.pure (Dp.sameM e'.f _ _ r1))
theorem ev_or (ha : PE X a (tM X.K A E ρ ma)) (hb : PE X (.BoolOp .Or (b :: rest) pos) (tM X.K A E ρ mb)) : PE X (.BoolOp .Or (a :: b :: rest) pos) (tM X.K A E ρ (orV ma mb)) := (pe_orT ha hb).impM fun σ H Q ⟨c, F, B, h⟩ => by
  refine ⟨c, F, B, (tG.bind (R := RD X.K) h).mono fun x H1 ⟨d, c1, F1, e1, r1, h1⟩ => ?_⟩
  have h2 := tG.bind (R := RB) h1
  obtain ⟨k, ek, q⟩ := h2.lft
  obtain ⟨k', c', F', e', rk, h3⟩ := q k F1 H1 .refl h1.1.frz rfl
  cases rk
  refine ⟨k, truV_of h1.1.frz r1 ek, ?_⟩
  cases k with
  | true => exact iteT (h3.pure (Dp.sameM e'.f _ _ r1))
  | false => exact iteF ⟨c', F', B, h3⟩
theorem ev_if (hc : PT X c (tT X.K A E ρ ta)) (ha : PE X a (tM X.K A E ρ ma)) (hb : PE X b (tM X.K A E ρ mb)) : PE X (.IfExp c a b pos) (tM X.K A E ρ (ifM ta ma mb)) := (pe_ifExp hc ha hb).impM fun σ H Q ⟨c, F, B, h⟩ =>
  ⟨c, F, B, (tG.bind (R := RB) h).mono fun x H1 ⟨d, c1, F1, e1, r1, h1⟩ => by
    cases r1
    cases x with
    | true => exact iteT ⟨c1, F1, B, h1⟩
    | false => exact iteF ⟨c1, F1, B, h1⟩⟩
end
end
end Mir

set_option maxRecDepth 100000
namespace Mir
open PySem PySem.Spec PyProof.Rows L2
section
variable {X : Cx} {A : Option Addr} {E : Exc → L2.St → Hp → Prop} {ρ : List Sl} {a b c e : Expr} {es : List Expr} {ma mb mc : M D} {ms : List (M D)} {pos p : Pos} {x : Str}
/-! ### arguments, displays -/
theorem ea_nil : PA X [] (tA X.K A E ρ (seqM [])) := pa_nil.impM fun σ H Q ⟨_, _, _, g⟩ => g.pure .nil
theorem ea_cons (ha : PE X e (tM X.K A E ρ ma)) (hr : PA X es (tA X.K A E ρ (seqM ms))) (hs : starEach (e :: es) X.env = (false, eval e X.env) :: starEach es X.env := by rfl) : PA X (e :: es) (tA X.K A E ρ (seqM (ma :: ms))) :=
  (pa_cons ha hr hs).impM fun σ H Q ⟨c, F, B, h⟩ => ⟨c, F, B, (tG.bind (R := RD X.K) h).mono fun x H1 ⟨d, c1, F1, e1, r1, h1⟩ => ⟨c1, F1, B, (tG.bind (R := RL X.K) h1).mono fun y H2 ⟨d2, c2, F2, e2, r2, h2⟩ =>
    h2.pure (.cons (Dp.sameM e2.f _ _ r1) r2)⟩⟩
theorem wp_seq : ∀ (ms : List (M D)) (c : Cup) (Q : List D → Cup → Prop) (E : Exc → Cup → Prop), Wp (seqM ms c) Q E → Wp (seqM ms c) (fun ds c' => ds.length = ms.length ∧ Q ds c') E
  | [], _, _, _, h => ⟨rfl, h⟩
  | m :: ms, c, Q, E, h => by
    unfold seqM at h ⊢
    rw [Wp_bind] at h ⊢
    refine h.mono (fun x c1 h1 => ?_) fun _ _ q => q
    rw [Wp_bind] at h1 ⊢
    refine (wp_seq ms c1 _ _ h1).mono (fun xs c2 ⟨hl, h2⟩ => ?_) fun _ _ q => q
    exact ⟨by simp [hl], h2⟩
theorem ev_tup {k} (ha : PA X es (tA X.K A E ρ (seqM ms))) (hl : ms.length ≤ lim := by decide) : PE X (.Tuple es k pos) (tM X.K A E ρ (tupM ms)) := (pe_tup ha).impM fun σ H Q ⟨c, F, B, h⟩ =>
  ⟨c, F, B, (tG.bindP (R := RL X.K) (wp_seq ms) h).mono fun xs H1 ⟨d, c1, F1, pl, e1, r1, h1⟩ => ⟨by rw [r1.lenM, pl, ← lim_eq]; exact hl, fun q hq => tup_new (X := X) h1.1.frz r1 (fun v F' H' x z r => h1.2.2 v F' H' x.to (h1.1.ext x z) r) q hq⟩⟩
/-- a new list of one's own -/
def tO (K : PySem.W.Frag) (A : Option Addr) (E : Exc → L2.St → Hp → Prop) (ρ : List Sl) (m : M (List D)) : TE := fun σ H Q => ∃ c F B, Wd A c F H ∧ Slots K A B F H ρ σ ∧
  Wp (m c) (fun ds c' => ∀ p vs F' H', Ext A F H F' H' → Wd A c' F' H' → H p = none → F' p = none → H' p = some (.lst vs) → DpAll K F' vs ds → Q (.ref p) H') (fun e c' => ∀ F' H', Ext A F H F' H' → Wd A c' F' H' → E e σ H')
/-- frozen: F holds what H holds at p -/
theorem Ext.freeze {F H F' H' : Hp} {p : Addr} {o : HO} (x : Ext A F H F' H') (h : H p = none) (hF : F p = none) (h' : H' p = some o) : Ext A F H (upd F' p o) H' := by
  refine ⟨fun b u q => ?_, x.h, fun b u q => ?_, x.d⟩
  · rw [upd_ne (ne_of_none q hF)]; exact x.f b u q
  · by_cases hb : b = p
    · exact .inr (hb ▸ h)
    · rw [upd_ne hb] at q; exact x.n b u q
theorem Wd.freeze {c : Cup} {F H : Hp} {p : Addr} {o : HO} (w : Wd A c F H) (hF : F p = none) (hA : A ≠ some p) (h : H p = some o) (ho : ∀ ps, o ≠ .tbl ps) : Wd A c (upd F p o) H := by
  refine ⟨⟨fun b u q => ?_, fun b ps q => ?_⟩, fun a ha => ?_⟩
  · by_cases hb : b = p
    · rw [hb, upd_same] at q; rw [hb, h]; exact q
    · rw [upd_ne hb] at q; exact w.frz.sub b u q
  · by_cases hb : b = p
    · rw [hb, upd_same] at q; exact ho ps (Option.some.inj q)
    · rw [upd_ne hb] at q; exact w.frz.nt b ps q
  · obtain ⟨h1, h2⟩ := w.cup a ha
    refine ⟨?_, h2⟩
    rw [upd_ne (fun z => hA (by rw [← z]; exact ha))]; exact h1
theorem Wd.ne {c : Cup} {F H : Hp} {p : Addr} (w : Wd A c F H) (h : H p = none) : A ≠ some p := fun z => by
  obtain ⟨_, h2⟩ := w.cup p z
  rw [h] at h2; cases h2
theorem own_imp {m : M (List D)} {σ : L2.St} {H : Hp} {Q : VK} : tM X.K A E ρ (lstM m) σ H Q → tO X.K A E ρ m σ H Q := fun ⟨c, F, B, w, s, g⟩ => by
  refine ⟨c, F, B, w, s, (Wp_bind.mp g).mono (fun ds c' q p vs F' H' x w' hp hF hH r => ?_) fun _ _ q => q⟩
  have q : ∀ v F' H', Ext A F H F' H' → Wd A c' F' H' → Dp X.K F' v (.list ds) → Q v H' := q
  have hs : Same F' (upd F' p (.lst vs)) := fun b u z => by rw [upd_ne (ne_of_none z hF)]; exact z
  exact q _ (upd F' p (.lst vs)) H' (x.freeze hp (Same.free w.frz.sub hp) hH) (w'.freeze hF (w.ne hp) hH fun ps z => nomatch z) (.lst (SqL.of upd_same) (DpAll.sameM hs _ _ r))
theorem ev_own {m : M (List D)} (h : PE X e (tO X.K A E ρ m)) : PE X e (tM X.K A E ρ (lstM m)) := h.impM fun _ _ _ h => own_imp h
theorem eo_lst (ha : PA X es (tA X.K A E ρ (seqM ms))) (hl : ms.length ≤ lim := by decide) : PE X (.List es pos) (tO X.K A E ρ (seqM ms)) := (pe_lst ha).impM fun σ H Q ⟨c, F, B, w, s, g⟩ => by
  refine ⟨c, F, B, w, s, (wp_seq ms _ _ _ g).mono (fun ds c' ⟨pl, q⟩ xs F' H' x w' r => ⟨by rw [r.lenM, pl, ← lim_eq]; exact hl, fun p hp => ?_⟩) fun _ _ q => q⟩
  have hF := Same.free w'.frz.sub hp
  exact q p xs F' _ (x.trans (Ext.new' hp).to) (w'.ext (Ext.new' hp) (w'.frz.new' hp)) (x.d p hp) hF upd_same r
/-- a new object at hand becomes one's own -/
theorem own_new {c c' : Cup} {F H F' H' : Hp} {σ : L2.St} {Q : VK} {ds : List D} {vs : List V} (x : Ext A F H F' H') (w' : Wd A c' F' H') (q : ∀ p vs F' H', Ext A F H F' H' → Wd A c' F' H' → H p = none → F' p = none → H' p = some (.lst vs) → DpAll X.K F' vs ds → Q (.ref p) H')
    (r : DpAll X.K F' vs ds) (p : Addr) (hp : H' p = none) : Q (.ref p) (upd H' p (.lst vs)) :=
  q p vs F' _ (x.trans (Ext.new' hp).to) (w'.ext (Ext.new' hp) (w'.frz.new' hp)) (x.d p hp) (Same.free w'.frz.sub hp) upd_same r

/-! ### places and slices -/
theorem ixN_eq (n : Nat) (i : Int) : L2.ixN n i = Mir.ixN n i := rfl
theorem atI_dl {F : Hp} {vs : List V} {ds : List D} {i : Int} {d : D} (p : DpAll X.K F vs ds) (h : Mir.atI ds i = some d) : ∃ v, L2.atI vs i = some v ∧ Dp X.K F v d := by
  unfold Mir.atI at h
  obtain ⟨j, h1, h2⟩ := Option.bind_eq_some_iff.mp h
  obtain ⟨v, h3, h4⟩ := p.getDM h2
  refine ⟨v, ?_, h4⟩
  unfold L2.atI
  rw [p.lenM, ixN_eq, h1]
  exact h3
theorem ixd : IxR X (rD2 X.K dIx) := by
  intro value slice pins s σ H x y v u Q I rx ry h hs
  obtain ⟨F, d, e, r, z, pd, pe, er, q⟩ := h
  unfold dIx at er
  split at er
  · cases pd with
    | lst h1 p1 =>
      cases pe
      obtain ⟨w, e1, e2⟩ := atI_dl p1 er
      exact ix_list value slice pins s σ H _ _ v u Q I rx ry ⟨_, _, _, w, rfl, rfl, SqL.sameM z.sub h1, e1, q _ F H .refl z e2⟩ hs
  · cases pd with
    | tup h1 p1 =>
      cases pe
      obtain ⟨w, e1, e2⟩ := atI_dl p1 er
      exact ix_tup value slice pins s σ H _ _ v u Q I rx ry ⟨_, _, _, w, rfl, rfl, SqT.sameM z.sub h1, e1, q _ F H .refl z e2⟩ hs
  · split at er
    · rename_i hz
      obtain ⟨cc, e1, rfl⟩ := Option.map_eq_some_iff.mp er
      cases pd; cases pe
      rw [lim_eq] at hz
      exact ix_str value slice pins s σ H _ _ v u Q I rx ry ⟨_, _, cc, rfl, rfl, hz, e1, q _ F H .refl z (.str _)⟩ hs
    · cases er
  · cases er
theorem ev_ix (ha : PE X a (tM X.K A E ρ ma)) (hb : PE X b (tM X.K A E ρ mb)) (hs : PlainIx b := by exact fun _ _ => rfl) : PE X (.Subscript a b pos) (tM X.K A E ρ (bin dIx ma mb)) := (pe_ix ixd ha hb hs).impM fun _ _ _ h => two_ok h
theorem sIx_eq (n d : Nat) (o : Option Int) : HT.sIx n d o = Mir.sIx n d o := by
  cases o with
  | none => rfl
  | some i =>
    have h := HT.clip_eq i n d
    show HT.sIx n d (some i) = if i < 0 then (i + n).toNat else min i.toNat n
    by_cases hi : i < 0
    · rw [if_pos hi] at h ⊢
      have : ((HT.sIx n d (some i) : Nat) : Int) = ((i + n).toNat : Nat) := by omega
      omega
    · rw [if_neg hi] at h ⊢
      omega
theorem cut_eq {α : Type} (xs : List α) (lo hi : Option Int) : (xs.drop (HT.sIx xs.length 0 lo)).take (HT.sIx xs.length xs.length hi - HT.sIx xs.length 0 lo) = cutL xs lo hi := by
  unfold cutL
  rw [sIx_eq, sIx_eq]
theorem cutV_eq (xs : List V) (lo hi : Option Int) : cutV xs lo hi = cutL xs lo hi := cut_eq xs lo hi
theorem cut_dl {F : Hp} {vs : List V} {ds : List D} (lo hi : Option Int) (p : DpAll X.K F vs ds) : DpAll X.K F (cutL vs lo hi) (cutL ds lo hi) := by
  unfold cutL
  rw [p.lenM]
  exact (p.dropM _).takeM _
def rSlD (K : PySem.W.Frag) : V → Option Int → Option Int → Hp → VK → Prop := fun x lo hi H Q => ∃ F d r, Frz F H ∧ Dp K F x d ∧ dSl d lo hi = some r ∧ ∀ v F' H', Ext none F H F' H' → Frz F' H' → Dp K F' v r → Q v H'
theorem cutS_eq (z : Str) (lo hi : Option Int) : cutS z lo hi = ⟨(cutL z.cps.toList lo hi).toArray⟩ := by
  apply TL.ext_tl
  have hl : z.cps.toList.length = z.length := by simp [Str.length]
  unfold cutS cutL
  simp only [sIx_eq]
  rw [hl]
theorem sld : SlR X (rSlD X.K) := by
  intro pins s σ H x v vl vu lo hi sl Q I rx hs pl pu h
  obtain ⟨F, d, r, z, pd, er, q⟩ := h
  unfold dSl at er
  split at er
  · cases er
    cases pd with
    | lst h1 p1 => exact sl_list pins s σ H _ v vl vu lo hi sl Q I rx hs pl pu ⟨_, _, rfl, SqL.sameM z.sub h1, fun a ha => by rw [cutV_eq]; exact lst_new' z (cut_dl lo hi p1) q a ha⟩
  · cases er
    cases pd with
    | tup h1 p1 =>
      refine sl_tupA pins s σ H _ v vl vu lo hi sl Q I rx hs pl pu ⟨_, _, rfl, SqT.sameM z.sub h1, fun hw => q _ F H .refl z ?_, fun _ a ha => by rw [cutV_eq]; exact tup_new z (cut_dl lo hi p1) q a ha⟩
      have e1 := cut_dl lo hi p1
      rw [← cut_eq, hw.1, hw.2] at e1
      simp only [Nat.sub_zero, List.drop_zero, List.take_length] at e1
      exact .tup h1 e1
  · split at er
    · rename_i hz
      cases er; cases pd
      rw [lim_eq] at hz
      exact sl_str pins s σ H _ v vl vu lo hi sl Q I rx hs pl pu ⟨_, rfl, hz, by rw [cutS_eq]; exact q _ F H .refl z (.str _)⟩
    · cases er
  · cases er
/-- a slice's bound -/
theorem epo_none : PO X none (tR X.K A E ρ (fun _ (d : Option Int) v => d = v) (pure none)) := ⟨fun pins s σ H Q I h => po_none.run pins s σ H Q I (by obtain ⟨_, _, _, g⟩ := h; exact g.pure rfl)⟩
theorem epo_some (ha : PE X a (tM X.K A E ρ ma)) : PO X (some a) (tR X.K A E ρ (fun _ (d : Option Int) v => d = v) (optI ma)) := ⟨fun pins s σ H Q I h => (po_some ha).run pins s σ H Q I (by
  obtain ⟨c, F, B, h⟩ := h
  refine ⟨c, F, B, (tG.bind (R := RD X.K) h).mono fun x H1 ⟨d, c1, F1, e1, r1, h1⟩ => ?_⟩
  split at h1
  · cases r1
    exact ⟨_, rfl, h1.pure rfl⟩
  · exact h1.2.2.elim)⟩
theorem ev_slc {lo hi : Option Expr} {ml mh : M (Option Int)} {p2 : Pos} (ha : PE X a (tM X.K A E ρ ma)) (hl : PO X lo (tR X.K A E ρ (fun _ (d : Option Int) v => d = v) ml)) (hh : PO X hi (tR X.K A E ρ (fun _ (d : Option Int) v => d = v) mh)) :
    PE X (.Subscript a (.Slice lo hi none p2) pos) (tM X.K A E ρ (slc ma ml mh)) := (pe_slice sld ha hl hh).impM fun σ H Q ⟨c, F, B, h⟩ => by
  refine ⟨c, F, B, (tG.bind (R := RD X.K) h).mono fun x H1 ⟨d, c1, F1, e1, r1, h1⟩ => ⟨c1, F1, B, (tG.bind (R := fun _ (d : Option Int) v => d = v) h1).mono fun l H2 ⟨d2, c2, F2, e2, r2, h2⟩ => ⟨c2, F2, B, (tG.bind (R := fun _ (d : Option Int) v => d = v) h2).mono fun u H3 ⟨d3, c3, F3, e3, r3, h3⟩ => ?_⟩⟩⟩
  cases r2; cases r3
  obtain ⟨r, er, q⟩ := h3.lft
  exact ⟨F3, d, r, h3.1.frz, Dp.sameM (e2.f.trans e3.f) d x r1, er, q⟩

/-! ### calls of built-ins by one value, two values -/
def rC1 (K : PySem.W.Frag) (g : O1) : List V → Hp → VK → Prop := fun xs H Q => ∃ x, xs = [x] ∧ rD1 K g x H Q
def rC2 (K : PySem.W.Frag) (g : O2) : List V → Hp → VK → Prop := fun xs H Q => ∃ x y, xs = [x, y] ∧ rD2 K g x y H Q
section
variable {id T : String} {g : O1} {g2 : O2}
theorem ev_call1 (hc : CallR X (.builtin id) (rC1 X.K g)) (hg : Gl X x) (hm : X.mg x = none) (hv : bootBuiltins x = some (.builtin id)) (ha : PE X a (tM X.K A E ρ ma)) (hn : x ≠ "__name__" := by decide) (hdb : (x == ("__debug__" : Str)) = false := by decide)
    (hs : starEach [a] X.env = (false, eval a X.env) :: starEach [] X.env := by rfl) : PE X (.Call (.Name x p) [a] [] pos) (tM X.K A E ρ (un1 g ma)) := (pe_callB hc hg hm hv (pa_cons ha pa_nil hs) hn hdb hs rfl).impM fun σ H Q h => by
  obtain ⟨c, F, B, h⟩ := one_ok h
  exact ⟨c, F, B, h.mono fun x H1 q => ⟨x, rfl, q⟩⟩
theorem ev_callT1 (hc : CallR X (.type T) (rC1 X.K g)) (hg : Gl X x) (hm : X.mg x = none) (hv : bootBuiltins x = some (.type T)) (ha : PE X a (tM X.K A E ρ ma)) (hn : x ≠ "__name__" := by decide) (hdb : (x == ("__debug__" : Str)) = false := by decide)
    (hs : starEach [a] X.env = (false, eval a X.env) :: starEach [] X.env := by rfl) : PE X (.Call (.Name x p) [a] [] pos) (tM X.K A E ρ (un1 g ma)) := (pe_callTy hc hg hm hv (pa_cons ha pa_nil hs) hn hdb hs rfl).impM fun σ H Q h => by
  obtain ⟨c, F, B, h⟩ := one_ok h
  exact ⟨c, F, B, h.mono fun x H1 q => ⟨x, rfl, q⟩⟩
theorem ev_call2 (hc : CallR X (.builtin id) (rC2 X.K g2)) (hg : Gl X x) (hm : X.mg x = none) (hv : bootBuiltins x = some (.builtin id)) (ha : PE X a (tM X.K A E ρ ma)) (hb : PE X b (tM X.K A E ρ mb)) (hn : x ≠ "__name__" := by decide) (hdb : (x == ("__debug__" : Str)) = false := by decide)
    (hs : starEach [b] X.env = (false, eval b X.env) :: starEach [] X.env := by rfl) (hs2 : starEach [a, b] X.env = (false, eval a X.env) :: starEach [b] X.env := by rfl) (hpl : (backTo pos (starEach [b] X.env)).any (·.1) = false := by rfl) :
    PE X (.Call (.Name x p) [a, b] [] pos) (tM X.K A E ρ (bin g2 ma mb)) := (pe_callB hc hg hm hv (pa_cons ha (pa_cons hb pa_nil hs) hs2) hn hdb hs2 hpl).impM fun σ H Q h => by
  obtain ⟨c, F, B, h⟩ := two_ok h
  exact ⟨c, F, B, h.mono fun x H1 ⟨c, F, B, q⟩ => ⟨c, F, B, q.mono fun y H2 q => ⟨x, y, rfl, q⟩⟩⟩
/-- isinstance(x, T) -/
theorem ev_isi {t : Ty} {Tn : Str} {p2 : Pos} (hc : CallR X (.builtin "isinstance") (fun xs H Q => ∃ x, xs = [x, .ty T] ∧ rD1 X.K (dIsi t) x H Q)) (hg : Gl X "isinstance") (hm : X.mg "isinstance" = none) (hgT : Gl X Tn) (hmT : X.mg Tn = none) (hvT : bootBuiltins Tn = some (.type T)) (ha : PE X a (tM X.K A E ρ ma))
    (hnT : Tn ≠ "__name__" := by decide) (hdT : (Tn == ("__debug__" : Str)) = false := by decide) (hs2 : starEach [a, .Name Tn p2] X.env = (false, eval a X.env) :: starEach [.Name Tn p2] X.env := by rfl) :
    PE X (.Call (.Name "isinstance" p) [a, .Name Tn p2] [] pos) (tM X.K A E ρ (un1 (dIsi t) ma)) :=
  (pe_callB hc hg hm (by decide +kernel) (pa_cons ha (pa_cons (pe_bltn (v := .ty T) hgT hmT hvT rfl hnT hdT) pa_nil rfl) hs2) (by decide) (by decide) hs2 rfl).impM fun σ H Q h => by
  obtain ⟨c, F, B, h⟩ := one_ok h
  exact ⟨c, F, B, h.mono fun x H1 q => ⟨x, rfl, q⟩⟩
end
theorem cd_len : CallR X (.builtin "len") (rC1 X.K dLen) := by
  intro pins s σ H xs us Q I r h
  obtain ⟨x, rfl, F, d, v, z, pd, er, q⟩ := h
  unfold dLen at er
  split at er
  · cases er
    cases pd with
    | lst h1 p1 => exact call_len_seq pins s σ H _ us Q I r ⟨_, _, rfl, .inl (SqL.sameM z.sub h1), by rw [p1.lenM]; exact q _ F H .refl z (.int _)⟩
  · cases er
    cases pd with
    | tup h1 p1 => exact call_len_seq pins s σ H _ us Q I r ⟨_, _, rfl, .inr (SqT.sameM z.sub h1), by rw [p1.lenM]; exact q _ F H .refl z (.int _)⟩
  · split at er
    · rename_i hz
      cases er; cases pd
      rw [lim_eq] at hz
      exact call_len_str pins s σ H _ us Q I r ⟨_, rfl, hz, q _ F H .refl z (.int _)⟩
    · cases er
  · cases er
theorem cd_abs : CallR X (.builtin "abs") (rC1 X.K dAbs) := by
  intro pins s σ H xs us Q I r h
  obtain ⟨x, rfl, F, d, v, z, pd, er, q⟩ := h
  unfold dAbs at er
  split at er
  · cases er; cases pd
    exact call_abs pins s σ H _ us Q I r ⟨_, rfl, q _ F H .refl z (.int _)⟩
  · cases er
theorem cd_int : CallR X (.type "int") (rC1 X.K dInt) := by
  intro pins s σ H xs us Q I r h
  obtain ⟨x, rfl, F, d, v, z, pd, er, q⟩ := h
  unfold dInt at er
  split at er
  · cases er; cases pd
    exact call_int1 pins s σ H _ us Q I r (.inl ⟨_, rfl, q _ F H .refl z (.int _)⟩)
  · cases er; cases pd
    exact call_int1 pins s σ H _ us Q I r (.inr ⟨_, rfl, q _ F H .refl z (.int _)⟩)
  · split at er
    · rename_i hz
      obtain ⟨n, en, rfl⟩ := Option.map_eq_some_iff.mp er
      cases pd
      exact call_int_str pins s σ H _ us Q I r ⟨_, n, rfl, en, hz, q _ F H .refl z (.int _)⟩
    · cases er
  · cases er
theorem cd_str : CallR X (.type "str") (rC1 X.K dStr) := by
  intro pins s σ H xs us Q I r h
  obtain ⟨x, rfl, F, d, v, z, pd, er, q⟩ := h
  unfold dStr at er
  split at er
  · split at er
    · rename_i hz
      cases er; cases pd
      exact call_str_int pins s σ H _ us Q I r ⟨_, rfl, hz, q _ F H .refl z (.str _)⟩
    · cases er
  · cases er
theorem ints_ok {F : Hp} : ∀ {vs : List V} {ds : List D} {ns : List Int}, DpAll X.K F vs ds → intsOf ds = some ns → vs = ns.map V.int
  | _, [], ns, p, h => by cases p; cases h; rfl
  | _, .int i :: ds, ns, p, h => by
    unfold intsOf at h
    obtain ⟨ns', h1, rfl⟩ := Option.map_eq_some_iff.mp h
    cases p with
    | cons p1 p2 =>
      cases p1
      rw [ints_ok p2 h1]
      rfl
  | _, .none :: _, _, _, h => by cases h
  | _, .bool _ :: _, _, _, h => by cases h
  | _, .str _ :: _, _, _, h => by cases h
  | _, .list _ :: _, _, _, h => by cases h
  | _, .tuple _ :: _, _, _, h => by cases h
  | _, .dict _ :: _, _, _, h => by cases h
theorem strs_ok {F : Hp} : ∀ {vs : List V} {ds : List D} {ns : List Str}, DpAll X.K F vs ds → strsOf ds = some ns → vs = ns.map V.str
  | _, [], ns, p, h => by cases p; cases h; rfl
  | _, .str i :: ds, ns, p, h => by
    unfold strsOf at h
    obtain ⟨ns', h1, rfl⟩ := Option.map_eq_some_iff.mp h
    cases p with
    | cons p1 p2 =>
      cases p1
      rw [strs_ok p2 h1]
      rfl
  | _, .none :: _, _, _, h => by cases h
  | _, .bool _ :: _, _, _, h => by cases h
  | _, .int _ :: _, _, _, h => by cases h
  | _, .list _ :: _, _, _, h => by cases h
  | _, .tuple _ :: _, _, _, h => by cases h
  | _, .dict _ :: _, _, _, h => by cases h
theorem cd_sum (hc : X.calm = true) : CallR X (.builtin "sum") (rC1 X.K dSum) := by
  intro pins s σ H xs us Q I r h
  obtain ⟨x, rfl, F, d, v, z, pd, er, q⟩ := h
  unfold dSum at er
  split at er
  · obtain ⟨ns, en, rfl⟩ := Option.map_eq_some_iff.mp er
    cases pd with
    | lst h1 p1 =>
      have h2 := SqL.sameM z.sub h1
      rw [ints_ok p1 en] at h2
      exact cr_sum hc pins s σ H _ us Q I r ⟨_, ns, rfl, h2, q _ F H .refl z (.int _)⟩
  · obtain ⟨ns, en, rfl⟩ := Option.map_eq_some_iff.mp er
    cases pd with
    | tup h1 p1 =>
      have h2 := SqT.sameM z.sub h1
      rw [ints_ok p1 en] at h2
      obtain ⟨its, rv, hl, _⟩ := I.tuple h2
      rw [Vals.ref1 r]
      obtain ⟨xs, e⟩ := rv.ints.allInts.items
      have hn : numsOf (intItems xs).toList = ns := by rw [← e]; exact rv.ints.numsOf
      rw [nums_intItems] at hn
      rw [e] at hl
      refine PySem.W.ktm_sumG (I.ok.hd hc) hl fun h' tk t' hk => ?_
      rw [preSum_eq, List.take_of_length_le (by simp), hn]
      exact ⟨.int _, H, I.kept hk, ⟨_, rfl⟩, q _ F H .refl z (.int _)⟩
  · cases er
theorem cd_max2 (hc : X.calm = true) : CallR X (.builtin "max") (rC2 X.K dMax2) := by
  intro pins s σ H xs us Q I r h
  obtain ⟨x, y, rfl, F, d, e, v, z, pd, pe, er, q⟩ := h
  unfold dMax2 at er
  split at er
  · cases er; cases pd; cases pe
    exact call_max2 hc pins s σ H _ us Q I r ⟨_, _, rfl, q _ F H .refl z (.int _)⟩
  · cases er
theorem cd_min2 (hc : X.calm = true) : CallR X (.builtin "min") (rC2 X.K dMin2) := by
  intro pins s σ H xs us Q I r h
  obtain ⟨x, y, rfl, F, d, e, v, z, pd, pe, er, q⟩ := h
  unfold dMin2 at er
  split at er
  · cases er; cases pd; cases pe
    exact call_min2 hc pins s σ H _ us Q I r ⟨_, _, rfl, q _ F H .refl z (.int _)⟩
  · cases er
theorem sign_vals {z : Str} {us : List Value} (hl : us.length = z.cps.size) (h : ∀ (j : Nat) u, us[j]? = some u → PySem.SignAt z j u) : Vals (z.cps.toList.map fun c => V.str ⟨#[c]⟩) us := by
  have go : ∀ (cs : List Nat) (us : List Value), us.length = cs.length → (∀ (j : Nat) u, us[j]? = some u → ∃ c t, cs[j]? = some c ∧ u = .str ⟨#[c]⟩ t) → Vals (cs.map fun c => V.str ⟨#[c]⟩) us := by
    intro cs
    induction cs with
    | nil =>
      intro us h1 _
      rw [List.eq_nil_of_length_eq_zero h1]
      exact .nil
    | cons c r ih =>
      intro us h1 h2
      match us, h1, h2 with
      | u :: us, h1, h2 =>
        obtain ⟨c', t, e1, e2⟩ := h2 0 u rfl
        cases e1
        exact .cons ⟨t, e2⟩ (ih us (by simpa using h1) fun j v hj => by simpa using h2 (j + 1) v (by simpa using hj))
  refine go z.cps.toList us (by simpa using hl) fun j u hj => ?_
  obtain ⟨c, t, e1, e2⟩ := h j u hj
  exact ⟨c, t, by simpa using e1, e2⟩
theorem sign_dp {K : PySem.W.Frag} {F : Hp} (cs : List Nat) : DpAll K F (cs.map fun c => V.str ⟨#[c]⟩) (cs.map fun c => PyData.str ⟨#[c]⟩) := by
  induction cs with
  | nil => exact .nil
  | cons c r ih => exact .cons (.str _) ih
theorem sign_items {z : Str} {acc : Array Value} (h : ItemsOf (PySem.SignAt z) acc z.cps.size) : Vals (z.cps.toList.map fun c => V.str ⟨#[c]⟩) acc.toList :=
  sign_vals (by rw [Array.length_toList]; exact h.1) fun j u hj => h.2 j u (by rw [← hj, Array.getElem?_toList])
theorem cd_tuple (hc : X.calm = true) : CallR X (.type "tuple") (rC1 X.K dTuple) := by
  intro pins s σ H xs us Q I r h
  obtain ⟨x, rfl, F, d, v, z, pd, er, q⟩ := h
  unfold dTuple at er
  split at er
  · cases er
    cases pd with
    | lst h1 p1 => exact call_tuple_of pins s σ H _ us Q I r ⟨_, _, rfl, .inl ⟨SqL.sameM z.sub h1, fun a ha => tup_new z p1 q a ha⟩⟩
  · cases er
    cases pd with
    | tup h1 p1 => exact call_tuple_of pins s σ H _ us Q I r ⟨_, _, rfl, .inr ⟨SqT.sameM z.sub h1, q _ F H .refl z (.tup h1 p1)⟩⟩
  · split at er
    · rename_i t hz
      cases er
      cases pd
      cases r with
      | cons r rr =>
        cases rr
        obtain ⟨tk0, rfl⟩ := r
        rw [lim_eq] at hz
        have hz2 : t.cps.size ≤ sizeLine := by simpa [Str.length] using hz
        refine call_tuple_str (I.ok.hd hc) t tk0 (fun h' tk acc hk hi => ?_) hz2
        have I2 : Inv X pins σ H { s with heap := h', toks := tk } := I.kept hk
        refine ⟨.ref h'.objs.size, upd H h'.objs.size (.tup (t.cps.toList.map fun c => V.str ⟨#[c]⟩)), I2.laid (t' := tk) (fun c o e => Heap.get?_push_of_some _ e) (Nat.le_refl _) (show ObjOk X.prog X.w _ _ _ (.tup (t.cps.toList.map fun c => V.str ⟨#[c]⟩)) from ⟨?_, acc.toList, sign_items hi, ?_⟩), rfl, tup_new z (sign_dp _) q _ (I2.hok.fresh (Nat.le_refl _))⟩
        · rw [List.length_map, Array.length_toList]
          exact hz2
        · rw [Array.toArray_toList]
          exact IsTup.new _ _
    · cases er
  · cases er
/-- isinstance -/
theorem isi_run {t : Ty} {T : String} (rule : ∀ {A : Around} {E : Value → Shared → Prop} {s : Shared} {v : Value} {d : D} {as : List Addr} {Q : Value → Shared → Prop}, Reads s.heap v d as → (∀ tk, s.toks ≤ tk → Q (.bool (t.has d)) { s with toks := tk }) → wpAny (model X.prog X.w) A (call (.builtin "isinstance") [v, .type T]) Q E s) :
    CallR X (.builtin "isinstance") (fun xs H Q => ∃ x, xs = [x, .ty T] ∧ rD1 X.K (dIsi t) x H Q) := by
  intro pins s σ H xs us Q I r h
  obtain ⟨x, rfl, F, d, v, z, pd, er, q⟩ := h
  cases er
  obtain ⟨u, w, rfl, r1, r2⟩ := vals2 r
  cases r2
  obtain ⟨as, rd⟩ := Dp.reads2 I z pd r1
  exact rule rd fun tk _ => bl_end (tk := tk) I z q
theorem cd_isInt : CallR X (.builtin "isinstance") (fun xs H Q => ∃ x, xs = [x, .ty "int"] ∧ rD1 X.K (dIsi .int) x H Q) := isi_run fun {A E s v d as Q} r h => PySem.W.isinstance_int_data r fun tk ht => by
  have e : d.isInt = Ty.has .int d := by cases d <;> rfl
  rw [e]; exact h tk ht
theorem cd_isBool : CallR X (.builtin "isinstance") (fun xs H Q => ∃ x, xs = [x, .ty "bool"] ∧ rD1 X.K (dIsi .bool) x H Q) := isi_run fun {A E s v d as Q} r h => PySem.W.isinstance_bool_data r fun tk ht => by
  have e : d.isBool = Ty.has .bool d := by cases d <;> rfl
  rw [e]; exact h tk ht
theorem cd_isStr : CallR X (.builtin "isinstance") (fun xs H Q => ∃ x, xs = [x, .ty "str"] ∧ rD1 X.K (dIsi .str) x H Q) := isi_run fun {A E s v d as Q} r h => PySem.W.isinstance_str_data r fun tk ht => by
  have e : d.isStr = Ty.has .str d := by cases d <;> rfl
  rw [e]; exact h tk ht
theorem cd_isList : CallR X (.builtin "isinstance") (fun xs H Q => ∃ x, xs = [x, .ty "list"] ∧ rD1 X.K (dIsi .list) x H Q) := isi_run fun {A E s v d as Q} r h => PySem.W.isinstance_list_data r fun tk ht => by
  have e : d.isList = Ty.has .list d := by cases d <;> rfl
  rw [e]; exact h tk ht
theorem cd_isTuple : CallR X (.builtin "isinstance") (fun xs H Q => ∃ x, xs = [x, .ty "tuple"] ∧ rD1 X.K (dIsi .tuple) x H Q) := isi_run fun {A E s v d as Q} r h => PySem.W.isinstance_tuple_data r fun tk ht => by
  have e : d.isTuple = Ty.has .tuple d := by cases d <;> rfl
  rw [e]; exact h tk ht
/-- sep.join(xs) -/
theorem ev_join {apos : Pos} (ha : PE X a (tM X.K A E ρ ma)) (hb : PE X b (tM X.K A E ρ mb)) (hs : starEach [b] X.env = [(false, eval b X.env)] := by rfl) (hbase : attributeBase a "join" X.env (eval a X.env) = eval a X.env := by rfl) (hline : (apos.endLine == pos.line) = true := by rfl) :
    PE X (.Call (.Attribute a "join" apos) [b] [] pos) (tM X.K A E ρ (joinM ma mb)) := (pe_join ha hb hs hbase hline).impM fun σ H Q ⟨c, F, B, h⟩ => by
  refine ⟨c, F, B, (tG.bind (R := RD X.K) h).mono fun x H1 ⟨d, c1, F1, e1, r1, h1⟩ => ?_⟩
  split at h1
  · rename_i sx
    cases r1
    refine ⟨⟨_, rfl⟩, c1, F1, B, (tG.bind (R := RD X.K) h1).mono fun y H2 ⟨d2, c2, F2, e2, r2, h2⟩ => ?_⟩
    obtain ⟨v, er, q⟩ := h2.lft
    unfold dJoin at er
    cases hx : seqOf d2 with
    | none => rw [hx] at er; cases er
    | some xs =>
      rw [hx] at er
      simp only at er
      cases hy : strsOf xs with
      | none => rw [hy] at er; cases er
      | some ys =>
        rw [hy] at er
        simp only at er
        split at er
        · rename_i hz
          cases er
          have go : ∀ p, (SqL X.K H2 p (ys.map V.str) ∨ SqT X.K H2 p (ys.map V.str)) → ∃ a p', ∃ ys : List Str, V.str sx = .str a ∧ [V.ref p] = [.ref p'] ∧ (SqL X.K H2 p' (ys.map V.str) ∨ SqT X.K H2 p' (ys.map V.str)) ∧
              (ys.map (·.length)).sum + ys.length * a.length ≤ 16777216 ∧ Q (.str (Txt.join a ys)) H2 := fun p hp => ⟨sx, p, ys, rfl, rfl, hp, hz, by rw [TL.join_eq]; exact q _ F2 H2 .refl h2.1.frz (.str _)⟩
          unfold seqOf at hx
          split at hx
          · cases hx
            cases r2 with
            | lst h3 p3 =>
              have h4 := SqL.sameM h2.1.frz.sub h3
              rw [strs_ok p3 hy] at h4
              exact go _ (.inl h4)
          · cases hx
            cases r2 with
            | tup h3 p3 =>
              have h4 := SqT.sameM h2.1.frz.sub h3
              rw [strs_ok p3 hy] at h4
              exact go _ (.inr h4)
          · cases hx
        · cases er
  · exact h1.2.2.elim
end
end Mir

set_option maxRecDepth 100000
namespace Mir
open PySem PySem.Spec PyProof.Rows L2
section
variable {X : Cx} {A : Option Addr} {E : Exc → L2.St → Hp → Prop} {ρ : List Sl} {a b c e : Expr} {es : List Expr} {ma mb mc : M D} {ms : List (M D)} {pos p : Pos} {x : Str}
variable {pins : List (Addr × Obj)} {s : Shared} {σ : L2.St} {H F : Hp}
/-! ### truth of all, of any -/
theorem fits_of {d : D} {v : V} {bb : Bool} (I : Inv X pins σ H s) (pd : Dp X.K H v d) (h : dTru d = some bb) : d.fits63 ∧ d.truthy = bb := by
  have hn := line63
  unfold dTru at h
  split at h
  · split at h
    · rename_i hz
      cases h
      refine ⟨?_, rfl⟩
      rw [lim_eq] at hz
      show (_ : Int) < 2 ^ 63
      omega
    · cases h
  · cases h
  · rename_i n1 n2
    cases h
    refine ⟨?_, rfl⟩
    cases pd with
    | non => trivial
    | bl => trivial
    | int => trivial
    | str x => exact (n1 x rfl).elim
    | lst h1 p1 =>
      obtain ⟨_, _, _, hz⟩ := I.list h1
      have := p1.lenM
      show (_ : Int) < 2 ^ 63
      omega
    | tup h1 p1 =>
      obtain ⟨_, _, _, hz⟩ := I.tuple h1
      have := p1.lenM
      show (_ : Int) < 2 ^ 63
      omega
theorem fits_all (I : Inv X pins σ H s) : ∀ {ds : List D} {vs : List V} {bs : List Bool}, DpAll X.K H vs ds → truAll ds = some bs → (∀ d ∈ ds, d.fits63) ∧ ds.map PyData.truthy = bs
  | [], _, bs, _, h => by cases h; exact ⟨fun _ h => (nomatch h), rfl⟩
  | d :: ds, _, bs, p, h => by
    cases p with
    | cons p1 p2 =>
      unfold truAll at h
      cases h1 : dTru d with
      | none => rw [h1] at h; cases h
      | some b =>
        cases h2 : truAll ds with
        | none => rw [h1, h2] at h; cases h
        | some bs' =>
          rw [h1, h2] at h
          cases h
          obtain ⟨i1, i2⟩ := fits_all I p2 h2
          obtain ⟨f1, f2⟩ := fits_of I p1 h1
          refine ⟨fun y hy => ?_, by rw [List.map_cons, f2, i2]⟩
          rcases List.mem_cons.mp hy with rfl | hy
          · exact f1
          · exact i1 y hy
/-- a list or a tuple of data, as the library reads it -/
inductive SeqV (h : Heap) (d : D) (xs : List D) : Value → Prop
  | lst {l : Addr} {vs : Array Value} {as : List Addr} : d = .list xs → h.IsList l vs → ReadsAll h vs.toList xs as → SeqV h d xs (.ref l)
  | tup {l : Addr} {vs : Array Value} {as : List Addr} : d = .tuple xs → h.IsTuple l vs → ReadsAll h vs.toList xs as → SeqV h d xs (.ref l)
theorem seq_reads {d : D} {xs : List D} {v : V} {u : Value} (I : Inv X pins σ H s) (z : Frz F H) (pd : Dp X.K F v d) (r : RelV v u) (h : seqOf d = some xs) : SeqV s.heap d xs u ∧ ∃ vs, DpAll X.K F vs xs ∧ xs.length ≤ sizeLine := by
  unfold seqOf at h
  split at h
  · cases h
    cases pd with
    | lst h1 p1 =>
      cases r
      obtain ⟨its, rv, pl, hz⟩ := I.list (SqL.sameM z.sub h1)
      obtain ⟨as, hr⟩ := Dp.readsAll I _ _ its (DpAll.sameM z.sub _ _ p1) rv
      exact ⟨.lst rfl pl.isList (by simpa using hr), _, p1, by rw [← p1.lenM]; exact hz⟩
  · cases h
    cases pd with
    | tup h1 p1 =>
      cases r
      obtain ⟨its, rv, pl, hz⟩ := I.tuple (SqT.sameM z.sub h1)
      obtain ⟨as, hr⟩ := Dp.readsAll I _ _ its (DpAll.sameM z.sub _ _ p1) rv
      exact ⟨.tup rfl pl (by simpa using hr), _, p1, by rw [← p1.lenM]; exact hz⟩
  · cases h
theorem any_map (xs : List D) : xs.any PyData.truthy = (xs.map PyData.truthy).any id := by
  induction xs with
  | nil => rfl
  | cons x r ih => rw [List.any_cons, List.map_cons, List.any_cons, ih]; rfl
theorem all_map (xs : List D) : xs.all PyData.truthy = (xs.map PyData.truthy).all id := by
  induction xs with
  | nil => rfl
  | cons x r ih => rw [List.all_cons, List.map_cons, List.all_cons, ih]; rfl
theorem cd_any (hc : X.calm = true) : CallR X (.builtin "any") (rC1 X.K dAny) := by
  intro pins s σ H xs us Q I r h
  obtain ⟨x, rfl, F, d, v, z, pd, er, q⟩ := h
  unfold dAny at er
  cases hx : seqOf d with
  | none => rw [hx] at er; cases er
  | some xs =>
    rw [hx] at er
    obtain ⟨bs, eb, rfl⟩ := Option.map_eq_some_iff.mp er
    obtain ⟨u, rfl, rx⟩ := vals1 r
    obtain ⟨sv, vs, pa, _⟩ := seq_reads I z pd rx hx
    have pa' := DpAll.sameM z.sub _ _ pa
    obtain ⟨f1, f2⟩ := fits_all I pa' eb
    have e : xs.any PyData.truthy = bs.any id := by rw [any_map, f2]
    rw [← e] at q
    cases sv with
    | lst _ hl hr => exact PySem.W.any_list_data (I.ok.hd hc) hl hr (DpAll.plainM _ _ pa) f1 fun h' tk hk => ⟨.bl _, H, I.kept hk, rfl, q _ F H .refl z (.bl _)⟩
    | tup _ hl hr => exact PySem.W.any_tuple_data (I.ok.hd hc) hl hr (DpAll.plainM _ _ pa) f1 fun h' tk hk => ⟨.bl _, H, I.kept hk, rfl, q _ F H .refl z (.bl _)⟩
theorem cd_all (hc : X.calm = true) : CallR X (.builtin "all") (rC1 X.K dAll) := by
  intro pins s σ H xs us Q I r h
  obtain ⟨x, rfl, F, d, v, z, pd, er, q⟩ := h
  unfold dAll at er
  cases hx : seqOf d with
  | none => rw [hx] at er; cases er
  | some xs =>
    rw [hx] at er
    obtain ⟨bs, eb, rfl⟩ := Option.map_eq_some_iff.mp er
    obtain ⟨u, rfl, rx⟩ := vals1 r
    obtain ⟨sv, vs, pa, _⟩ := seq_reads I z pd rx hx
    have pa' := DpAll.sameM z.sub _ _ pa
    obtain ⟨f1, f2⟩ := fits_all I pa' eb
    have e : xs.all PyData.truthy = bs.all id := by rw [all_map, f2]
    rw [← e] at q
    cases sv with
    | lst _ hl hr => exact PySem.W.all_list_data (I.ok.hd hc) hl hr (DpAll.plainM _ _ pa) f1 fun h' tk hk => ⟨.bl _, H, I.kept hk, rfl, q _ F H .refl z (.bl _)⟩
    | tup _ hl hr => exact PySem.W.all_tuple_data (I.ok.hd hc) hl hr (DpAll.plainM _ _ pa) f1 fun h' tk hk => ⟨.bl _, H, I.kept hk, rfl, q _ F H .refl z (.bl _)⟩

/-! ### max, min of one sequence -/
theorem alikeB_ok {xs : List D} (h : alikeB xs = true) : PySem.W.AlikeAll xs := by
  unfold alikeB at h
  have h := List.all_eq_true.mp h
  refine ⟨fun x hx y hy => ?_, fun x hx e => ?_⟩
  · exact List.all_eq_true.mp (Bool.and_eq_true_iff.mp (h x hx)).1 y hy
  · have := (Bool.and_eq_true_iff.mp (h x hx)).2
    subst e
    cases this
theorem room_all {k n : Nat} {A : Around} (r : Room k A) (h : n ≤ 60) : A.units + 1 + n < cLine := by
  have := r.un
  omega
/-- what an item of data reads as, back to V -/
theorem max_item {d : D} {xs : List D} {u w : Value} {v : V} {r0 : D} {as : List Addr} {h' : Heap} {i : Nat} {Q : VK} {tk : Nat} (I : Inv X pins σ H s) (z : Frz F H) (pd : Dp X.K F v d) (r : RelV v u) (hx : seqOf d = some xs)
    (hv : ∀ vs : Array Value, (∃ l, u = .ref l ∧ (s.heap.IsList l vs ∨ s.heap.IsTuple l vs)) → vs[i]? = some w) (hr : Reads h' w r0 as) (hp : r0.plain = true) (hk : ∀ b o, s.heap.get? b = some o → h'.get? b = some o)
    (q : ∀ v F' H', Ext none F H F' H' → Frz F' H' → Dp X.K F' v r0 → Q v H') : EP X pins σ Q w { s with heap := h', toks := tk } := by
  have I' := I.kept (t' := tk) hk
  have go : ∀ (vs : List V) (its : List Value), Vals vs its → DpAll X.K F vs xs → its[i]? = some w → EP X pins σ Q w { s with heap := h', toks := tk } := fun vs its rv pa e => by
    have hi : i < vs.length := by
      rw [rv.length]
      exact (List.getElem?_eq_some_iff.mp e).1
    obtain ⟨u2, e2, r2⟩ := rv.get (List.getElem?_eq_getElem hi)
    rw [e] at e2
    cases e2
    obtain ⟨d2, e3, p2⟩ := pa.getM (List.getElem?_eq_getElem hi)
    obtain ⟨as2, rd2⟩ := Dp.reads I' d2 _ w (Dp.sameM z.sub _ _ p2) r2
    have := PySem.SeqAt.plain_unique d2 r0 w _ _ (Dp.plainM _ _ p2) rd2 hr
    subst this
    exact ⟨_, H, I', r2, q _ F H .refl z p2⟩
  unfold seqOf at hx
  split at hx
  · cases hx
    cases pd with
    | lst h1 p1 =>
      cases r
      obtain ⟨its, rv, pl, hz⟩ := I.list (SqL.sameM z.sub h1)
      exact go _ its rv p1 (by have := hv its.toArray ⟨_, rfl, .inl pl.isList⟩; simpa using this)
  · cases hx
    cases pd with
    | tup h1 p1 =>
      cases r
      obtain ⟨its, rv, pl, hz⟩ := I.tuple (SqT.sameM z.sub h1)
      exact go _ its rv p1 (by have := hv its.toArray ⟨_, rfl, .inr pl⟩; simpa using this)
  · cases hx
theorem isList_fun {h : Heap} {l : Addr} {vs ws : Array Value} (a : h.IsList l vs) (b : h.IsList l ws) : vs = ws := by
  obtain ⟨o, e, _, n, d⟩ := a
  obtain ⟨o', e', _, n', d'⟩ := b
  rw [e] at e'; cases e'
  rw [d] at d'; cases d'
  rfl
theorem isTuple_fun {h : Heap} {l : Addr} {vs ws : Array Value} (a : h.IsTuple l vs) (b : h.IsTuple l ws) : vs = ws := by
  obtain ⟨o, e, _, n, d⟩ := a
  obtain ⟨o', e', _, n', d'⟩ := b
  rw [e] at e'; cases e'
  rw [d] at d'; cases d'
  rfl
theorem listNotTuple {h : Heap} {l : Addr} {vs ws : Array Value} (a : h.IsList l vs) (b : h.IsTuple l ws) : False := by
  obtain ⟨o, e, c, n, d⟩ := a
  obtain ⟨o', e', c', n', d'⟩ := b
  rw [e] at e'; cases e'
  rw [c] at c'
  exact absurd c' (by decide +kernel)
theorem mem_plain {x : D} : ∀ {xs : List D}, PyData.plainAll xs = true → x ∈ xs → x.plain = true := fun h m => PySem.W.plain_mem h m
theorem fold_mem (f : D → D → Bool) : ∀ (xs : List D) (x : D), xs.foldl (fun a y => if f a y then y else a) x ∈ x :: xs
  | [], x => List.mem_cons_self
  | y :: r, x => by
    show r.foldl _ (if f x y = true then y else x) ∈ _
    have := fold_mem f r (if f x y = true then y else x)
    rcases List.mem_cons.mp this with e | m
    · rw [e]
      split
      · simp
      · simp
    · simp [m]
theorem cd_max {k : Nat} (hr : Room k X.A) (hc : X.calm = true) : CallR X (.builtin "max") (rC1 X.K dMax) := by
  intro pins s σ H xs us Q I r h
  obtain ⟨x, rfl, F, d, v, z, pd, er, q⟩ := h
  unfold dMax at er
  split at er
  · rename_i y ys hx
    split at er
    · rename_i ho
      cases er
      obtain ⟨h1, h2⟩ := Bool.and_eq_true_iff.mp ho
      have h2 := of_decide_eq_true h2
      obtain ⟨u, rfl, rx⟩ := vals1 r
      obtain ⟨sv, vs, pa, _⟩ := seq_reads I z pd rx hx
      have pl : (mxD y ys).plain = true := mem_plain (DpAll.plainM _ _ pa) (fold_mem (fun a y => PySem.W.dataLt a y) ys y)
      cases sv with
      | lst ed hl hrd =>
        exact PySem.W.max_list_data (I.ok.hd hc) hl hrd (alikeB_ok h1) (room_all hr h2) fun i w h' tk bs hv rd hk =>
          max_item I z pd rx hx (fun vs' ⟨l', el, hh⟩ => by
            cases el
            rcases hh with hh | hh
            · rw [isList_fun hh hl]; exact hv
            · exact (listNotTuple hl hh).elim) rd pl hk q
      | tup ed hl hrd =>
        exact PySem.W.max_tuple_data (I.ok.hd hc) hl hrd (alikeB_ok h1) (room_all hr h2) fun i w h' tk bs hv rd hk =>
          max_item I z pd rx hx (fun vs' ⟨l', el, hh⟩ => by
            cases el
            rcases hh with hh | hh
            · exact (listNotTuple hh hl).elim
            · rw [isTuple_fun hh hl]; exact hv) rd pl hk q
    · cases er
  · cases er
theorem cd_min {k : Nat} (hr : Room k X.A) (hc : X.calm = true) : CallR X (.builtin "min") (rC1 X.K dMin) := by
  intro pins s σ H xs us Q I r h
  obtain ⟨x, rfl, F, d, v, z, pd, er, q⟩ := h
  unfold dMin at er
  split at er
  · rename_i y ys hx
    split at er
    · rename_i ho
      cases er
      obtain ⟨h1, h2⟩ := Bool.and_eq_true_iff.mp ho
      have h2 := of_decide_eq_true h2
      obtain ⟨u, rfl, rx⟩ := vals1 r
      obtain ⟨sv, vs, pa, _⟩ := seq_reads I z pd rx hx
      have pl : (mnD y ys).plain = true := mem_plain (DpAll.plainM _ _ pa) (fold_mem (fun a y => PySem.W.dataLt y a) ys y)
      cases sv with
      | lst ed hl hrd =>
        exact PySem.W.min_list_data (I.ok.hd hc) hl hrd (alikeB_ok h1) (room_all hr h2) fun i w h' tk bs hv rd hk =>
          max_item I z pd rx hx (fun vs' ⟨l', el, hh⟩ => by
            cases el
            rcases hh with hh | hh
            · rw [isList_fun hh hl]; exact hv
            · exact (listNotTuple hl hh).elim) rd pl hk q
      | tup ed hl hrd =>
        exact PySem.W.min_tuple_data (I.ok.hd hc) hl hrd (alikeB_ok h1) (room_all hr h2) fun i w h' tk bs hv rd hk =>
          max_item I z pd rx hx (fun vs' ⟨l', el, hh⟩ => by
            cases el
            rcases hh with hh | hh
            · exact (listNotTuple hh hl).elim
            · rw [isTuple_fun hh hl]; exact hv) rd pl hk q
    · cases er
  · cases er
end
end Mir

set_option maxRecDepth 100000
/-! MirC1: what is walked: any list, tuple, text; pairs of two such; numbered items. -/
namespace Mir
open PySem PySem.Spec PyProof.Rows L2

/-! ### enumerate(v) of one argument, v told by what its iterator begins with -/
set_option maxHeartbeats 1000000 in
theorem meets_enum1 {v : Value} {o : Obj} {H : Heap → Prop} (B : Begins v o H) :
    Meets (Builtin.«enumerate.__new__» ⟨[.type "enumerate", v], []⟩) (fun _ R s => H s.heap ∧
      R (.ok (.ret (.ref (s.heap.push o).objs.size))) { s with heap := (s.heap.push o).push { cls := .type "enumerate", data := .fields #[.none, .bool false, .ref s.heap.objs.size, rawInt 0, .none, .none] } }) :=
  .of_wp fun prog w A R s h => by
    obtain ⟨hp, g, d, tk, os⟩ := s; obtain ⟨h1, h⟩ := h
    have hsub := sub_enumerate
    have q1 : ∀ {A' : Around} {E : Value → Shared → Prop} {Q : Value → Shared → Prop}, Q (.ref hp.objs.size) ⟨hp.push o, g, d, tk, os⟩ → wpAny (model prog w) A' (pyIter v) Q E ⟨hp, g, d, tk, os⟩ :=
      fun q => B.iter prog w _ _ ⟨hp, g, d, tk, os⟩ _ h1 q
    wp_walk using q1
    refine wpAny_stack_any fun st => wpAny_pure ?_
    split
    · rename_i c _ _ _ _ _
      cases (c == Value.type "enumerate")
      · wp_walk using q1
        exact ⟨_, rfl, h⟩
      · wp_walk using q1
        exact ⟨_, rfl, h⟩
    · wp_walk using q1
      exact ⟨_, rfl, h⟩
theorem enum_begins1 {prog : Program} {w : World} {A : Around} {E : Value → Shared → Prop} {s : Shared} {v : Value} {o : Obj} {H : Heap → Prop} {Q : Value → Shared → Prop} (B : Begins v o H) (h1 : H s.heap)
    (h : ∀ h', IsEnum h' (s.heap.objs.size + 1) s.heap.objs.size 0 .none → h'.get? s.heap.objs.size = some o → h'.objs.size = s.heap.objs.size + 2 →
      (∀ b o, s.heap.get? b = some o → h'.get? b = some o) → Q (.ref (s.heap.objs.size + 1)) { s with heap := h' }) :
    wpAny (model prog w) A (call (.type "enumerate") [v]) Q E s := by
  refine callType_new F.called_enumerate (by decide) (F.typeCall_enumerate_1 _) (F.newCall_enumerate_1 _) (fun obj => F.args_object_init_2 obj _) F.entry_enumerate_new (meets_enum1 B) ⟨h1, ?_⟩
  have hz : (s.heap.push o).objs.size = s.heap.objs.size + 1 := Heap.size_push ..
  show _ ∧ _
  rw [hz]
  have he : IsEnum ((s.heap.push o).push { cls := .type "enumerate", data := .fields #[.none, .bool false, .ref s.heap.objs.size, rawInt 0, .none, .none] }) (s.heap.objs.size + 1) s.heap.objs.size 0 .none := by
    have := Heap.get?_push_size (s.heap.push o) (o := { cls := .type "enumerate", data := .fields #[.none, .bool false, .ref s.heap.objs.size, rawInt 0, .none, .none] }) rfl
    rw [hz] at this; exact this
  refine ⟨⟨_, he, rfl⟩, h _ he (Heap.get?_push_of_some _ (Heap.get?_push_size _ B.free)) (by rw [Heap.size_push, hz]) fun b o x => Heap.get?_push_of_some _ (Heap.get?_push_of_some _ x)⟩

/-! ### a source: a list, a tuple, a text -/
inductive Kd | l | t | s
def SrcV (K : PySem.W.Frag) (H : Hp) : Kd → V → List V → Prop
  | .l, x, xs => ∃ a, x = .ref a ∧ SqL K H a xs
  | .t, x, xs => ∃ a, x = .ref a ∧ SqT K H a xs
  | .s, x, xs => ∃ z : Str, x = .str z ∧ xs = z.cps.toList.map fun c => .str ⟨#[c]⟩
/-- its iterator at it, ahead of turn i -/
def SubSt : Kd → V → Addr → Nat → Heap → Prop
  | .l, x, it, i, h => ∃ a, x = .ref a ∧ h.IsListIter it a i
  | .t, x, it, i, h => ∃ a, x = .ref a ∧ h.IsTupleIter it a i
  | .s, x, it, i, h => ∃ z t, x = .str z ∧ h.IsStrIter it (strIterType z) z t i
theorem SubSt.obj {k : Kd} {x : V} {it : Addr} {i : Nat} {h : Heap} (st : SubSt k x it i h) : ∃ o, h.get? it = some o ∧ ∀ v, o.data ≠ .cell v := by
  cases k with
  | l => obtain ⟨a, _, o, e, _, d⟩ := st; exact ⟨o, e, fun v z => by rw [d] at z; cases z⟩
  | t => obtain ⟨a, _, o, e, _, d⟩ := st; exact ⟨o, e, fun v z => by rw [d] at z; cases z⟩
  | s => obtain ⟨z, t, _, o, e, _, d⟩ := st; exact ⟨o, e, fun v q => by rw [d] at q; cases q⟩
theorem SubSt.keep {k : Kd} {x : V} {it : Addr} {i : Nat} {h h' : Heap} (st : SubSt k x it i h) (q : ∀ o, h.get? it = some o → h'.get? it = some o) : SubSt k x it i h' := by
  cases k with
  | l => obtain ⟨a, e, r⟩ := st; exact ⟨a, e, r.at q⟩
  | t => obtain ⟨a, e, r⟩ := st; exact ⟨a, e, r.at q⟩
  | s => obtain ⟨z, t, e, o, ho, r⟩ := st; exact ⟨z, t, e, o, q o ho, r⟩
section
variable {X : Cx} {pins : List (Addr × Obj)} {σ : L2.St} {H : Hp} {s : Shared}
/-- the source stands apart from what is walked with -/
theorem src_ne {a b : Addr} {xs : List V} (I : Inv X pins σ H s) (h : SqL X.K H a xs ∨ SqT X.K H a xs) (f : FpOk X pins H b) : a ≠ b := fun e => by
  subst e
  obtain ⟨f0, _, _, f3, _⟩ := f
  have nk : ∀ o, X.K.lookup a = some o → False := fun o hk => by
    have hb := I.mod.kin a o hk
    rcases f3 with z | z
    · exact I.ok.noex a o hb z
    · exact Nat.lt_irrefl _ (Nat.lt_of_lt_of_le (Nat.lt_of_lt_of_le (Heap.lt_size hb) I.ok.bsz) z)
  rcases h with ((h | ⟨o, h⟩) | ⟨o, _, _, hk, _⟩) | ((h | ⟨o, h⟩) | ⟨o, _, _, hk, _⟩)
  · rw [f0] at h; cases h
  · rw [f0] at h; cases h
  · exact nk o hk
  · rw [f0] at h; cases h
  · rw [f0] at h; cases h
  · exact nk o hk
/-- what the iterator draws -/
structure DrawsV (X : Cx) (s : Shared) (k : Kd) (x : V) (xs : List V) (it : Addr) (fp : List Addr) (n : Nat) (P : Nat → Value → Prop) (St : Nat → Heap → Prop) : Prop where
  d : Draws X.prog X.w X.A.in1 it fp n P St
  n_ : n = xs.length
  mem : it ∈ fp
  st : ∀ i, SubSt k x it i s.heap → St i s.heap
  back : ∀ i h, St i h → SubSt k x it i h
  val : ∀ i v, P i v → ∃ w, xs[i]? = some w ∧ RelV w v
theorem draws_of {k : Kd} {x : V} {xs : List V} {it : Addr} {i : Nat} (hh : X.A.handled = none) (I : Inv X pins σ H s) (sv : SrcV X.K H k x xs) (st : SubSt k x it i s.heap) (f : FpOk X pins H it) :
    ∃ fp P St, DrawsV X s k x xs it fp xs.length P St ∧ ∀ b, b ∈ fp → b = it ∨ ∃ a, b = a ∧ (SqL X.K H a xs ∨ SqT X.K H a xs) := by
  have hh1 : X.A.in1.handled = none := hh
  cases k with
  | l =>
    obtain ⟨a, rfl, hq⟩ := sv
    obtain ⟨its, rv, pl, hz⟩ := I.list hq
    have hl := rv.length
    have ne := src_ne I (.inl hq) f
    have hn : its.toArray.size = xs.length := by rw [List.size_toArray, hl]
    refine ⟨[it, a], fun i v => its.toArray[i]? = some v, fun i h => h.IsListIter it a i ∧ h.IsList a its.toArray, ⟨by rw [← hn]; exact Draws.list hh1 it a ne its.toArray, rfl, by simp, fun j q => ?_, fun j h q => ⟨a, rfl, q.1⟩, fun j v q => ?_⟩, fun b hb => ?_⟩
    · obtain ⟨a', e, r⟩ := q
      cases e
      exact ⟨r, pl.isList⟩
    · have hj : j < its.length := by
        have := (Array.getElem?_eq_some_iff.mp q).1
        simpa using this
      have hx : xs[j]? = some (xs[j]'(by omega)) := List.getElem?_eq_getElem (by omega)
      obtain ⟨u, e, r⟩ := rv.get hx
      have q' : its[j]? = some v := by simpa using q
      rw [e] at q'
      cases q'
      exact ⟨_, hx, r⟩
    · rcases List.mem_cons.mp hb with e | e
      · exact .inl e
      · exact .inr ⟨b, rfl, .inl (by rw [List.mem_singleton.mp e]; exact hq)⟩
  | t =>
    obtain ⟨a, rfl, hq⟩ := sv
    obtain ⟨its, rv, pl, hz⟩ := I.tuple hq
    have hl := rv.length
    have ne := src_ne I (.inr hq) f
    have hn : its.toArray.size = xs.length := by rw [List.size_toArray, hl]
    refine ⟨[it, a], fun i v => its.toArray[i]? = some v, fun i h => h.IsTupleIter it a i ∧ h.IsTuple a its.toArray, ⟨by rw [← hn]; exact Draws.tuple hh1 it a ne its.toArray, rfl, by simp, fun j q => ?_, fun j h q => ⟨a, rfl, q.1⟩, fun j v q => ?_⟩, fun b hb => ?_⟩
    · obtain ⟨a', e, r⟩ := q
      cases e
      exact ⟨r, pl⟩
    · have hj : j < its.length := by
        have := (Array.getElem?_eq_some_iff.mp q).1
        simpa using this
      have hx : xs[j]? = some (xs[j]'(by omega)) := List.getElem?_eq_getElem (by omega)
      obtain ⟨u, e, r⟩ := rv.get hx
      have q' : its[j]? = some v := by simpa using q
      rw [e] at q'
      cases q'
      exact ⟨_, hx, r⟩
    · rcases List.mem_cons.mp hb with e | e
      · exact .inl e
      · exact .inr ⟨b, rfl, .inr (by rw [List.mem_singleton.mp e]; exact hq)⟩
  | s =>
    obtain ⟨z, rfl, rfl⟩ := sv
    obtain ⟨z', t, e, st⟩ := st
    cases e
    have hn : z.cps.size = (z.cps.toList.map fun c => V.str ⟨#[c]⟩).length := by simp
    refine ⟨[it], fun i v => ∃ c u, z.cps[i]? = some c ∧ v = .str ⟨#[c]⟩ u, fun i h => h.IsStrIter it (strIterType z) z t i, ⟨by rw [← hn]; exact Draws.text hh1 it z t, rfl, by simp, fun j q => ?_, fun j h q => ⟨z, t, rfl, q⟩, fun j v q => ?_⟩, fun b hb => .inl (List.mem_singleton.mp hb)⟩
    · obtain ⟨z2, t2, e2, q⟩ := q
      cases e2
      obtain ⟨o1, a1, b1, c1⟩ := st
      obtain ⟨o2, a2, b2, c2⟩ := q
      rw [a1] at a2
      cases a2
      rw [c1] at c2
      have e3 : t = t2 := by
        injection c2 with c2
        have := congrArg (fun a : Array Value => a[0]?) c2
        simp at this
        exact this
      subst e3
      exact ⟨_, a1, b1, by rw [c1, c2]⟩
    · obtain ⟨c, u, hc, rfl⟩ := q
      refine ⟨.str ⟨#[c]⟩, ?_, ⟨u, rfl⟩⟩
      rw [List.getElem?_map, Array.getElem?_toList, hc]
      rfl
/-- it begins -/
theorem src_begins {k : Kd} {x : V} {xs : List V} {u : Value} (I : Inv X pins σ H s) (sv : SrcV X.K H k x xs) (r : RelV x u) : ∃ o HB, Begins u o HB ∧ HB s.heap ∧ ∀ h it, h.get? it = some o → SubSt k x it 0 h := by
  cases k with
  | l =>
    obtain ⟨a, rfl, hq⟩ := sv
    cases r
    obtain ⟨its, rv, pl, hz⟩ := I.list hq
    exact ⟨_, _, begins_list a its.toArray, pl.isList, fun h it e => ⟨a, rfl, _, e, rfl, rfl⟩⟩
  | t =>
    obtain ⟨a, rfl, hq⟩ := sv
    cases r
    obtain ⟨its, rv, pl, hz⟩ := I.tuple hq
    exact ⟨_, _, begins_tuple a its.toArray, pl, fun h it e => ⟨a, rfl, _, e, rfl, rfl⟩⟩
  | s =>
    obtain ⟨z, rfl, rfl⟩ := sv
    obtain ⟨t, rfl⟩ := r
    exact ⟨_, _, begins_text z t, trivial, fun h it e => ⟨z, t, rfl, _, e, rfl, rfl⟩⟩
theorem src_line {k : Kd} {x : V} {xs : List V} (I : Inv X pins σ H s) (a : SrcV X.K H k x xs) (h : k ≠ .s) : xs.length ≤ sizeLine := by
  cases k with
  | l => obtain ⟨p, rfl, q⟩ := a; obtain ⟨_, _, _, hz⟩ := I.list q; exact hz
  | t => obtain ⟨p, rfl, q⟩ := a; obtain ⟨_, _, _, hz⟩ := I.tuple q; exact hz
  | s => exact absurd rfl h
theorem src_fun {k : Kd} {x : V} {xs ys : List V} (I : Inv X pins σ H s) (a : SrcV X.K H k x xs) (b : SrcV X.K H k x ys) : xs = ys := by
  cases k with
  | l => obtain ⟨p, rfl, h⟩ := a; obtain ⟨q, e, h'⟩ := b; cases e; exact I.list_inj h h'
  | t => obtain ⟨p, rfl, h⟩ := a; obtain ⟨q, e, h'⟩ := b; cases e; exact I.tuple_inj h h'
  | s => obtain ⟨p, rfl, h⟩ := a; obtain ⟨q, e, h'⟩ := b; cases e; rw [h, h']
end

/-! ### zip of two sources -/
def ItZ (K : PySem.W.Frag) (k1 k2 : Kd) (x y : V) : It :=
  ⟨fun i H => ∃ xs ys v w, SrcV K H k1 x xs ∧ SrcV K H k2 y ys ∧ xs[i]? = some v ∧ ys[i]? = some w,
    fun i H v H' => ∃ T v1 v2, v = .ref T ∧ H T = none ∧ H' = upd H T (.tup [v1, v2]) ∧ (∀ xs, SrcV K H k1 x xs → xs[i]? = some v1) ∧ ∀ ys, SrcV K H k2 y ys → ys[i]? = some v2,
    fun i H => ∃ xs ys, SrcV K H k1 x xs ∧ SrcV K H k2 y ys ∧ i ≤ xs.length ∧ i ≤ ys.length ∧ (i = xs.length ∨ i = ys.length)⟩
structure Apart5 (z TI TO i1 i2 : Addr) : Prop where
  TIz : TI ≠ z
  TOz : TO ≠ z
  TITO : TI ≠ TO
  TIi1 : TI ≠ i1
  TIi2 : TI ≠ i2
  zi1 : z ≠ i1
  zi2 : z ≠ i2
  TOi1 : TO ≠ i1
  TOi2 : TO ≠ i2
  i12 : i1 ≠ i2
theorem turn_zipG {P : Program} {w : World} {K : PySem.W.Frag} {elts : List Expr} {kk : Nat} {tpos : Pos} {k1 k2 : Kd} {x y : V} {z TI TO i1 i2 : Addr} (D : Apart5 z TI TO i1 i2) :
    Turn P w K (.Tuple elts kk tpos) (ItZ K k1 k2 x y) [z, TI, TO, i1, i2] z (fun i h => IsZip h z TI TO .none ∧ IsTupOf2 h TI (.ref i1) (.ref i2) ∧ (∃ a b, IsTupOf2 h TO a b) ∧ SubSt k1 x i1 i h ∧ SubSt k2 y i2 i h) where
  mem := by simp
  obj := fun i h st c hc => by
    obtain ⟨hz, hTI, ⟨a, b, hTO⟩, s1, s2⟩ := st
    have e' : c = z ∨ c = TI ∨ c = TO ∨ c = i1 ∨ c = i2 := by simpa using hc
    rcases e' with q | q | q | q | q
    · rw [q]; exact ⟨_, hz, fun v q => nomatch q⟩
    · rw [q]; exact ⟨_, hTI, fun v q => nomatch q⟩
    · rw [q]; exact ⟨_, hTO, fun v q => nomatch q⟩
    · rw [q]; exact s1.obj
    · rw [q]; exact s2.obj
  keep := fun i h h' st k => by
    obtain ⟨hz, hTI, ⟨a, b, hTO⟩, s1, s2⟩ := st
    exact ⟨k z (by simp) _ hz, k TI (by simp) _ hTI, ⟨a, b, k TO (by simp) _ hTO⟩, s1.keep fun o q => k i1 (by simp) o q, s2.keep fun o q => k i2 (by simp) o q⟩
  item := by
    intro X hP hw hK hc i pins s σ H E I hf st hg
    subst hP hw hK
    obtain ⟨hz, hTI, ⟨a0, b0, hTO⟩, s1, s2⟩ := st
    obtain ⟨xs, ys, v1, v2, sv1, sv2, hx, hy⟩ := hg
    have hh := I.ok.hd hc
    obtain ⟨fp1, P1, St1, D1, m1⟩ := draws_of hh I sv1 s1 (hf i1 (by simp))
    obtain ⟨fp2, P2, St2, D2, m2⟩ := draws_of hh I sv2 s2 (hf i2 (by simp))
    have o1 : ∀ b, b ∈ [z, TI, TO, i1, i2] → b ≠ i1 → b ∉ fp1 := fun b hb ne hm => by
      rcases m1 b hm with e | ⟨a, e, q⟩
      · exact ne e
      · exact src_ne I q (hf b hb) e.symm
    have o2 : ∀ b, b ∈ [z, TI, TO, i1, i2] → b ≠ i2 → b ∉ fp2 := fun b hb ne hm => by
      rcases m2 b hm with e | ⟨a, e, q⟩
      · exact ne e
      · exact src_ne I q (hf b hb) e.symm
    have S : ZipSep2 z TI TO i1 i2 fp1 fp2 := ⟨D.TIz, D.TOz, D.TITO, D.TIi1, D1.mem, o1 z (by simp) D.zi1, o1 TO (by simp) D.TOi1, D.TIi2, D2.mem, o2 z (by simp) D.zi2, o2 TO (by simp) D.TOi2, o2 i1 (by simp) D.i12, o1 i2 (by simp) (Ne.symm D.i12)⟩
    have hzl : z < s.heap.objs.size := Heap.lt_size hz
    refine wpAny_pyNext_zipD2_item S D1.d D2.d hz hTI hTO (D1.st i s1) (D2.st i s2) (List.getElem?_eq_some_iff.mp hx).1 (List.getElem?_eq_some_iff.mp hy).1 fun u1 u2 h' tk p1 p2 z' TO' t1 t2 hT hsz hk => ?_
    obtain ⟨w1, e1, r1⟩ := D1.val i u1 p1
    obtain ⟨w2, e2, r2⟩ := D2.val i u2 p2
    rw [hx] at e1; cases e1
    rw [hy] at e2; cases e2
    refine ⟨_, rfl, wpAny_letOwnedTupleGo_zip (s := { s with heap := h', toks := tk }) z' fun h'' z'' sb => ?_⟩
    have hT2 : h''.get? s.heap.objs.size = some { cls := .type "tuple", data := .seq #[u1, u2] } := (sb.2 _ (Nat.ne_of_gt hzl)).trans hT
    have new : ObjOk X.prog X.w (upd H s.heap.objs.size (.tup [v1, v2])) h'' s.heap.objs.size (.tup [v1, v2]) :=
      ⟨by show 2 ≤ sizeLine; decide, [u1, u2], .cons r1 (.cons r2 .nil), ⟨_, hT2, rfl, _, rfl⟩⟩
    have I1 : Inv X pins σ (upd H s.heap.objs.size (.tup [v1, v2])) { s with heap := h'', toks := tk } :=
      I.turnedNew (t' := tk) (ch := [z, TI, TO, i1, i2]) (fun c o hb q => (sb.2 c (fun q' => hb (by simp [q']))).trans (hk c o (fun q' => hb (by simp [q'])) (fun q' => hb (by simp [q'])) (fun q' => hb (by simp [q'])) (fun q' => hb (by simp [q'])) q)) hf (Nat.le_refl _) new
    refine ⟨.ref s.heap.objs.size, _, I1, rfl, ⟨_, v1, v2, rfl, I.hok.fresh (Nat.le_refl _), rfl, fun l hl => by rw [src_fun I hl sv1]; exact hx, fun l hl => by rw [src_fun I hl sv2]; exact hy⟩, ⟨z'', ?_, ⟨u1, u2, ?_⟩, ?_, ?_⟩, fun c hcm => ?_⟩
    · exact (sb.2 _ D.TIz).trans (hk _ _ D.TIz D.TITO D.TIi1 D.TIi2 hTI)
    · exact (sb.2 _ D.TOz).trans TO'
    · exact (D1.back _ _ t1).keep fun o q => (sb.2 _ (Ne.symm D.zi1)).trans q
    · exact (D2.back _ _ t2).keep fun o q => (sb.2 _ (Ne.symm D.zi2)).trans q
    · have hlt : c < s.heap.objs.size := by
        have e' : c = z ∨ c = TI ∨ c = TO ∨ c = i1 ∨ c = i2 := by simpa using hcm
        rcases e' with q | q | q | q | q
        · rw [q]; exact hzl
        · rw [q]; exact Heap.lt_size hTI
        · rw [q]; exact Heap.lt_size hTO
        · rw [q]; obtain ⟨_, e1, _⟩ := s1.obj; exact Heap.lt_size e1
        · rw [q]; obtain ⟨_, e1, _⟩ := s2.obj; exact Heap.lt_size e1
      rw [upd_ne (Nat.ne_of_lt hlt)]
      exact (hf c hcm).1
  done := by
    intro X hP hw hK hc i pins s σ H E I hf st hg
    subst hP hw hK
    obtain ⟨hz, hTI, ⟨a0, b0, hTO⟩, s1, s2⟩ := st
    obtain ⟨xs, ys, sv1, sv2, l1, l2, hend⟩ := hg
    have hh := I.ok.hd hc
    obtain ⟨fp1, P1, St1, D1, m1⟩ := draws_of hh I sv1 s1 (hf i1 (by simp))
    obtain ⟨fp2, P2, St2, D2, m2⟩ := draws_of hh I sv2 s2 (hf i2 (by simp))
    have o1 : ∀ b, b ∈ [z, TI, TO, i1, i2] → b ≠ i1 → b ∉ fp1 := fun b hb ne hm => by
      rcases m1 b hm with e | ⟨a, e, q⟩
      · exact ne e
      · exact src_ne I q (hf b hb) e.symm
    have o2 : ∀ b, b ∈ [z, TI, TO, i1, i2] → b ≠ i2 → b ∉ fp2 := fun b hb ne hm => by
      rcases m2 b hm with e | ⟨a, e, q⟩
      · exact ne e
      · exact src_ne I q (hf b hb) e.symm
    have S : ZipSep2 z TI TO i1 i2 fp1 fp2 := ⟨D.TIz, D.TOz, D.TITO, D.TIi1, D1.mem, o1 z (by simp) D.zi1, o1 TO (by simp) D.TOi1, D.TIi2, D2.mem, o2 z (by simp) D.zi2, o2 TO (by simp) D.TOi2, o2 i1 (by simp) D.i12, o1 i2 (by simp) (Ne.symm D.i12)⟩
    exact wpAny_pyNext_zipD2_end S D1.d D2.d hz hTI hTO (D1.st i s1) (D2.st i s2) l1 l2 hend fun h' tk hk => ⟨rfl, I.turnedL (t' := tk) (ch := [z, TI, TO, i1, i2]) (fun c o hb q =>
      hk c o (fun q' => hb (by simp [q'])) (fun q' => hb (by simp [q'])) (fun q' => hb (by simp [q'])) (fun q' => hb (by simp [q'])) q) hf⟩
  self := fun A i s Q E st h => wpAny_pyIter_zip st.1 h
/-- what a value is as a source -/
def iZipG (K : PySem.W.Frag) (ta : TA) : TI := fun σ H R => ta σ H fun vs H1 => ∃ k1 k2 x y xs ys, vs = [x, y] ∧ SrcV K H1 k1 x xs ∧ SrcV K H1 k2 y ys ∧ ((k1 ≠ .s → xs.length ≤ sizeLine) → R (ItZ K k1 k2 x y) H1)
theorem pi_zipG {X : Cx} {e e2 : Expr} {ta : TA} {p pos tpos : Pos} {elts : List Expr} {kk : Nat} (hg : Gl X "zip") (hm : X.mg "zip" = none) (ha : PA X [e, e2] ta)
    (hs : starEach [e, e2] X.env = (false, eval e X.env) :: starEach [e2] X.env := by rfl) (hpl : (backTo pos (starEach [e2] X.env)).any (·.1) = false := by rfl) :
    PI X (.Tuple elts kk tpos) (.Call (.Name "zip" p) [e, e2] [] pos) (iZipG X.K ta) := by
  refine ⟨fun pins s σ H R I h => ?_⟩
  refine Call_ (ld_blt I hg hm PyProof.Rows.boot_zip (PyProof.Rows.callWith_type1 (thn (ha.run pos pins s σ H _ I h) fun us s1 ⟨vs, H1, I1, r1, q1⟩ => ?_) hs hpl))
  obtain ⟨k1, k2, x, y, xs, ys, ex, sv1, sv2, q⟩ := q1
  subst ex
  obtain ⟨u1, u2, rfl, r1, r2⟩ := vals2 r1
  obtain ⟨o1, H1', B1, b1, t1⟩ := src_begins I1 sv1 r1
  obtain ⟨o2, H2', B2, b2, t2⟩ := src_begins I1 sv2 r2
  refine zip_begins2 B1 B2 b1 b2 fun h' hz hTI hTO g1 g2 hsz hk => wpAny_pyIter_zip hz ?_
  have I2 : Inv X pins σ H1 { s1 with heap := h' } := I1.kept (t' := s1.toks) hk
  generalize hN : s1.heap.objs.size = N at *
  refine ⟨N + 4, [N + 4, N + 2, N + 3, N, N + 1], _, _, H1, rfl, I2, turn_zipG ⟨?_, ?_, ?_, ?_, ?_, ?_, ?_, ?_, ?_, ?_⟩, ⟨hz, hTI, ⟨_, _, hTO⟩, t1 _ _ g1, t2 _ _ g2⟩, fun c hcm => ?_, q (src_line I1 sv1)⟩
  all_goals first
    | exact (show (_ : Nat) ≠ _ by omega)
    | skip
  have e' : c = N + 4 ∨ c = N + 2 ∨ c = N + 3 ∨ c = N ∨ c = N + 1 := by simpa using hcm
  have hle : s1.heap.objs.size ≤ c := by
    rw [hN]
    rcases e' with z | z | z | z | z
    · rw [z]; exact Nat.le_add_right _ _
    · rw [z]; exact Nat.le_add_right _ _
    · rw [z]; exact Nat.le_add_right _ _
    · rw [z]; exact Nat.le_refl _
    · rw [z]; exact Nat.le_add_right _ _
  exact I1.fpOk hle (I1.hok.fresh hle)

/-! ### enumerate of a source -/
def ItE (K : PySem.W.Frag) (k : Kd) (x : V) : It :=
  ⟨fun i H => ∃ xs v, SrcV K H k x xs ∧ xs[i]? = some v,
    fun i H v H' => ∃ T w, v = .ref T ∧ H T = none ∧ H' = upd H T (.tup [.int (i : Nat), w]) ∧ ∀ xs, SrcV K H k x xs → xs[i]? = some w,
    fun i H => ∃ xs, SrcV K H k x xs ∧ i = xs.length⟩
theorem turn_enumG {P : Program} {w : World} {K : PySem.W.Frag} {elts : List Expr} {kk : Nat} {tpos : Pos} {k : Kd} {x : V} {e it : Addr} (hne : e ≠ it) :
    Turn P w K (.Tuple elts kk tpos) (ItE K k x) [e, it] e (fun i h => (∃ old, IsEnum h e it ((i : Nat) : Int) old) ∧ SubSt k x it i h) where
  mem := by simp
  obj := fun i h st b hb => by
    obtain ⟨⟨old, he⟩, s1⟩ := st
    have e' : b = e ∨ b = it := by simpa using hb
    rcases e' with z | z
    · rw [z]; exact ⟨_, he, fun v q => nomatch q⟩
    · rw [z]; exact s1.obj
  keep := fun i h h' st k => let ⟨⟨old, he⟩, hi⟩ := st; ⟨⟨old, k e (by simp) _ he⟩, hi.keep fun o q => k it (by simp) o q⟩
  item := by
    intro X hP hw hK hc i pins s σ H E I hf st hg
    subst hP hw hK
    obtain ⟨⟨old, he⟩, s1⟩ := st
    obtain ⟨xs, v, sv, hx⟩ := hg
    have hh := I.ok.hd hc
    obtain ⟨fp1, P1, St1, D1, m1⟩ := draws_of hh I sv s1 (hf it (by simp))
    have hef : e ∉ fp1 := fun hm => by
      rcases m1 e hm with q | ⟨a, q, r⟩
      · exact hne q
      · exact src_ne I r (hf e (by simp)) q.symm
    have hel : e < s.heap.objs.size := Heap.lt_size he
    have hil : it < s.heap.objs.size := by obtain ⟨_, q, _⟩ := s1.obj; exact Heap.lt_size q
    refine wpAny_pyNext_enum_itemC D1.d he (D1.st i s1) (List.getElem?_eq_some_iff.mp hx).1 hne hef fun u h' tk pu ho t1 hT hsz hk => ?_
    obtain ⟨w1, e1, r1⟩ := D1.val i u pu
    rw [hx] at e1; cases e1
    refine ⟨_, rfl, wpAny_letOwnedTupleGo_enum (s := { s with heap := h', toks := tk + 1 }) ho fun h'' he' sb => ?_⟩
    have hT2 : h''.get? s.heap.objs.size = some { cls := .type "tuple", data := .seq #[.int i tk, u] } := (sb.2 _ (Nat.ne_of_gt hel)).trans hT
    have new : ObjOk X.prog X.w (upd H s.heap.objs.size (.tup [.int (i : Nat), v])) h'' s.heap.objs.size (.tup [.int (i : Nat), v]) :=
      ⟨by show 2 ≤ sizeLine; decide, [.int i tk, u], .cons ⟨_, rfl⟩ (.cons r1 .nil), ⟨_, hT2, rfl, _, rfl⟩⟩
    have I1 : Inv X pins σ (upd H s.heap.objs.size (.tup [.int (i : Nat), v])) { s with heap := h'', toks := tk + 1 } :=
      I.turnedNew (ch := [e, it]) (fun b ob hb q => (sb.2 b (fun z => hb (by simp [z]))).trans (hk b ob (fun z => hb (by simp [z])) (fun z => hb (by simp [z])) q)) hf (Nat.le_refl _) new
    refine ⟨.ref s.heap.objs.size, _, I1, rfl, ⟨_, v, rfl, I.hok.fresh (Nat.le_refl _), rfl, fun ys hy => by rw [src_fun I hy sv]; exact hx⟩, ⟨⟨u, ?_⟩, (D1.back _ _ t1).keep fun o q => (sb.2 it (Ne.symm hne)).trans q⟩, fun b hb => ?_⟩
    · have e1 : ((i + 1 : Nat) : Int) = (i : Int) + 1 := by omega
      rw [e1]; exact he'
    · have hb' : b < s.heap.objs.size := by
        have e' : b = e ∨ b = it := by simpa using hb
        rcases e' with z | z
        · rw [z]; exact hel
        · rw [z]; exact hil
      rw [upd_ne (Nat.ne_of_lt hb')]
      exact (hf b hb).1
  done := by
    intro X hP hw hK hc i pins s σ H E I hf st hg
    subst hP hw hK
    obtain ⟨⟨old, he⟩, s1⟩ := st
    obtain ⟨xs, sv, rfl⟩ := hg
    have hh := I.ok.hd hc
    obtain ⟨fp1, P1, St1, D1, m1⟩ := draws_of hh I sv s1 (hf it (by simp))
    obtain ⟨f0, f1, f2, f3, f4, f5⟩ := hf it (by simp)
    exact wpAny_pyNext_enum_endD D1.d he (D1.st _ s1) fun h' eb => ⟨rfl, I.turned (t' := s.toks) (fun b o hb q => eb b o hb q) f0 f1 f3 f4 f5⟩
  self := fun A i s Q E st h => let ⟨⟨_, he⟩, _⟩ := st; wpAny_pyIter_enum he h
def iEnumG (K : PySem.W.Frag) (ta : TA) : TI := fun σ H R => ta σ H fun vs H1 => ∃ k x xs, vs = [x] ∧ SrcV K H1 k x xs ∧ ((k ≠ .s → xs.length ≤ sizeLine) → R (ItE K k x) H1)
theorem pi_enumG {X : Cx} {e : Expr} {ta : TA} {p pos tpos : Pos} {elts : List Expr} {kk : Nat} (hg : Gl X "enumerate") (hm : X.mg "enumerate" = none) (ha : PA X [e] ta) (hs : starEach [e] X.env = [(false, eval e X.env)] := by rfl) :
    PI X (.Tuple elts kk tpos) (.Call (.Name "enumerate" p) [e] [] pos) (iEnumG X.K ta) := by
  refine ⟨fun pins s σ H R I h => ?_⟩
  refine Call_ (ld_blt I hg hm boot_enumerate (PyProof.Rows.callWith_type1 (thn (ha.run pos pins s σ H _ I h) fun us s1 ⟨vs, H1, I1, r1, q1⟩ => ?_) hs rfl))
  obtain ⟨k, x, xs, ex, sv, q⟩ := q1
  subst ex
  obtain ⟨u, rfl, r⟩ := vals1 r1
  obtain ⟨o, HB, B, b1, t1⟩ := src_begins I1 sv r
  refine enum_begins1 B b1 fun h' he g1 hsz hk => wpAny_pyIter_enum he ?_
  have I2 : Inv X pins σ H1 { s1 with heap := h' } := I1.kept (t' := s1.toks) hk
  refine ⟨s1.heap.objs.size + 1, [s1.heap.objs.size + 1, s1.heap.objs.size], _, _, H1, rfl, I2, turn_enumG (Nat.succ_ne_self _), ⟨⟨.none, he⟩, t1 _ _ g1⟩, fun b hb => ?_, q (src_line I1 sv)⟩
  have e' : b = s1.heap.objs.size + 1 ∨ b = s1.heap.objs.size := by simpa using hb
  have hle : s1.heap.objs.size ≤ b := by
    rcases e' with z | z
    · rw [z]; exact Nat.le_add_right _ _
    · rw [z]; exact Nat.le_refl _
  exact I1.fpOk hle (I1.hok.fresh hle)

/-! ### any value that is walked -/
def iVal (K : PySem.W.Frag) (te : TE) : TI := fun σ H R => te σ H fun x H1 => (∃ a, x = .ref a ∧ (∃ xs, SqL K H1 a xs ∧ (xs.length ≤ sizeLine → R (Itl K a) H1))) ∨ (∃ a, x = .ref a ∧ (∃ xs, SqT K H1 a xs ∧ (xs.length ≤ sizeLine → R (Itt K a) H1))) ∨ ∃ z, x = .str z ∧ R (Its z) H1
theorem pi_val {X : Cx} {tg e : Expr} {te : TE} (he : PE X e te) : PI X tg e (iVal X.K te) := by
  refine ⟨fun pins s σ H R I h => ?_⟩
  refine thn (he.run pins s σ H _ I h) fun v s1 ⟨x, H1, I1, r1, q1⟩ => ?_
  rcases q1 with ⟨a, rfl, xs, hq, q⟩ | ⟨a, rfl, xs, hq, q⟩ | ⟨z, rfl, q⟩
  · cases r1
    obtain ⟨its, rv, p, hz⟩ := I1.list hq
    refine wpAny_pyIter_list p.isList ?_
    refine ⟨s1.heap.objs.size, [s1.heap.objs.size], _, _, H1, rfl, I1.kept (t' := s1.toks) fun b o e => Heap.get?_push_of_some _ e, turn_list a _, ⟨_, Heap.get?_push_size _ rfl, rfl, rfl⟩, fun b hb => ?_, q hz⟩
    have e : b = s1.heap.objs.size := by simpa using hb
    subst e
    exact I1.fpOk (Nat.le_refl _) (I1.hok.fresh (Nat.le_refl _))
  · cases r1
    obtain ⟨its, rv, p, hz⟩ := I1.tuple hq
    refine wpAny_pyIter_tuple (show s1.heap.IsTuple a its.toArray from p) ?_
    refine ⟨s1.heap.objs.size, [s1.heap.objs.size], _, _, H1, rfl, I1.kept (t' := s1.toks) fun b o e => Heap.get?_push_of_some _ e, turn_tuple a _, ⟨_, Heap.get?_push_size _ rfl, rfl, rfl⟩, fun b hb => ?_, q hz⟩
    have e : b = s1.heap.objs.size := by simpa using hb
    subst e
    exact I1.fpOk (Nat.le_refl _) (I1.hok.fresh (Nat.le_refl _))
  · obtain ⟨t, rfl⟩ := r1
    cases ha : z.cps.all (· < 128)
    · exact wpAny_pyIter_wide ha (pi_one (tk := s1.toks) I1 _ (turn_str _ z t "str_iterator" (.inr rfl)) ⟨_, Heap.get?_push_size _ rfl, rfl, rfl⟩ q)
    · exact wpAny_pyIter_ascii ha (pi_one (tk := s1.toks) I1 _ (turn_str _ z t "str_ascii_iterator" (.inl rfl)) ⟨_, Heap.get?_push_size _ rfl, rfl, rfl⟩ q)
end Mir

set_option maxRecDepth 100000
/-! MirC2: walks by data; comprehensions. -/
namespace Mir
open PySem PySem.Spec PyProof.Rows L2

/-! ### walks by data -/
/-- the walk gives ds, whatever is made meanwhile -/
def Stdy (K : PySem.W.Frag) (J : It) (ds : List D) (F : Hp) : Prop := ∀ F2 H2, Same F F2 → Frz F2 H2 →
  (∀ i, i < ds.length → J.go i H2 ∧ ∀ x H3, J.yld i H2 x H3 → ∃ F3 d, Ext none F2 H2 F3 H3 ∧ Frz F3 H3 ∧ ds[i]? = some d ∧ Dp K F3 x d) ∧ J.stop ds.length H2
def RI (K : PySem.W.Frag) : Hp → List D → It → Prop := fun F ds J => ds.length ≤ sizeLine ∧ Stdy K J ds F
def tI (K : PySem.W.Frag) (A : Option Addr) (E : Exc → L2.St → Hp → Prop) (ρ : List Sl) (m : M (List D)) : TI := tR K A E ρ (RI K) m
theorem _root_.L2.PI.impM {X : Cx} {tg e : Expr} {t t' : TI} (h : PI X tg e t) (i : ∀ σ H R, t' σ H R → t σ H R) : PI X tg e t' := ⟨fun pins s σ H R I q => h.run pins s σ H R I (i σ H R q)⟩
section
variable {X : Cx} {A : Option Addr} {E : Exc → L2.St → Hp → Prop} {ρ : List Sl} {a b c e e2 : Expr} {es : List Expr} {ma mb mc : M D} {ms : List (M D)} {pos p tpos : Pos} {x : Str} {tg : Expr} {elts : List Expr} {kk : Nat}
theorem stdy_list {F : Hp} {q : Addr} {vs : List V} {ds : List D} (h : SqL X.K F q vs) (p : DpAll X.K F vs ds) : Stdy X.K (Itl X.K q) ds F := fun F2 H2 s z => by
  have h2 : SqL X.K H2 q vs := SqL.sameM (s.trans z.sub) h
  have hl := p.lenM
  refine ⟨fun i hi => ⟨⟨vs, vs[i]'(by omega), h2, List.getElem?_eq_getElem _⟩, fun x H3 ⟨e, y⟩ => ?_⟩, ⟨vs, h2, by omega⟩⟩
  subst e
  obtain ⟨d, e1, e2⟩ := p.getM (y vs h2)
  exact ⟨F2, d, .refl, z, e1, Dp.sameM s _ _ e2⟩
theorem stdy_tup {F : Hp} {q : Addr} {vs : List V} {ds : List D} (h : SqT X.K F q vs) (p : DpAll X.K F vs ds) : Stdy X.K (Itt X.K q) ds F := fun F2 H2 s z => by
  have h2 : SqT X.K H2 q vs := SqT.sameM (s.trans z.sub) h
  have hl := p.lenM
  refine ⟨fun i hi => ⟨⟨vs, vs[i]'(by omega), h2, List.getElem?_eq_getElem _⟩, fun x H3 ⟨e, y⟩ => ?_⟩, ⟨vs, h2, by omega⟩⟩
  subst e
  obtain ⟨d, e1, e2⟩ := p.getM (y vs h2)
  exact ⟨F2, d, .refl, z, e1, Dp.sameM s _ _ e2⟩
theorem stdy_str {F : Hp} {z : Str} : Stdy X.K (Its z) (z.cps.toList.map fun c => .str ⟨#[c]⟩) F := fun F2 H2 s zf => by
  have hl : (z.cps.toList.map fun c => PyData.str ⟨#[c]⟩).length = z.cps.size := by simp
  refine ⟨fun i hi => ⟨by rw [hl] at hi; exact hi, fun x H3 ⟨e, cc, h1, h2⟩ => ?_⟩, by rw [hl]; exact Nat.le_refl _⟩
  subst e h2
  refine ⟨F2, .str ⟨#[cc]⟩, .refl, zf, ?_, .str _⟩
  rw [List.getElem?_map, Array.getElem?_toList, h1]
  rfl
theorem rng_len (lo : Int) (n : Nat) : (rng lo n).length = n := by simp [rng]
theorem rng_get {lo : Int} {n i : Nat} (h : i < n) : (rng lo n)[i]? = some (.int (lo + i)) := by
  unfold rng
  rw [List.getElem?_map, List.getElem?_range h]
  rfl
theorem stdy_rng {F : Hp} {lo : Int} {n : Nat} : Stdy X.K (Itr lo n) (rng lo n) F := fun F2 H2 s zf => by
  rw [rng_len]
  refine ⟨fun i hi => ⟨hi, fun x H3 ⟨e, h1⟩ => ?_⟩, Nat.le_refl _⟩
  subst e h1
  exact ⟨F2, _, .refl, zf, rng_get hi, .int _⟩
theorem ei_val (ha : PE X a (tM X.K A E ρ ma)) : PI X tg a (tI X.K A E ρ (ma >>= fun d => lft (dItems d))) := (pi_val ha).impM fun σ H R ⟨c, F, B, h⟩ => by
  refine ⟨c, F, B, (tG.bind (R := RD X.K) h).mono fun x H1 ⟨d, c1, F1, e1, r1, h1⟩ => ?_⟩
  obtain ⟨ds, ed, q⟩ := h1.lft
  have z := h1.1.frz
  unfold dItems at ed
  split at ed
  · cases ed
    cases r1 with
    | lst h2 p2 => exact .inl ⟨_, rfl, _, SqL.sameM z.sub h2, fun hz => q _ F1 H1 .refl z ⟨by rw [← p2.lenM]; exact hz, stdy_list h2 p2⟩⟩
  · cases ed
    cases r1 with
    | tup h2 p2 => exact .inr (.inl ⟨_, rfl, _, SqT.sameM z.sub h2, fun hz => q _ F1 H1 .refl z ⟨by rw [← p2.lenM]; exact hz, stdy_tup h2 p2⟩⟩)
  · split at ed
    · rename_i hz
      cases ed
      cases r1
      rw [lim_eq] at hz
      refine .inr (.inr ⟨_, rfl, q _ F1 H1 .refl z ⟨?_, stdy_str⟩⟩)
      rw [List.length_map]
      simpa [Str.length] using hz
    · cases ed
  · cases ed
/-- range(n), range(a, b) -/
theorem ei_rng1 (hg : Gl X "range") (hm : X.mg "range" = none) (ha : PE X a (tM X.K A E ρ ma)) (hs : starEach [a] X.env = [(false, eval a X.env)] := by rfl) : PI X tg (.Call (.Name "range" p) [a] [] pos) (tI X.K A E ρ (ma >>= fun d => lft (dRange1 d))) :=
  (pi_range1 hg hm (pa_cons ha pa_nil (by rw [hs]; rfl)) hs).impM fun σ H R ⟨c, F, B, h⟩ => ⟨c, F, B, (tG.bind (R := RD X.K) h).mono fun x H1 ⟨d, c1, F1, e1, r1, h1⟩ => by
    obtain ⟨ds, ed, q⟩ := h1.lft
    unfold dRange1 at ed
    split at ed
    · split at ed
      · rename_i hb
        cases ed; cases r1
        simp only [Bool.and_eq_true, decide_eq_true_eq] at hb
        obtain ⟨⟨b1, b2⟩, b3⟩ := hb
        exact ⟨_, rfl, b1, b2, q _ F1 H1 .refl h1.1.frz ⟨by rw [rng_len, ← lim_eq]; exact b3, stdy_rng⟩⟩
      · cases ed
    · cases ed⟩
theorem ei_rng2 (hg : Gl X "range") (hm : X.mg "range" = none) (ha : PE X a (tM X.K A E ρ ma)) (hb : PE X b (tM X.K A E ρ mb)) (hs : starEach [a, b] X.env = [(false, eval a X.env), (false, eval b X.env)] := by rfl) (hs2 : starEach [b] X.env = [(false, eval b X.env)] := by rfl) :
    PI X tg (.Call (.Name "range" p) [a, b] [] pos) (tI X.K A E ρ (ma >>= fun d => mb >>= fun e => lft (dRange2 d e))) :=
  (pi_range2 hg hm (pa_cons ha (pa_cons hb pa_nil (by rw [hs2]; rfl)) (by rw [hs, hs2])) hs hs2).impM fun σ H R ⟨c, F, B, h⟩ => ⟨c, F, B, (tG.bind (R := RD X.K) h).mono fun x H1 ⟨d, c1, F1, e1, r1, h1⟩ => ⟨c1, F1, B, (tG.bind (R := RD X.K) h1).mono fun y H2 ⟨d2, c2, F2, e2, r2, h2⟩ => by
    obtain ⟨ds, ed, q⟩ := h2.lft
    unfold dRange2 at ed
    split at ed
    · split at ed
      · rename_i hb
        cases ed; cases r1; cases r2
        simp only [Bool.and_eq_true, decide_eq_true_eq] at hb
        obtain ⟨⟨⟨⟨b1, b2⟩, b3⟩, b4⟩, b5⟩ := hb
        exact ⟨_, _, rfl, ⟨b1, b2, b3, b4⟩, q _ F2 H2 .refl h2.1.frz ⟨by rw [rng_len, ← lim_eq]; exact b5, stdy_rng⟩⟩
      · cases ed
    · cases ed⟩⟩
/-- data as a source -/
theorem src_of {F H : Hp} {x : V} {d : D} {ds : List D} (z : Frz F H) (r : Dp X.K F x d) (h : dItems d = some ds) : ∃ k vs, SrcV X.K F k x vs ∧ DpAll X.K F vs ds ∧ (k = .s → ds.length ≤ sizeLine) := by
  unfold dItems at h
  split at h
  · cases h
    cases r with
    | lst h2 p2 => exact ⟨.l, _, ⟨_, rfl, h2⟩, p2, fun z => nomatch z⟩
  · cases h
    cases r with
    | tup h2 p2 => exact ⟨.t, _, ⟨_, rfl, h2⟩, p2, fun z => nomatch z⟩
  · split at h
    · cases h
      cases r
      rename_i z hz
      rw [lim_eq] at hz
      refine ⟨.s, _, ⟨_, rfl, rfl⟩, ?_, fun _ => by rw [List.length_map]; simpa [Str.length] using hz⟩
      have go : ∀ l : List Nat, DpAll X.K F (l.map fun c => V.str ⟨#[c]⟩) (l.map fun c => PyData.str ⟨#[c]⟩) := fun l => by
        induction l with
        | nil => exact .nil
        | cons c l ih => exact .cons (.str _) ih
      exact go _
    · cases h
  · cases h
theorem SrcV.same {K : PySem.W.Frag} {F F' : Hp} {k : Kd} {x : V} {vs : List V} (s : Same F F') (h : SrcV K F k x vs) : SrcV K F' k x vs := by
  cases k with
  | l => obtain ⟨a, e, h⟩ := h; exact ⟨a, e, SqL.sameM s h⟩
  | t => obtain ⟨a, e, h⟩ := h; exact ⟨a, e, SqT.sameM s h⟩
  | s => exact h
theorem zip2_get : ∀ {xs ys : List D} {i : Nat} {x y : D}, xs[i]? = some x → ys[i]? = some y → (zip2 xs ys)[i]? = some (.tuple [x, y])
  | [], _, _, _, _, h, _ => by simp at h
  | _ :: _, [], _, _, _, _, h => by simp at h
  | a :: xs, b :: ys, 0, x, y, h1, h2 => by
    cases (Option.some.inj (show some a = some x from h1))
    cases (Option.some.inj (show some b = some y from h2))
    rfl
  | a :: xs, b :: ys, i + 1, x, y, h1, h2 => by
    show (zip2 xs ys)[i]? = _
    exact zip2_get (by simpa using h1) (by simpa using h2)
theorem zip2_len (xs ys : List D) : (zip2 xs ys).length = min xs.length ys.length := by simp [zip2]
theorem stdy_zip {F : Hp} {k1 k2 : Kd} {x y : V} {vs ws : List V} {xs ys : List D} (h1 : SrcV X.K F k1 x vs) (h2 : SrcV X.K F k2 y ws) (p1 : DpAll X.K F vs xs) (p2 : DpAll X.K F ws ys) : Stdy X.K (ItZ X.K k1 k2 x y) (zip2 xs ys) F := fun F2 H2 s z => by
  have g1 := SrcV.same (s.trans z.sub) h1
  have g2 := SrcV.same (s.trans z.sub) h2
  have l1 := p1.lenM
  have l2 := p2.lenM
  rw [zip2_len]
  refine ⟨fun i hi => ⟨⟨vs, ws, vs[i]'(by omega), ws[i]'(by omega), g1, g2, List.getElem?_eq_getElem _, List.getElem?_eq_getElem _⟩, fun v H3 ⟨T, v1, v2, ev, hT, eH, f1, f2⟩ => ?_⟩, ⟨vs, ws, g1, g2, by omega, by omega, by omega⟩⟩
  subst ev eH
  obtain ⟨d1, e1, q1⟩ := p1.getM (f1 vs g1)
  obtain ⟨d2, e2, q2⟩ := p2.getM (f2 ws g2)
  have x1 := Ext.new (o := .tup [v1, v2]) z hT
  exact ⟨_, .tuple [d1, d2], x1, z.new (fun ps z => nomatch z), zip2_get e1 e2, .tup (SqT.of upd_same) (.cons (Dp.sameM (s.trans x1.f) _ _ q1) (.cons (Dp.sameM (s.trans x1.f) _ _ q2) .nil))⟩
theorem ei_zip (hg : Gl X "zip") (hm : X.mg "zip" = none) (ha : PE X a (tM X.K A E ρ ma)) (hb : PE X b (tM X.K A E ρ mb)) (hs : starEach [a, b] X.env = (false, eval a X.env) :: starEach [b] X.env := by rfl) (hs2 : starEach [b] X.env = (false, eval b X.env) :: starEach [] X.env := by rfl) (hpl : (backTo pos (starEach [b] X.env)).any (·.1) = false := by rfl) :
    PI X (.Tuple elts kk tpos) (.Call (.Name "zip" p) [a, b] [] pos) (tI X.K A E ρ (ma >>= fun d => mb >>= fun e => lft (dZip d e))) :=
  (pi_zipG hg hm (pa_cons ha (pa_cons hb pa_nil hs2) hs) hs hpl).impM fun σ H R ⟨c, F, B, h⟩ => ⟨c, F, B, (tG.bind (R := RD X.K) h).mono fun x H1 ⟨d, c1, F1, e1, r1, h1⟩ => ⟨c1, F1, B, (tG.bind (R := RD X.K) h1).mono fun y H2 ⟨d2, c2, F2, e2, r2, h2⟩ => by
    obtain ⟨ds, ed, q⟩ := h2.lft
    unfold dZip at ed
    split at ed
    · rename_i xs ys hx hy
      cases ed
      have z := h2.1.frz
      obtain ⟨k1, vs, s1, p1, n1⟩ := src_of z (Dp.sameM e2.f _ _ r1) hx
      obtain ⟨k2, ws, s2, p2, _⟩ := src_of z r2 hy
      refine ⟨k1, k2, x, y, vs, ws, rfl, SrcV.same z.sub s1, SrcV.same z.sub s2, fun hl => q _ F2 H2 .refl z ⟨?_, stdy_zip s1 s2 p1 p2⟩⟩
      rw [zip2_len]
      have := p1.lenM
      have l1 : xs.length ≤ sizeLine := by
        cases k1 with
        | l => rw [← this]; exact hl (fun z => nomatch z)
        | t => rw [← this]; exact hl (fun z => nomatch z)
        | s => exact n1 rfl
      omega
    · cases ed⟩⟩
theorem enumFrom_get : ∀ {xs : List D} {i n : Nat} {x : D}, xs[i]? = some x → (enumFrom n xs)[i]? = some (.tuple [.int ((n + i : Nat) : Int), x])
  | [], _, _, _, h => by simp at h
  | a :: xs, 0, n, x, h => by
    cases (Option.some.inj (show some a = some x from h))
    rfl
  | a :: xs, i + 1, n, x, h => by
    show (enumFrom (n + 1) xs)[i]? = _
    rw [enumFrom_get (by simpa using h)]
    have : n + 1 + i = n + (i + 1) := by omega
    rw [this]
theorem enumFrom_len : ∀ (n : Nat) (xs : List D), (enumFrom n xs).length = xs.length
  | _, [] => rfl
  | n, _ :: xs => by
    show (enumFrom (n + 1) xs).length + 1 = xs.length + 1
    rw [enumFrom_len]
theorem stdy_enum {F : Hp} {k : Kd} {x : V} {vs : List V} {xs : List D} (h1 : SrcV X.K F k x vs) (p1 : DpAll X.K F vs xs) : Stdy X.K (ItE X.K k x) (enum xs) F := fun F2 H2 s z => by
  have g1 := SrcV.same (s.trans z.sub) h1
  have l1 := p1.lenM
  unfold enum
  rw [enumFrom_len]
  refine ⟨fun i hi => ⟨⟨vs, vs[i]'(by omega), g1, List.getElem?_eq_getElem _⟩, fun v H3 ⟨T, v1, ev, hT, eH, f1⟩ => ?_⟩, ⟨vs, g1, by omega⟩⟩
  subst ev eH
  obtain ⟨d1, e1, q1⟩ := p1.getM (f1 vs g1)
  have x1 := Ext.new (o := .tup [.int (i : Nat), v1]) z hT
  have e2 := enumFrom_get (n := 0) e1
  rw [Nat.zero_add] at e2
  exact ⟨_, .tuple [.int (i : Nat), d1], x1, z.new (fun ps z => nomatch z), e2, .tup (SqT.of upd_same) (.cons (.int _) (.cons (Dp.sameM (s.trans x1.f) _ _ q1) .nil))⟩
theorem ei_enum (hg : Gl X "enumerate") (hm : X.mg "enumerate" = none) (ha : PE X a (tM X.K A E ρ ma)) (hs : starEach [a] X.env = [(false, eval a X.env)] := by rfl) :
    PI X (.Tuple elts kk tpos) (.Call (.Name "enumerate" p) [a] [] pos) (tI X.K A E ρ (ma >>= fun d => lft (dEnum d))) :=
  (pi_enumG hg hm (pa_cons ha pa_nil (by rw [hs]; rfl)) hs).impM fun σ H R ⟨c, F, B, h⟩ => ⟨c, F, B, (tG.bind (R := RD X.K) h).mono fun x H1 ⟨d, c1, F1, e1, r1, h1⟩ => by
    obtain ⟨ds, ed, q⟩ := h1.lft
    unfold dEnum at ed
    obtain ⟨xs, hx, rfl⟩ := Option.map_eq_some_iff.mp ed
    have z := h1.1.frz
    obtain ⟨k1, vs, s1, p1, n1⟩ := src_of z r1 hx
    refine ⟨k1, x, vs, rfl, SrcV.same z.sub s1, fun hl => q _ F1 H1 .refl z ⟨?_, stdy_enum s1 p1⟩⟩
    unfold enum
    rw [enumFrom_len]
    have := p1.lenM
    cases k1 with
    | l => rw [← this]; exact hl (fun z => nomatch z)
    | t => rw [← this]; exact hl (fun z => nomatch z)
    | s => exact n1 rfl⟩

/-! ### targets -/
/-- what a target does: data at its slots -/
def TGt (K : PySem.W.Frag) (g : TG) (ρ : List Sl) {β : Type} (un : D → Option β) (ρb : β → List Sl) (is : List Nat) : Prop := ∀ (A : Option Addr) (B F H : Hp) (σ : L2.St) (d : D) (v : V) (bb : β), Slots K A B F H ρ σ → Frz F H → Dp K F v d → un d = some bb →
  ∀ Q : L2.St → Hp → Prop, (∀ σ', Slots K A B F H (ρb bb) σ' → wipe σ' is = wipe σ is → Q σ' H) → g v σ H Q
theorem set_get {α : Type} {l : List α} {i j : Nat} {x y : α} (h : (l.set i x)[j]? = some y) : (i = j ∧ y = x) ∨ (i ≠ j ∧ l[j]? = some y) := by
  by_cases e : i = j
  · subst e
    by_cases hi : i < l.length
    · rw [List.getElem?_set_self hi] at h
      exact .inl ⟨rfl, (Option.some.inj h).symm⟩
    · rw [List.getElem?_eq_none (by simpa using hi)] at h; cases h
  · rw [List.getElem?_set_ne e] at h
    exact .inr ⟨e, h⟩
theorem Slots.set {K : PySem.W.Frag} {A : Option Addr} {B F H : Hp} {σ : L2.St} (s : Slots K A B F H ρ σ) (i : Nat) {d : D} {v : V} (p : Dp K F v d) : Slots K A B F H (ρ.set i (.val d)) (σ.set i (some v)) := by
  refine ⟨by simp [s.len], fun j sl o h1 h2 => ?_, fun j l xs ys q h1 h2 h3 h4 => ?_⟩
  · rcases set_get h1 with ⟨e, rfl⟩ | ⟨e, h1⟩
    · subst e
      rcases set_get h2 with ⟨_, rfl⟩ | ⟨e, _⟩
      · exact ⟨v, rfl, p⟩
      · exact absurd rfl e
    · rcases set_get h2 with ⟨e', _⟩ | ⟨_, h2⟩
      · exact absurd e' e
      · exact s.at_ j sl o h1 h2
  · rcases set_get h1 with ⟨_, z⟩ | ⟨n1, h1⟩
    · cases z
    · rcases set_get h2 with ⟨_, z⟩ | ⟨n2, h2⟩
      · cases z
      · rw [List.getElem?_set_ne n1] at h3
        rw [List.getElem?_set_ne n2] at h4
        exact s.apart j l xs ys q h1 h2 h3 h4
theorem wipe_set {σ : L2.St} {i : Nat} {o : Option V} : ∀ {vs : List Nat}, i ∈ vs → wipe (σ.set i o) vs = wipe σ vs
  | [], h => nomatch h
  | v :: vs, h => by
    show (wipe (σ.set i o) vs).set v none = (wipe σ vs).set v none
    by_cases hm : i ∈ vs
    · rw [wipe_set hm]
    · have e : i = v := by
        rcases List.mem_cons.mp h with e | e
        · exact e
        · exact absurd e hm
      subst e
      have go : ∀ ws : List Nat, i ∉ ws → wipe (σ.set i o) ws = (wipe σ ws).set i o := fun ws hw => by
        induction ws with
        | nil => rfl
        | cons w ws ih =>
          have h1 : i ≠ w := fun e => hw (by rw [e]; exact List.mem_cons_self)
          show (wipe (σ.set i o) ws).set w none = ((wipe σ ws).set w none).set i o
          rw [ih fun m => hw (List.mem_cons_of_mem _ m), List.set_comm _ _ h1]
      rw [go vs hm, List.set_set]
theorem wipe_wipe (σ : L2.St) (vs : List Nat) : wipe (wipe σ vs) vs = wipe σ vs := by
  have go : ∀ ws : List Nat, (∀ w ∈ ws, w ∈ vs) → wipe (wipe σ ws) vs = wipe σ vs := fun ws => by
    induction ws with
    | nil => intro _; rfl
    | cons w ws ih =>
      intro h
      show wipe ((wipe σ ws).set w none) vs = _
      rw [wipe_set (h w List.mem_cons_self), ih fun x hx => h x (List.mem_cons_of_mem _ hx)]
  exact go vs fun _ h => h
/-- slots forgotten -/
def wipeS (ρ : List Sl) : List Nat → List Sl
  | [] => ρ
  | v :: vs => (wipeS ρ vs).set v .un
theorem Slots.unset {K : PySem.W.Frag} {A : Option Addr} {B F H : Hp} {σ : L2.St} (s : Slots K A B F H ρ σ) (i : Nat) (o' : Option V) : Slots K A B F H (ρ.set i .un) (σ.set i o') := by
  refine ⟨by simp [s.len], fun j sl o h1 h2 => ?_, fun j l xs ys q h1 h2 h3 h4 => ?_⟩
  · rcases set_get h1 with ⟨e, rfl⟩ | ⟨e, h1⟩
    · trivial
    · rcases set_get h2 with ⟨e', _⟩ | ⟨_, h2⟩
      · exact absurd e' e
      · exact s.at_ j sl o h1 h2
  · rcases set_get h1 with ⟨_, z⟩ | ⟨n1, h1⟩
    · cases z
    · rcases set_get h2 with ⟨_, z⟩ | ⟨n2, h2⟩
      · cases z
      · rw [List.getElem?_set_ne n1] at h3
        rw [List.getElem?_set_ne n2] at h4
        exact s.apart j l xs ys q h1 h2 h3 h4
theorem Slots.wiped {K : PySem.W.Frag} {A : Option Addr} {B F H : Hp} {σ : L2.St} (s : Slots K A B F H ρ σ) : ∀ vs : List Nat, Slots K A B F H (wipeS ρ vs) (wipe σ vs)
  | [] => s
  | v :: vs => (Slots.wiped s vs).unset v none
theorem tgt_name {K : PySem.W.Frag} {i : Nat} {is : List Nat} (hi : i ∈ is) : TGt K (gName i) ρ some (fun d => ρ.set i (.val d)) is := fun A B F H σ d v bb s z r e Q q => by
  cases e
  exact q _ (s.set i r) (wipe_set hi)
theorem tgt_par2 {K : PySem.W.Frag} {i j : Nat} {is : List Nat} (hi : i ∈ is) (hj : j ∈ is) : TGt K (gTup K 2 (gCons (gName i) (gCons (gName j) gNil))) ρ par2 (fun d => (ρ.set i (.val d.1)).set j (.val d.2)) is := fun A B F H σ d v bb s z r e Q q => by
  unfold par2 at e
  split at e
  · cases e
    cases r with
    | tup h p =>
      cases p with
      | cons p1 p =>
        cases p with
        | cons p2 p =>
          cases p
          exact ⟨_, _, rfl, SqT.sameM z.sub h, rfl, _, _, rfl, _, _, rfl, rfl, q _ ((s.set i p1).set j p2) (by rw [wipe_set hj, wipe_set hi])⟩
  · cases e
theorem tgt_par3 {K : PySem.W.Frag} {i j k : Nat} {is : List Nat} (hi : i ∈ is) (hj : j ∈ is) (hk : k ∈ is) : TGt K (gTup K 3 (gCons (gName i) (gCons (gName j) (gCons (gName k) gNil)))) ρ par3 (fun d => ((ρ.set i (.val d.1)).set j (.val d.2.1)).set k (.val d.2.2)) is := fun A B F H σ d v bb s z r e Q q => by
  unfold par3 at e
  split at e
  · cases e
    cases r with
    | tup h p =>
      cases p with
      | cons p1 p =>
        cases p with
        | cons p2 p =>
          cases p with
          | cons p3 p =>
            cases p
            exact ⟨_, _, rfl, SqT.sameM z.sub h, rfl, _, _, rfl, _, _, rfl, _, _, rfl, rfl, q _ (((s.set i p1).set j p2).set k p3) (by rw [wipe_set hk, wipe_set hj, wipe_set hi])⟩
  · cases e
end
end Mir

set_option maxRecDepth 100000
/-! MirC3: comprehensions by data. -/
namespace Mir
open PySem PySem.Spec PyProof.Rows L2
theorem Wp_nex {α : Type} {m : M α} {c : Cup} {Q : α → Cup → Prop} {E E' : Exc → Cup → Prop} (h : Wp (nex m c) Q E) : Wp (m c) Q E' := by
  unfold nex at h
  cases hm : m c with
  | ok a c' => rw [hm] at h; exact h
  | exc e c' => rw [hm] at h; exact h.elim
  | bad => rw [hm] at h; exact h.elim
/-- nothing is raised -/
abbrev EN : Exc → L2.St → Hp → Prop := fun _ _ _ => False
section
variable {X : Cx} {A : Option Addr} {E : Exc → L2.St → Hp → Prop} {ρ : List Sl} {pos : Pos} {elt tg iter : Expr} {ifs : List Expr} {scope : Scope} {own : List (Str × Nat)}
/-- what stands while a comprehension runs: F1 H1 is the state behind its iterable, D the new list -/
structure LcI (X : Cx) (A : Option Addr) (F1 H1 : Hp) (Dd : Addr) (n : Nat) (F H : Hp) (c : Cup) (acc : List V) (accd : List D) : Prop where
  ext : Ext A F1 H1 F H
  wd : Wd A c F H
  hD : H Dd = some (.lst acc)
  fD : F Dd = none
  dl : DpAll X.K F acc accd
  le : acc.length ≤ n
theorem LcI.app {F1 H1 F H F' H' : Hp} {Dd : Addr} {n : Nat} {c c' : Cup} {acc : List V} {accd : List D} {v : V} {d : D} (i : LcI X A F1 H1 Dd n F H c acc accd) (hD1 : H1 Dd = none) (hA : A ≠ some Dd) (e : Ext A F H F' H') (w : Wd A c' F' H') (p : Dp X.K F' v d) :
    H' Dd = some (.lst acc) ∧ LcI X A F1 H1 Dd (n + 1) F' (upd H' Dd (.lst (acc ++ [v]))) c' (acc ++ [v]) (accd ++ [d]) := by
  have hD' : H' Dd = some (.lst acc) := e.h Dd _ i.hD hA fun ps z => nomatch z
  have fD' : F' Dd = none := by
    cases q : F' Dd with
    | none => rfl
    | some o =>
      rcases e.n Dd o q with h | h
      · rw [i.fD] at h; cases h
      · rw [i.hD] at h; cases h
  have t := i.ext.trans e
  refine ⟨hD', ⟨⟨t.f, fun a o h n z => ?_, t.n, fun a h => ?_⟩, ⟨⟨fun b u q => ?_, w.frz.nt⟩, fun a ha => ?_⟩, upd_same, fD', (DpAll.sameM e.f _ _ i.dl).appM (.cons p .nil), by rw [List.length_append]; exact Nat.add_le_add_right i.le 1⟩⟩
  · rw [upd_ne (ne_of_none h hD1)]; exact t.h a o h n z
  · by_cases hb : a = Dd
    · rw [hb]; exact hD1
    · rw [upd_ne hb] at h; exact t.d a h
  · rw [upd_ne (ne_of_none q fD')]; exact w.frz.sub b u q
  · obtain ⟨h1, h2⟩ := w.cup a ha
    exact ⟨h1, by rw [upd_ne (fun z => hA (by rw [← z]; exact ha))]; exact h2⟩
theorem LcI.step {F1 H1 F H F' H' : Hp} {Dd : Addr} {n : Nat} {c : Cup} {acc : List V} {accd : List D} (i : LcI X A F1 H1 Dd n F H c acc accd) (hA : A ≠ some Dd) (e : Ext none F H F' H') (z : Frz F' H') : LcI X A F1 H1 Dd n F' H' c acc accd := by
  refine ⟨i.ext.trans e.to, i.wd.ext e z, e.h Dd _ i.hD (fun z => nomatch z) (fun ps z => nomatch z), ?_, DpAll.sameM e.f _ _ i.dl, i.le⟩
  cases q : F' Dd with
  | none => rfl
  | some o =>
    rcases e.n Dd o q with h | h
    · rw [i.fD] at h; cases h
    · rw [i.hD] at h; cases h
theorem LcI.more {F1 H1 F H F' H' : Hp} {Dd : Addr} {n : Nat} {c c' : Cup} {acc : List V} {accd : List D} (i : LcI X A F1 H1 Dd n F H c acc accd) (hA : A ≠ some Dd) (e : Ext A F H F' H') (w : Wd A c' F' H') : LcI X A F1 H1 Dd (n + 1) F' H' c' acc accd := by
  refine ⟨i.ext.trans e, w, e.h Dd _ i.hD hA (fun ps z => nomatch z), ?_, DpAll.sameM e.f _ _ i.dl, Nat.le_succ_of_le i.le⟩
  cases q : F' Dd with
  | none => rfl
  | some o =>
    rcases e.n Dd o q with h | h
    · rw [i.fD] at h; cases h
    · rw [i.hD] at h; cases h
/-- the reading of a comprehension: step is what a turn gives, told by how it is asked -/
theorem lc_read {wi : TI} {g : TG} {tt : TT} {te : TE} {mi : M (List D)} {mf : List D → M (List D)} {vs : List Nat} {σ : L2.St} {H : Hp} {Q : VK}
    (hw : ∀ σ H R, tI X.K A E ρ mi σ H R → wi σ H R)
    (h0 : ∀ c Q E, Wp (mf [] c) Q E → Q [] c)
    -- a turn: from the item at hand to the next
    (turn : ∀ (d : D) (r : List D) (c : Cup) (Qm : List D → Cup → Prop) (Em : Exc → Cup → Prop), Wp (mf (d :: r) c) Qm Em → ∀ (B F H : Hp) (σ : L2.St) (x : V), Wd A c F H → Slots X.K A B F H (wipeS ρ vs) (wipe σ vs) → Dp X.K F x d →
      ∀ (Kp : V → Hp → Prop) (Sk : Hp → Prop),
        (∀ y yd c' F' H', Ext A F H F' H' → Wd A c' F' H' → Dp X.K F' y yd → Wp (mf r c') (fun ys c2 => Qm (yd :: ys) c2) Em → Kp y H') →
        (∀ c' F' H', Ext A F H F' H' → Wd A c' F' H' → Wp (mf r c') Qm Em → Sk H') →
        g x (wipe σ vs) H fun σ2 H2 => wipe σ2 vs = wipe σ vs ∧ tt σ2 H2 fun b H3 => if b = true then te σ2 H3 Kp else Sk H3)
    (h : tO X.K A E ρ (mi >>= mf) σ H Q) : tLc wi g tt te vs σ H Q := by
  obtain ⟨c, F, B, w, s, g0⟩ := h
  refine hw _ _ _ ⟨c, F, B, w, s, (Wp_bind.mp g0).mono (fun ds c1 q J F1 H1 x1 w1 ⟨hlen, st⟩ => ?_) fun _ _ q => q⟩
  intro Dd hD1
  have hA : A ≠ some Dd := w1.ne hD1
  have hF1 : F1 Dd = none := Same.free w1.frz.sub hD1
  have s1 := s.ext x1
  have e0 := Ext.new' (F := F1) (o := .lst []) hD1
  refine ⟨fun i m H => m = ds.length - i ∧ i ≤ ds.length ∧ ∃ F c acc accd, LcI X A F1 H1 Dd i F H c acc accd ∧ Wp (mf (ds.drop i) c) (fun ys c' => ∀ p vs F' H', Ext A F1 H1 F' H' → Wd A c' F' H' → F' p = none → H1 p = none → H' p = some (.lst vs) → DpAll X.K F' vs (accd ++ ys) → Q (.ref p) H') (fun e c' => ∀ F' H', Ext A F1 H1 F' H' → Wd A c' F' H' → E e σ H'),
    ⟨_, rfl, Nat.zero_le _, F1, c1, [], [], ⟨e0.to, w1.ext e0 (w1.frz.new' hD1), upd_same, hF1, .nil, Nat.le_refl _⟩, ?_⟩, ?_⟩
  · exact q.mono (fun ys c' q' p vs F' H' x w f hp h r => q' p vs F' H' (x1.trans x) w (x1.d p hp) f h r) fun e c' q' F' H' x w => q' F' H' (x1.trans x) w
  · rintro i m H2 ⟨rfl, hi, F2, c2, acc, accd, I, hq⟩
    obtain ⟨stp, stop⟩ := st F2 H2 I.ext.f I.wd.frz
    by_cases hlt : i < ds.length
    · refine .inr ⟨(stp i hlt).1, fun H' => ∃ F c acc accd, LcI X A F1 H1 Dd (i + 1) F H' c acc accd ∧ Wp (mf (ds.drop (i + 1)) c) (fun ys c' => ∀ p vs F' H', Ext A F1 H1 F' H' → Wd A c' F' H' → F' p = none → H1 p = none → H' p = some (.lst vs) → DpAll X.K F' vs (accd ++ ys) → Q (.ref p) H') (fun e c' => ∀ F' H', Ext A F1 H1 F' H' → Wd A c' F' H' → E e σ H'),
        fun H' n => ⟨ds.length - (i + 1), by omega, rfl, hlt, n⟩, fun x H3 y => ?_⟩
      obtain ⟨F3, d, x3, z3, ed, pd⟩ := (stp i hlt).2 x H3 y
      have I3 := I.step hA x3 z3
      have hd : ds.drop i = d :: ds.drop (i + 1) := by
        have e1 := List.drop_eq_getElem_cons hlt
        rw [List.getElem?_eq_getElem hlt] at ed
        cases ed
        exact e1
      rw [hd] at hq
      refine turn d _ _ _ _ hq B F3 H3 σ x I3.wd ((s1.ext I3.ext).wiped vs) pd _ _ (fun y yd c' F' H' e' w' p' hy => ?_) (fun c' F' H' e' w' hy => ?_)
      · obtain ⟨hD', I4⟩ := I3.app hD1 hA e' w' p'
        refine ⟨acc, hD', Nat.lt_of_le_of_lt I3.le (Nat.lt_of_lt_of_le hlt hlen), F', c', acc ++ [y], accd ++ [yd], I4, hy.mono (fun ys c2 q2 p vs F' H' x w f hp h r => q2 p vs F' H' x w f hp h (by rw [List.append_assoc] at r; exact r)) fun _ _ q => q⟩
      · exact ⟨F', c', acc, accd, I3.more hA e' w', hy⟩
    · have e : i = ds.length := by omega
      subst e
      rw [List.drop_length] at hq
      have hq := h0 _ _ _ hq
      exact .inl ⟨stop, hq Dd acc F2 H2 I.ext I.wd I.fD hD1 I.hD (by rw [List.append_nil]; exact I.dl)⟩
theorem slots_wiped {σ : L2.St} {vs : List Nat} {σ2 : L2.St} (h : wipe σ2 vs = wipe (wipe σ vs) vs) : wipe σ2 vs = wipe σ vs := by rw [h, wipe_wipe]
variable {g : TG} {β : Type} {un : D → Option β} {ρb : β → List Sl} {mi : M (List D)} {me : β → M D} {mt : β → M Bool} {test : Expr}
theorem lc_ok (hgt : TGt X.K g (wipeS ρ (own.map (·.2))) un ρb (own.map (·.2))) {σ : L2.St} {H : Hp} {Q : VK} (h : tO X.K A E ρ (mi >>= mapC (fun d => lft (un d) >>= me)) σ H Q) :
    tLc (tI X.K A E ρ mi) g tYes (fun σ H Q => ∃ b, tM X.K A EN (ρb b) (me b) σ H Q) (own.map (·.2)) σ H Q :=
    lc_read (mf := mapC (fun d => lft (un d) >>= me)) (vs := own.map (·.2)) (fun _ _ _ q => q) (fun c Q E q => q) (fun d r c Qm Em hq B F H σ x w sl p Kp Sk hK hS => by
      unfold mapC at hq
      rw [Wp_bind] at hq
      have hq := Wp_nex (E' := fun _ _ => False) hq
      rw [Wp_bind] at hq
      obtain ⟨bb, eb, hq⟩ := Wp_lft hq
      refine hgt A B F H _ d x bb sl w.frz p eb _ fun σ2 s2 hw => ⟨slots_wiped hw, ?_⟩
      show (if true = true then (∃ b, tM X.K A EN (ρb b) (me b) σ2 H Kp) else Sk H)
      rw [if_pos rfl]
      refine ⟨bb, c, F, B, w, s2, hq.mono (fun yd c' q y F' H' e' w' r => ?_) fun _ _ q => q.elim⟩
      exact hK y yd c' F' H' e' w' r (Wp_bind.mp q)) h
theorem lcif_ok (hgt : TGt X.K g (wipeS ρ (own.map (·.2))) un ρb (own.map (·.2))) {σ : L2.St} {H : Hp} {Q : VK} (h : tO X.K A E ρ (mi >>= filtC (fun d => lft (un d) >>= fun b => whn (mt b) (me b))) σ H Q) :
    tLc (tI X.K A E ρ mi) g (fun σ H Q => ∃ b, tT X.K A EN (ρb b) (mt b) σ H Q) (fun σ H Q => ∃ b, tM X.K A EN (ρb b) (me b) σ H Q) (own.map (·.2)) σ H Q :=
    lc_read (mf := filtC (fun d => lft (un d) >>= fun b => whn (mt b) (me b))) (vs := own.map (·.2)) (fun _ _ _ q => q) (fun c Q E q => q) (fun d r c Qm Em hq B F H σ x w sl p Kp Sk hK hS => by
      unfold filtC at hq
      rw [Wp_bind] at hq
      have hq := Wp_nex (E' := fun _ _ => False) hq
      rw [Wp_bind] at hq
      obtain ⟨bb, eb, hq⟩ := Wp_lft hq
      unfold whn at hq
      rw [Wp_bind] at hq
      refine hgt A B F H _ d x bb sl w.frz p eb _ fun σ2 s2 hw => ⟨slots_wiped hw, bb, c, F, B, w, s2, hq.mono (fun t c1 q b F1 H1 e1 w1 r => ?_) fun _ _ q => q.elim⟩
      cases r
      cases t with
      | true =>
        rw [if_pos rfl, Wp_bind] at q
        refine iteT ⟨bb, c1, F1, B, w1, s2.ext e1, q.mono (fun yd c' q y F' H' e' w' r => ?_) fun _ _ q => q.elim⟩
        exact hK y yd c' F' H' (e1.trans e') w' r (Wp_bind.mp q)
      | false =>
        rw [if_neg Bool.false_ne_true] at q
        exact iteF (hS c1 F1 H1 e1 w1 ((Wp_bind.mp q).mono (fun ys c2 q => q) fun _ _ q => q))) h
section
variable {i : Nat} {y : Str} {py spos : Pos} (hc : X.calm = true) (hN : X.N.Nodup) (hi : PI X tg iter (tI X.K A E ρ mi)) (ok : BlkOk X.N X.env.scope scope own)
    (hg : ∀ (s : Shared) (H : Hp) (C : Addr) (cl : List (Str × Addr)) (fp : List Addr), PG (X.blk s H scope (compEnvC scope cl C X.env) fp) tg g) (hgt : TGt X.K g (wipeS ρ (own.map (·.2))) un ρb (own.map (·.2)))
include hc hN hi ok hg hgt
/-- [elt for target in iter] -/
theorem eo_lc (he : ∀ (b : β) (s : Shared) (H : Hp) (C : Addr) (cl : List (Str × Addr)) (fp : List Addr), PE (X.blk s H scope (compEnvC scope cl C X.env) fp) elt (tM X.K A EN (ρb b) (me b))) (hs : ∀ x, foldedSetIterable iter X.env x = pure x := by intro _; rfl) :
    PE X (.ListComp elt [⟨tg, iter, [], 0⟩] scope pos) (tO X.K A E ρ (mi >>= mapC (fun d => lft (un d) >>= me))) :=
  (pe_lc hc hN hi ok hg (fun _ _ _ _ _ => pts_nil) (fun s H C cl fp => ⟨fun pins s' σ H' Q I ⟨b, q⟩ => (he b s H C cl fp).run pins s' σ H' Q I q⟩) hs).impM fun σ H Q h => lc_ok hgt h
/-- [elt for target in iter if test] -/
theorem eo_lcif (ht : ∀ (b : β) (s : Shared) (H : Hp) (C : Addr) (cl : List (Str × Addr)) (fp : List Addr), PT (X.blk s H scope (compEnvC scope cl C X.env) fp) test (tT X.K A EN (ρb b) (mt b)))
    (he : ∀ (b : β) (s : Shared) (H : Hp) (C : Addr) (cl : List (Str × Addr)) (fp : List Addr), PE (X.blk s H scope (compEnvC scope cl C X.env) fp) elt (tM X.K A EN (ρb b) (me b))) (hs : ∀ x, foldedSetIterable iter X.env x = pure x := by intro _; rfl) :
    PE X (.ListComp elt [⟨tg, iter, [test], 0⟩] scope pos) (tO X.K A E ρ (mi >>= filtC (fun d => lft (un d) >>= fun b => whn (mt b) (me b)))) :=
  (pe_lc hc hN hi ok hg (fun s H C cl fp => pts_one ⟨fun pins s' σ H' Q I ⟨b, q⟩ => (ht b s H C cl fp).run pins s' σ H' Q I q⟩)
    (fun s H C cl fp => ⟨fun pins s' σ H' Q I ⟨b, q⟩ => (he b s H C cl fp).run pins s' σ H' Q I q⟩) hs).impM fun σ H Q h => lcif_ok hgt h
/-- x = [..] on one line, x a local: a statement of its own -/
theorem ps_lcO (hy : X.N[i]? = some y) (hyl : X.env.scope.names.lookup y = some .local) (hsw : swapsWith (.ListComp elt [⟨tg, iter, [], 0⟩] scope pos) (some (.Name y py)) spos.line X.env = pure true)
    (he : ∀ (b : β) (s : Shared) (H : Hp) (C : Addr) (cl : List (Str × Addr)) (fp : List Addr), PE (X.blk s H scope (compEnvC scope cl C X.env) fp) elt (tM X.K A EN (ρb b) (me b))) (hs : ∀ x, foldedSetIterable iter X.env x = pure x := by intro _; rfl) :
    PS X (.Assign [.Name y py] (.ListComp elt [⟨tg, iter, [], 0⟩] scope pos) spos) (tAsg (tO X.K A E ρ (mi >>= mapC (fun d => lft (un d) >>= me))) (gName i)) :=
  ⟨fun pins s σ H D I h => (ps_setLc hc hN hy hyl hsw hi ok hg (fun _ _ _ _ _ => pts_nil) (fun s H C cl fp => ⟨fun pins s' σ H' Q I ⟨b, q⟩ => (he b s H C cl fp).run pins s' σ H' Q I q⟩) hs).run pins s σ H D I (lc_ok hgt h)⟩
theorem ps_lcifO (hy : X.N[i]? = some y) (hyl : X.env.scope.names.lookup y = some .local) (hsw : swapsWith (.ListComp elt [⟨tg, iter, [test], 0⟩] scope pos) (some (.Name y py)) spos.line X.env = pure true)
    (ht : ∀ (b : β) (s : Shared) (H : Hp) (C : Addr) (cl : List (Str × Addr)) (fp : List Addr), PT (X.blk s H scope (compEnvC scope cl C X.env) fp) test (tT X.K A EN (ρb b) (mt b)))
    (he : ∀ (b : β) (s : Shared) (H : Hp) (C : Addr) (cl : List (Str × Addr)) (fp : List Addr), PE (X.blk s H scope (compEnvC scope cl C X.env) fp) elt (tM X.K A EN (ρb b) (me b))) (hs : ∀ x, foldedSetIterable iter X.env x = pure x := by intro _; rfl) :
    PS X (.Assign [.Name y py] (.ListComp elt [⟨tg, iter, [test], 0⟩] scope pos) spos) (tAsg (tO X.K A E ρ (mi >>= filtC (fun d => lft (un d) >>= fun b => whn (mt b) (me b)))) (gName i)) :=
  ⟨fun pins s σ H D I h => (ps_setLc hc hN hy hyl hsw hi ok hg (fun s H C cl fp => pts_one ⟨fun pins s' σ H' Q I ⟨b, q⟩ => (ht b s H C cl fp).run pins s' σ H' Q I q⟩) (fun s H C cl fp => ⟨fun pins s' σ H' Q I ⟨b, q⟩ => (he b s H C cl fp).run pins s' σ H' Q I q⟩) hs).run pins s σ H D I (lcif_ok hgt h)⟩
end
end
end Mir

set_option maxRecDepth 100000
/-! MirC4: blocks, statements. -/
namespace Mir
open PySem PySem.Spec PyProof.Rows L2
/-- how a block ends -/
inductive Fl (β γ : Type) where
  | nx (b : β)
  | rt (d : D)
  | bk (g : γ)
  | ct (g : γ)
def seqF {β β' γ : Type} (m : M (Fl β γ)) (k : β → M (Fl β' γ)) : M (Fl β' γ) := do
  match ← m with
  | .nx b => k b
  | .rt d => pure (.rt d)
  | .bk g => pure (.bk g)
  | .ct g => pure (.ct g)
def forF {τ γ : Type} (f : D → τ → M (Fl τ τ)) : List D → τ → M (Fl τ γ)
  | [], t => pure (.nx t)
  | x :: r, t => do
    match ← f x t with
    | .nx t' => forF f r t'
    | .ct t' => forF f r t'
    | .bk t' => pure (.nx t')
    | .rt d => pure (.rt d)
def whileF {τ γ : Type} (c : τ → M Bool) (f : τ → M (Fl τ τ)) : Nat → τ → M (Fl τ γ)
  | 0, _ => bad
  | n + 1, t => do
    let b ← c t
    if b = true then do
      match ← f t with
      | .nx t' => whileF c f n t'
      | .ct t' => whileF c f n t'
      | .bk t' => pure (.nx t')
      | .rt d => pure (.rt d)
    else pure (.nx t)
/-- a def's result -/
def runF (m : M (Fl Unit Unit)) : M D := do
  match ← m with
  | .rt d => pure d
  | .nx _ => pure .none
  | _ => bad
structure Now (K : PySem.W.Frag) (A : Option Addr) (F0 B : Hp) (c : Cup) (F H : Hp) (ρ : List Sl) (σ : L2.St) : Prop where
  w : Wd A c F H
  x : Ext A F0 B F H
  s : Slots K A B F H ρ σ
inductive LeS : List Sl → List Sl → Prop where
  | nil : LeS [] []
  | un {s : Sl} {l r : List Sl} (h : LeS l r) : LeS (.un :: l) (s :: r)
  | eq {s : Sl} {l r : List Sl} (h : LeS l r) : LeS (s :: l) (s :: r)
theorem LeS.len {l r : List Sl} (h : LeS l r) : l.length = r.length := by
  induction h with
  | nil => rfl
  | un _ ih => simp [ih]
  | eq _ ih => simp [ih]
theorem LeS.get {l r : List Sl} (h : LeS l r) : ∀ {i : Nat} {s : Sl}, l[i]? = some s → s = .un ∨ r[i]? = some s := by
  induction h with
  | nil => intro i s e; simp at e
  | un _ ih =>
    intro i s e
    cases i with
    | zero => exact .inl (Option.some.inj e).symm
    | succ i => exact ih (i := i) (by simpa using e)
  | eq _ ih =>
    intro i s e
    cases i with
    | zero => exact .inr e
    | succ i => exact ih (i := i) (by simpa using e)
section
variable {K : PySem.W.Frag} {A : Option Addr} {F0 B F H F' H' : Hp} {c c' : Cup} {ρ ρ' : List Sl} {σ : L2.St}
theorem Slots.weak (s : Slots K A B F H ρ σ) (h : LeS ρ' ρ) : Slots K A B F H ρ' σ := by
  refine ⟨h.len.trans s.len, fun i sl o h1 h2 => ?_, fun i j xs ys p h1 h2 h3 h4 => ?_⟩
  · rcases h.get h1 with rfl | e
    · trivial
    · exact s.at_ i sl o e h2
  · rcases h.get h1 with e | e1
    · cases e
    · rcases h.get h2 with e | e2
      · cases e
      · exact s.apart i j xs ys p e1 e2 h3 h4
theorem Now.weak (n : Now K A F0 B c F H ρ σ) (h : LeS ρ' ρ) : Now K A F0 B c F H ρ' σ := ⟨n.w, n.x, n.s.weak h⟩
theorem Now.ext (n : Now K A F0 B c F H ρ σ) (e : Ext A F H F' H') (w : Wd A c' F' H') : Now K A F0 B c' F' H' ρ σ := ⟨w, n.x.trans e, n.s.ext e⟩
theorem Now.set (n : Now K A F0 B c F H ρ σ) (i : Nat) {d : D} {v : V} (p : Dp K F v d) : Now K A F0 B c F H (ρ.set i (.val d)) (σ.set i (some v)) := ⟨n.w, n.x, n.s.set i p⟩
/-- a fresh list stored -/
theorem Now.setOwn (n : Now K A F0 B c F H ρ σ) (i : Nat) {p : Addr} {vs : List V} {ds : List D} (e : Ext A F H F' H') (w : Wd A c' F' H') (hp : H p = none) (fp : F' p = none) (hp' : H' p = some (.lst vs)) (dl : DpAll K F' vs ds) :
    Now K A F0 B c' F' H' (ρ.set i (.own ds)) (σ.set i (some (.ref p))) := by
  have s := n.s.ext e
  have hA : A ≠ some p := n.w.ne hp
  have hB : B p = none := n.x.d p hp
  have old : ∀ {j : Nat} {xs : List D} {o : Option V}, ρ[j]? = some (.own xs) → σ[j]? = some o → o ≠ some (.ref p) := fun {j xs o} h1 h2 z => by
    obtain ⟨q, us, e1, _, _, _, e5, _⟩ := n.s.at_ j _ o h1 h2
    rw [e1] at z
    cases z
    rw [hp] at e5
    cases e5
  refine ⟨w, n.x.trans e, by simp [s.len], fun j sl o h1 h2 => ?_, fun j l xs ys q h1 h2 h3 h4 => ?_⟩
  · rcases set_get h1 with ⟨e, rfl⟩ | ⟨e, h1⟩
    · subst e
      rcases set_get h2 with ⟨_, rfl⟩ | ⟨e, _⟩
      · exact ⟨p, vs, rfl, hB, fp, hA, hp', dl⟩
      · exact absurd rfl e
    · rcases set_get h2 with ⟨e', _⟩ | ⟨_, h2⟩
      · exact absurd e' e
      · exact s.at_ j sl o h1 h2
  · rcases set_get h1 with ⟨e1, _⟩ | ⟨n1, h1⟩
    · rcases set_get h2 with ⟨e2, _⟩ | ⟨n2, h2⟩
      · exact e1.symm.trans e2
      · subst e1
        rcases set_get h3 with ⟨_, z⟩ | ⟨z, _⟩
        · cases z
          rw [List.getElem?_set_ne n2] at h4
          exact absurd rfl (old h2 h4)
        · exact absurd rfl z
    · rcases set_get h2 with ⟨e2, _⟩ | ⟨n2, h2⟩
      · subst e2
        rcases set_get h4 with ⟨_, z⟩ | ⟨z, _⟩
        · cases z
          rw [List.getElem?_set_ne n1] at h3
          exact absurd rfl (old h1 h3)
        · exact absurd rfl z
      · rw [List.getElem?_set_ne n1] at h3
        rw [List.getElem?_set_ne n2] at h4
        exact s.apart j l xs ys q h1 h2 h3 h4
/-- an own list in its slot -/
theorem Slots.own (s : Slots K A B F H ρ σ) {i : Nat} {xs : List D} (h : ρ[i]? = some (.own xs)) : ∃ p vs, σ[i]? = some (some (.ref p)) ∧ B p = none ∧ F p = none ∧ A ≠ some p ∧ H p = some (.lst vs) ∧ DpAll K F vs xs := by
  obtain ⟨o, h1, p, vs, e, r⟩ := s.get h
  exact ⟨p, vs, by rw [h1, e], r⟩
theorem upd_ext {p : Addr} {vs us : List V} (hB : B p = none) (h : H p = some (.lst vs)) (e : Ext A F0 B F H) : Ext A F0 B F (upd H p (.lst us)) :=
  ⟨e.f, fun a o q n t => by rw [upd_ne (fun z => by rw [z, hB] at q; cases q)]; exact e.h a o q n t, e.n, fun a q => by
    by_cases z : a = p
    · rw [z]; exact hB
    · rw [upd_ne z] at q; exact e.d a q⟩
/-- an own list changes -/
theorem Now.mut (n : Now K A F0 B c F H ρ σ) {i : Nat} {xs ys : List D} {p : Addr} {vs us : List V} (hi : ρ[i]? = some (.own xs)) (hσ : σ[i]? = some (some (.ref p))) (hp : H p = some (.lst vs)) (dl : DpAll K F us ys) :
    Now K A F0 B c F (upd H p (.lst us)) (ρ.set i (.own ys)) σ := by
  obtain ⟨p', vs', e1, e2, e3, e4, e5, e6⟩ := n.s.own hi
  rw [hσ] at e1
  cases e1
  refine ⟨⟨⟨fun b u q => ?_, n.w.frz.nt⟩, fun a ha => ?_⟩, upd_ext e2 hp n.x, by simp [n.s.len], fun j sl o h1 h2 => ?_, fun j l xs1 ys1 q h1 h2 h3 h4 => ?_⟩
  · rw [upd_ne (ne_of_none q e3)]; exact n.w.frz.sub b u q
  · obtain ⟨h1, h2⟩ := n.w.cup a ha
    exact ⟨h1, by rw [upd_ne (fun z => e4 (by rw [← z]; exact ha))]; exact h2⟩
  · rcases set_get h1 with ⟨e, rfl⟩ | ⟨e, h1⟩
    · subst e
      rw [hσ] at h2
      cases h2
      exact ⟨p, us, rfl, e2, e3, e4, upd_same, dl⟩
    · have q := n.s.at_ j sl o h1 h2
      cases sl with
      | un => trivial
      | val d => exact q
      | own zs =>
        obtain ⟨r, ws, f1, f2, f3, f4, f5, f6⟩ := q
        have ne : r ≠ p := fun z => by
          subst z
          rw [f1] at h2
          exact e (n.s.apart i j xs zs r hi h1 hσ h2)
        exact ⟨r, ws, f1, f2, f3, f4, by rw [upd_ne ne]; exact f5, f6⟩
      | cup => exact q
      | kn φ => exact q
  · have tell : ∀ {j : Nat} {zs : List D}, (ρ.set i (.own ys))[j]? = some (.own zs) → ∃ ws, ρ[j]? = some (.own ws) := fun {j zs} h => by
      rcases set_get h with ⟨e, _⟩ | ⟨_, h⟩
      · exact ⟨xs, e ▸ hi⟩
      · exact ⟨zs, h⟩
    obtain ⟨_, g1⟩ := tell h1
    obtain ⟨_, g2⟩ := tell h2
    exact n.s.apart j l _ _ q g1 g2 h3 h4
/-- an own list is frozen -/
theorem Now.freeze (n : Now K A F0 B c F H ρ σ) {i : Nat} {xs : List D} (hi : ρ[i]? = some (.own xs)) : ∃ F', Same F F' ∧ Now K A F0 B c F' H (ρ.set i (.val (.list xs))) σ := by
  obtain ⟨p, vs, e1, e2, e3, e4, e5, e6⟩ := n.s.own hi
  have hF : Same F (upd F p (.lst vs)) := fun b u q => by rw [upd_ne (ne_of_none q e3)]; exact q
  refine ⟨upd F p (.lst vs), hF, ⟨?_, ⟨fun b u q => hF b u (n.x.f b u q), n.x.h, fun a o q => ?_, n.x.d⟩, ⟨by simp [n.s.len], fun j sl o h1 h2 => ?_, fun j l xs ys q h1 h2 h3 h4 => ?_⟩⟩⟩
  · exact n.w.freeze e3 e4 e5 fun ps z => nomatch z
  · by_cases z : a = p
    · rw [z]; exact .inr e2
    · rw [upd_ne z] at q; exact n.x.n a o q
  · rcases set_get h1 with ⟨e, rfl⟩ | ⟨e, h1⟩
    · subst e
      rw [e1] at h2
      cases h2
      exact ⟨_, rfl, .lst (.inl (.inl upd_same)) (DpAll.sameM hF _ _ e6)⟩
    · have q := n.s.at_ j sl o h1 h2
      cases sl with
      | un => trivial
      | val d => obtain ⟨v, f1, f2⟩ := q; exact ⟨v, f1, Dp.sameM hF d v f2⟩
      | own zs =>
        obtain ⟨r, ws, f1, f2, f3, f4, f5, f6⟩ := q
        have ne : r ≠ p := fun z => by
          subst z
          rw [f1] at h2
          exact e (n.s.apart i j xs zs r hi h1 e1 h2)
        exact ⟨r, ws, f1, f2, by rw [upd_ne ne]; exact f3, f4, f5, DpAll.sameM hF _ _ f6⟩
      | cup => exact q
      | kn φ => obtain ⟨v, f1, f2⟩ := q; exact ⟨v, f1, fun F2 q => f2 F2 (hF.trans q)⟩
  · rcases set_get h1 with ⟨_, z⟩ | ⟨_, h1⟩
    · cases z
    · rcases set_get h2 with ⟨_, z⟩ | ⟨_, h2⟩
      · cases z
      · exact n.s.apart j l xs ys q h1 h2 h3 h4
end
def Fin (K : PySem.W.Frag) (A : Option Addr) (F0 B : Hp) {β γ : Type} (ρb : β → List Sl) (ρg : γ → List Sl) (D : Ends) : Fl β γ → Cup → Prop
  | .nx b, c => ∀ σ F H, Now K A F0 B c F H (ρb b) σ → D.nx σ H
  | .rt d, c => ∀ v F H, Wd A c F H → Ext A F0 B F H → Dp K F v d → D.rt v H
  | .bk g, c => ∀ σ F H, Now K A F0 B c F H (ρg g) σ → D.bk σ H
  | .ct g, c => ∀ σ F H, Now K A F0 B c F H (ρg g) σ → D.ct σ H
def tBn (K : PySem.W.Frag) (A : Option Addr) (E : Exc → L2.St → Hp → Prop) {β γ : Type} (ρb : β → List Sl) (ρg : γ → List Sl) (m : M (Fl β γ)) (D : Ends) (c : Cup) (F0 B : Hp) : Prop :=
  Wp (m c) (Fin K A F0 B ρb ρg D) (fun e c' => ∀ σ F' H', Wd A c' F' H' → Ext A F0 B F' H' → E e σ H')
def tB (K : PySem.W.Frag) (A : Option Addr) (E : Exc → L2.St → Hp → Prop) (ρ : List Sl) {β γ : Type} (ρb : β → List Sl) (ρg : γ → List Sl) (m : M (Fl β γ)) : TS := fun D σ H =>
  ∃ c F F0 B, Now K A F0 B c F H ρ σ ∧ tBn K A E ρb ρg m D c F0 B
theorem PSs.imp' {X : Cx} {st : List Stmt} {t t' : TS} (h : PSs X st t) (i : ∀ D σ H, t' D σ H → t D σ H) : PSs X st t' := ⟨fun pins s σ H D I q => h.run pins s σ H D I (i D σ H q)⟩
section
variable {X : Cx} {A : Option Addr} {E : Exc → L2.St → Hp → Prop} {ρ ρ' : List Sl} {β γ : Type} {ρb : β → List Sl} {ρg : γ → List Sl} {pos : Pos} {e : Expr} {rest : List Stmt} {i : Nat} {x : Str}
theorem Ext.over {F0 B F1 H1 F H : Hp} (a : Ext A F0 B F1 H1) (b : Ext A F1 B F H) : Ext A F0 B F H :=
  ⟨a.f.trans b.f, b.h, fun p o q => (b.n p o q).elim (fun z => a.n p o z) .inr, b.d⟩
/-- from a later start -/
theorem tBn.base {m : M (Fl β γ)} {D : Ends} {c : Cup} {F0 B F1 H1 : Hp} (h : tBn X.K A E ρb ρg m D c F0 B) (e : Ext A F0 B F1 H1) : tBn X.K A E ρb ρg m D c F1 B :=
  h.mono (fun o c' q => by
    cases o with
    | nx b => exact fun σ F H n => q σ F H ⟨n.w, e.over n.x, n.s⟩
    | rt d => exact fun v F H w x p => q v F H w (e.over x) p
    | bk g => exact fun σ F H n => q σ F H ⟨n.w, e.over n.x, n.s⟩
    | ct g => exact fun σ F H n => q σ F H ⟨n.w, e.over n.x, n.s⟩) fun x c' q σ F' H' w' x' => q σ F' H' w' (e.over x')
theorem Now.here {K : PySem.W.Frag} {F0 B F H : Hp} {c : Cup} {σ : L2.St} (n : Now K A F0 B c F H ρ σ) : Now K A F B c F H ρ σ := ⟨n.w, ⟨Same.refl F, n.x.h, fun _ _ q => .inl q, n.x.d⟩, n.s⟩
/-- an expression, then the rest of the block -/
theorem tBn.ex {α δ : Type} {R : Hp → α → δ → Prop} {m : M α} {k : α → M (Fl β γ)} {D : Ends} {c : Cup} {F F0 B H : Hp} {σ : L2.St} (n : Now X.K A F0 B c F H ρ σ) (h : tBn X.K A E ρb ρg (m >>= k) D c F0 B) :
    tG X.K A E ρ R m c F B σ H fun v H1 => ∃ a c' F', R F' a v ∧ Now X.K A F0 B c' F' H1 ρ σ ∧ tBn X.K A E ρb ρg (k a) D c' F0 B :=
  ⟨n.w, n.s, (Wp_bind.mp h).mono (fun d c' q v F' H' e w' r => ⟨d, c', F', r, n.ext e w', q⟩) fun x c' q F' H' e w' => q σ F' H' w' (n.x.trans e)⟩
theorem b_nil {b : β} (hρ : LeS (ρb b) ρ) : PSs X [] (tB X.K A E ρ ρb ρg (pure (.nx b))) := PSs.imp' pss_nil fun D σ H ⟨c, F, F0, B, n, h⟩ => h σ F H (n.weak hρ)
theorem b_ret {me : M D} (he : PE X e (tM X.K A E ρ me)) : PSs X (.Return (some e) pos :: rest) (tB X.K A E ρ ρb ρg (me >>= fun d => pure (.rt d))) :=
  PSs.imp' (pss_cons (ps_ret he) pss_never) fun D σ H ⟨c, F, F0, B, n, h⟩ =>
    ⟨c, F, B, (tBn.ex (R := RD X.K) n h).mono fun v H1 ⟨d, c1, F1, r, n1, h1⟩ => h1 v F1 H1 n1.w n1.x r⟩
theorem b_retN : PSs X (.Return none pos :: rest) (tB X.K A E ρ ρb ρg (pure (.rt .none))) :=
  PSs.imp' (pss_cons ps_retN pss_never) fun D σ H ⟨c, F, F0, B, n, h⟩ => h .non F H n.w n.x .non
theorem b_never {st : List Stmt} : PSs X st (tB X.K A E ρ ρb ρg bad) := PSs.imp' pss_never fun D σ H ⟨c, F, F0, B, n, h⟩ => h
theorem b_brk {g : γ} (hρ : LeS (ρg g) ρ) : PSs X (.Break pos :: rest) (tB X.K A E ρ ρb ρg (pure (.bk g))) := PSs.imp' (pss_cons ps_break pss_never) fun D σ H ⟨c, F, F0, B, n, h⟩ => h σ F H (n.weak hρ)
theorem b_cnt {g : γ} (hρ : LeS (ρg g) ρ) : PSs X (.Continue pos :: rest) (tB X.K A E ρ ρb ρg (pure (.ct g))) := PSs.imp' (pss_cons ps_continue pss_never) fun D σ H ⟨c, F, F0, B, n, h⟩ => h σ F H (n.weak hρ)
theorem b_pass {m : M (Fl β γ)} (hr : PSs X rest (tB X.K A E ρ ρb ρg m)) : PSs X (.Pass pos :: rest) (tB X.K A E ρ ρb ρg m) := PSs.imp' (pss_cons ps_pass hr) fun D σ H h => h
theorem b_expr {me : M D} {mr : D → M (Fl β γ)} (he : PE X e (tM X.K A E ρ me)) (hr : ∀ d, PSs X rest (tB X.K A E ρ ρb ρg (mr d))) (hs : swapsWith e none pos.line X.env = pure false := by rfl) :
    PSs X (.Expr e pos :: rest) (tB X.K A E ρ ρb ρg (me >>= mr)) :=
  PSs.imp' (pss_cons (u := fun D σ H => ∃ d, tB X.K A E ρ ρb ρg (mr d) D σ H) (ps_expr he hs) ⟨fun pins s σ H D I ⟨d, q⟩ => (hr d).run pins s σ H D I q⟩) fun D σ H ⟨c, F, F0, B, n, h⟩ =>
    ⟨c, F, B, (tBn.ex (R := RD X.K) n h).mono fun v H1 ⟨d, c1, F1, r, n1, h1⟩ => ⟨d, c1, F1, F0, B, n1, h1⟩⟩
/-- x = e -/
theorem b_setP {st : Stmt} {me : M D} {mr : D → M (Fl β γ)} (hp : PS X st (tAsg (tM X.K A E ρ me) (gName i))) (hr : ∀ d, PSs X rest (tB X.K A E (ρ.set i (.val d)) ρb ρg (mr d))) : PSs X (st :: rest) (tB X.K A E ρ ρb ρg (me >>= mr)) :=
  PSs.imp' (pss_cons (u := fun D σ H => ∃ d, tB X.K A E (ρ.set i (.val d)) ρb ρg (mr d) D σ H) hp ⟨fun pins s σ H D I ⟨d, q⟩ => (hr d).run pins s σ H D I q⟩) fun D σ H ⟨c, F, F0, B, n, h⟩ =>
    ⟨c, F, B, (tBn.ex (R := RD X.K) n h).mono fun v H1 ⟨d, c1, F1, r, n1, h1⟩ => ⟨d, c1, F1, F0, B, n1.set i r, h1⟩⟩
theorem b_ownP {st : Stmt} {mo : M (List D)} {mr : List D → M (Fl β γ)} (hp : PS X st (tAsg (tO X.K A E ρ mo) (gName i))) (hr : ∀ ds, PSs X rest (tB X.K A E (ρ.set i (.own ds)) ρb ρg (mr ds))) : PSs X (st :: rest) (tB X.K A E ρ ρb ρg (mo >>= mr)) :=
  PSs.imp' (pss_cons (u := fun D σ H => ∃ d, tB X.K A E (ρ.set i (.own d)) ρb ρg (mr d) D σ H) hp ⟨fun pins s σ H D I ⟨d, q⟩ => (hr d).run pins s σ H D I q⟩) fun D σ H ⟨c, F, F0, B, n, h⟩ =>
    ⟨c, F, B, n.w, n.s, (Wp_bind.mp h).mono (fun ds c' q p vs F' H' e w' hp fp hp' dl => ⟨ds, c', F', F0, B, n.setOwn i e w' hp fp hp' dl, q⟩) fun x c' q F' H' e w' => q σ F' H' w' (n.x.trans e)⟩
/-- x = [..], the list as data -/
theorem ps_lst {st : Stmt} {mo : M (List D)} (hp : PS X st (tAsg (tO X.K A E ρ mo) (gName i))) : PS X st (tAsg (tM X.K A E ρ (lstM mo)) (gName i)) := ⟨fun pins s σ H D I h => hp.run pins s σ H D I (own_imp h)⟩
theorem b_set {me : M D} {mr : D → M (Fl β γ)} {pos' : Pos} (hN : X.N.Nodup) (hi : X.N[i]? = some x) (hx : Loc X.env.scope x) (he : PE X e (tM X.K A E ρ me)) (hr : ∀ d, PSs X rest (tB X.K A E (ρ.set i (.val d)) ρb ρg (mr d)))
    (hs : swapsWith e (some (.Name x pos')) pos.line X.env = pure false := by rfl) (hf : X.fn x = true ∨ X.env.scope.names.lookup x = some .local := by first | exact .inl rfl | exact .inr rfl | assumption) :
    PSs X (.Assign [.Name x pos'] e pos :: rest) (tB X.K A E ρ ρb ρg (me >>= mr)) := b_setP (ps_set hN hi hx he hs hf) hr
/-- x = a fresh list, that may change later -/
theorem b_own {mo : M (List D)} {mr : List D → M (Fl β γ)} {pos' : Pos} (hN : X.N.Nodup) (hi : X.N[i]? = some x) (hx : Loc X.env.scope x) (he : PE X e (tO X.K A E ρ mo)) (hr : ∀ ds, PSs X rest (tB X.K A E (ρ.set i (.own ds)) ρb ρg (mr ds)))
    (hs : swapsWith e (some (.Name x pos')) pos.line X.env = pure false := by rfl) (hf : X.fn x = true ∨ X.env.scope.names.lookup x = some .local := by first | exact .inl rfl | exact .inr rfl | assumption) :
    PSs X (.Assign [.Name x pos'] e pos :: rest) (tB X.K A E ρ ρb ρg (mo >>= mr)) := b_ownP (ps_set hN hi hx he hs hf) hr
theorem b_freeze {st : List Stmt} {xs : List D} {m : M (Fl β γ)} (hi : ρ[i]? = some (.own xs)) (h : PSs X st (tB X.K A E (ρ.set i (.val (.list xs))) ρb ρg m)) : PSs X st (tB X.K A E ρ ρb ρg m) :=
  PSs.imp' h fun D σ H ⟨c, F, F0, B, n, q⟩ => by
    obtain ⟨F', _, n'⟩ := n.freeze hi
    exact ⟨c, F', F0, B, n', q⟩
theorem b_weak {st : List Stmt} {m : M (Fl β γ)} (hi : LeS ρ' ρ) (h : PSs X st (tB X.K A E ρ' ρb ρg m)) : PSs X st (tB X.K A E ρ ρb ρg m) :=
  PSs.imp' h fun D σ H ⟨c, F, F0, B, n, q⟩ => ⟨c, F, F0, B, n.weak hi, q⟩
/-- targets = e -/
theorem b_asg {me : M D} {tg : Expr} {g : TG} {δ : Type} {un : D → Option δ} {ρd : δ → List Sl} {is : List Nat} {mr : δ → M (Fl β γ)} (he : PE X e (tM X.K A E ρ me)) (hg : PG X tg g) (hgt : TGt X.K g ρ un ρd is) (hr : ∀ d, PSs X rest (tB X.K A E (ρd d) ρb ρg (mr d)))
    (hs : swapsWithSole [tg] e pos.line X.env = pure false := by rfl) (hw : swappedStores [tg] e X.env = pure none := by rfl) (h1 : (assignEach [tg] X.env).map (·.2) = [assign tg X.env] := by rfl) :
    PSs X (.Assign [tg] e pos :: rest) (tB X.K A E ρ ρb ρg (me >>= fun d => lft (un d) >>= mr)) :=
  PSs.imp' (pss_cons (u := fun D σ H => ∃ d, tB X.K A E (ρd d) ρb ρg (mr d) D σ H) (ps_asg he hg hs hw h1) ⟨fun pins s σ H D I ⟨d, q⟩ => (hr d).run pins s σ H D I q⟩) fun D σ H ⟨c, F, F0, B, n, h⟩ =>
    ⟨c, F, B, (tBn.ex (R := RD X.K) n h).mono fun v H1 ⟨d, c1, F1, r, n1, h1⟩ => by
      obtain ⟨bb, eb, h1⟩ := Wp_lft (Wp_bind.mp h1)
      exact hgt A B F1 H1 σ d v bb n1.s n1.w.frz r eb _ fun σ' s' _ => ⟨bb, c1, F1, F0, B, ⟨n1.w, n1.x, s'⟩, h1⟩⟩
theorem bind_two {α δ : Type} {m1 : M α} {m2 : M α} {f : List α → M δ} {g : α → α → M δ} (h : ∀ a b, f [a, b] = g a b) : ((do let a ← m1; let b ← m2; pure [a, b]) >>= f) = m1 >>= fun a => m2 >>= fun b => g a b := by
  simp only [bind_assoc, pure_bind, h]
theorem seqM_two (m1 m2 : M D) : seqM [m1, m2] = (do let a ← m1; let b ← m2; pure [a, b]) := by simp [seqM]
theorem seqM_three (m1 m2 m3 : M D) : seqM [m1, m2, m3] = (do let a ← m1; let b ← m2; let c ← m3; pure [a, b, c]) := by simp [seqM]
theorem seqM_four (m1 m2 m3 m4 : M D) : seqM [m1, m2, m3, m4] = (do let a ← m1; let b ← m2; let c ← m3; let d ← m4; pure [a, b, c, d]) := by simp [seqM]
/-- a, b = .., .. -/
theorem b_par {j : Nat} {y : Str} {a b : Expr} {ma mb : M D} {mr : D → D → M (Fl β γ)} {px py pt : Pos} {kt k2 pt2} (hc : X.calm = true) (hN : X.N.Nodup) (hi : X.N[i]? = some x) (hj : X.N[j]? = some y) (hij : i ≠ j)
    (hx : X.env.scope.names.lookup x = some .local) (hy : X.env.scope.names.lookup y = some .local) (ha : PA X [a, b] (tA X.K A E ρ (seqM [ma, mb])))
    (hr : ∀ d d2, PSs X rest (tB X.K A E ((ρ.set i (.val d)).set j (.val d2)) ρb ρg (mr d d2)))
    (hw : swappedStores [.Tuple [.Name x px, .Name y py] kt pt] (.Tuple [a, b] k2 pt2) X.env = pure (some [x, y])) (hs : swapsWithSole [.Tuple [.Name x px, .Name y py] kt pt] (.Tuple [a, b] k2 pt2) pos.line X.env = pure false := by rfl) :
    PSs X (.Assign [.Tuple [.Name x px, .Name y py] kt pt] (.Tuple [a, b] k2 pt2) pos :: rest) (tB X.K A E ρ ρb ρg (ma >>= fun d => mb >>= fun d2 => mr d d2)) :=
  PSs.imp' (pss_cons (u := fun D σ H => ∃ d d2, tB X.K A E ((ρ.set i (.val d)).set j (.val d2)) ρb ρg (mr d d2) D σ H) (ps_par hc hN hi hj hij hx hy ha hw hs) ⟨fun pins s σ H D I ⟨d, d2, q⟩ => (hr d d2).run pins s σ H D I q⟩) fun D σ H ⟨c, F, F0, B, n, h⟩ => by
    have e : (ma >>= fun d => mb >>= fun d2 => mr d d2) = seqM [ma, mb] >>= fun ds => match ds with | [d, d2] => mr d d2 | _ => bad := by rw [seqM_two]; exact (bind_two (f := fun ds => match ds with | [d, d2] => mr d d2 | _ => bad) (g := mr) fun _ _ => rfl).symm
    rw [e] at h
    refine ⟨c, F, B, (tBn.ex (R := RL X.K) n h).mono fun vs H1 ⟨ds, c1, F1, r, n1, h1⟩ => ?_⟩
    match ds, vs, r, h1 with
    | [d, d2], _, .cons p1 (.cons p2 .nil), h1 => exact ⟨_, _, rfl, d, d2, c1, F1, F0, B, (n1.set i p1).set j p2, h1⟩
    | [], _, _, h1 => exact h1.elim
    | [_], _, _, h1 => exact h1.elim
    | _ :: _ :: _ :: _, _, _, h1 => exact h1.elim
/-! ### if -/
theorem execs_app (env : Env) : ∀ (a r : List Stmt), execs (a ++ r) env = (do match ← execs a env with | .next => execs r env | f => pure f)
  | [], r => rfl
  | s :: a, r => by
    rw [List.cons_append, execs_cons, execs_cons, bind_assoc]
    refine bind_congr fun f => ?_
    cases f with
    | next => exact execs_app env a r
    | ret v => rfl
    | brk => rfl
    | cont => rfl
theorem execs_if (env : Env) (c : Expr) (a b r : List Stmt) (p : Pos) : execs (.If c a b p :: r) env = (do standAt p; if ← isTrue c env (eval c env) then execs (a ++ r) env else execs (b ++ r) env) := by
  rw [execs_cons, exec_If]
  simp only [bind_assoc]
  refine bind_congr fun _ => bind_congr fun t => ?_
  cases t with
  | true => exact (execs_app env a r).symm
  | false => exact (execs_app env b r).symm
def tIf2 (c : TT) (t u : TS) : TS := fun D σ H => c σ H fun b H1 => if b = true then t D σ H1 else u D σ H1
theorem pss_if {c : Expr} {a b : List Stmt} {tc : TT} {t u : TS} (hc : PT X c tc) (ha : PSs X (a ++ rest) t) (hb : PSs X (b ++ rest) u) : PSs X (.If c a b pos :: rest) (tIf2 tc t u) := by
  refine ⟨fun pins s σ H D I h => ?_⟩
  rw [execs_if]
  refine wpAny_bind (wpAny_standAt (wpAny_bind (thn (hc.run pins s σ H _ I h) fun d s1 ⟨H1, I1, q1⟩ => ?_)))
  cases d with
  | true => exact ha.run pins s1 σ H1 D I1 q1
  | false => exact hb.run pins s1 σ H1 D I1 q1
/-- if: each way with the rest behind it -/
theorem b_if {c : Expr} {a b : List Stmt} {mt : M Bool} {ma mb : M (Fl β γ)} (hc : PT X c (tT X.K A E ρ mt)) (ha : PSs X (a ++ rest) (tB X.K A E ρ ρb ρg ma)) (hb : PSs X (b ++ rest) (tB X.K A E ρ ρb ρg mb)) :
    PSs X (.If c a b pos :: rest) (tB X.K A E ρ ρb ρg (mt >>= fun t => if t = true then ma else mb)) :=
  PSs.imp' (pss_if hc ha hb) fun D σ H ⟨c, F, F0, B, n, h⟩ => ⟨c, F, B, (tBn.ex (R := RB) n h).mono fun v H1 ⟨d, c1, F1, r, n1, h1⟩ => by
    cases r
    cases v with
    | true => exact iteT ⟨c1, F1, F0, B, n1, h1⟩
    | false => exact iteF ⟨c1, F1, F0, B, n1, h1⟩⟩
theorem seqF_wp {β' : Type} {m : M (Fl β' γ)} {k : β' → M (Fl β γ)} {c : Cup} {Q : Fl β γ → Cup → Prop} {Em : Exc → Cup → Prop} : Wp (seqF m k c) Q Em ↔ Wp (m c) (fun f c' => match f with | .nx b => Wp (k b c') Q Em | .rt d => Q (.rt d) c' | .bk g => Q (.bk g) c' | .ct g => Q (.ct g) c') Em := by
  unfold seqF
  rw [Wp_bind]
  constructor
  · intro h
    exact h.mono (fun f c' q => by cases f <;> exact q) fun _ _ q => q
  · intro h
    exact h.mono (fun f c' q => by cases f <;> exact q) fun _ _ q => q
/-- .. the ways joined -/
theorem b_ifJ {β' : Type} {ρ1 : β' → List Sl} {c : Expr} {a b : List Stmt} {mt : M Bool} {ma mb : M (Fl β' γ)} {mr : β' → M (Fl β γ)} (hc : PT X c (tT X.K A E ρ mt)) (ha : PSs X a (tB X.K A E ρ ρ1 ρg ma)) (hb : PSs X b (tB X.K A E ρ ρ1 ρg mb))
    (hr : ∀ t, PSs X rest (tB X.K A E (ρ1 t) ρb ρg (mr t))) : PSs X (.If c a b pos :: rest) (tB X.K A E ρ ρb ρg (mt >>= fun t => seqF (if t = true then ma else mb) mr)) :=
  PSs.imp' (pss_cons (u := fun D σ H => ∃ d, tB X.K A E (ρ1 d) ρb ρg (mr d) D σ H) (ps_if hc ha hb) ⟨fun pins s σ H D I ⟨d, q⟩ => (hr d).run pins s σ H D I q⟩) fun D σ H ⟨c, F, F0, B, n, h⟩ => ⟨c, F, B, (tBn.ex (R := RB) n h).mono fun v H1 ⟨d, c1, F1, r, n1, h1⟩ => by
    cases r
    have go : ∀ m : M (Fl β' γ), tBn X.K A E ρb ρg (seqF m mr) D c1 F0 B → tB X.K A E ρ ρ1 ρg m { D with nx := fun σ H => ∃ d, tB X.K A E (ρ1 d) ρb ρg (mr d) D σ H } σ H1 := fun m h => by
      refine ⟨c1, F1, F0, B, n1, (seqF_wp.mp h).mono (fun f c' q => ?_) fun _ _ q => q⟩
      cases f with
      | nx b => exact fun σ' F' H' n' => ⟨b, c', F', F0, B, n', q⟩
      | rt d => exact q
      | bk g => exact q
      | ct g => exact q
    cases v with
    | true => exact iteT (go _ h1)
    | false => exact iteF (go _ h1)⟩
/-! ### for, while -/
theorem forF_step {τ : Type} {f : D → τ → M (Fl τ τ)} {x : D} {r : List D} {t : τ} {c : Cup} {Q : Fl τ γ → Cup → Prop} {Em : Exc → Cup → Prop} (h : Wp (forF f (x :: r) t c) Q Em) :
    Wp (f x t c) (fun o c' => match o with | .nx t' => Wp (forF f r t' c') Q Em | .ct t' => Wp (forF f r t' c') Q Em | .bk t' => Q (.nx t') c' | .rt d => Q (.rt d) c') Em := by
  unfold forF at h
  rw [Wp_bind] at h
  exact h.mono (fun o c' q => by cases o <;> exact q) fun _ _ q => q
theorem b_for {τ δ : Type} {ρi : τ → List Sl} {t0 : τ} {tg iter : Expr} {body : List Stmt} {g : TG} {un : D → Option δ} {ρd : τ → δ → List Sl} {is : List Nat} {mi : M (List D)} {mb : τ → δ → M (Fl τ τ)} {mr : τ → M (Fl β γ)} (hp : PassesOwn (model X.prog X.w) X.A X.env X.xe) (hc : X.calm = true)
    (hi : PI X tg iter (tI X.K A E ρ mi)) (hg : PG X tg g) (h0 : LeS (ρi t0) ρ) (hgt : ∀ t, TGt X.K g (ρi t) un (ρd t) is) (hb : ∀ t d, PSs X body (tB X.K A E (ρd t d) ρi ρi (mb t d)))
    (hr : ∀ t, PSs X rest (tB X.K A E (ρi t) ρb ρg (mr t))) (hs : ∀ x, foldedSetIterable iter X.env x = pure x := by intro _; rfl) :
    PSs X (.For tg iter body [] pos :: rest) (tB X.K A E ρ ρb ρg (mi >>= fun ds => seqF (forF (fun d t => lft (un d) >>= mb t) ds t0) mr)) :=
  PSs.imp' (pss_cons (u := fun D σ H => ∃ t, tB X.K A E (ρi t) ρb ρg (mr t) D σ H) (ps_for (tb := fun D σ H => ∃ t d, tB X.K A E (ρd t d) ρi ρi (mb t d) D σ H) hp hc hi hg ⟨fun pins s σ H D I ⟨t, d, q⟩ => (hb t d).run pins s σ H D I q⟩ hs)
      ⟨fun pins s σ H D I ⟨t, q⟩ => (hr t).run pins s σ H D I q⟩) fun D σ H ⟨c, F, F0, B, n, h⟩ => ⟨c, F, B, n.w, n.s, (Wp_bind.mp h).mono (fun ds c1 q J F1 H1 x1 w1 ⟨hlen, st⟩ => by
    have n0 := n.ext x1 w1
    have n1 := n0.here
    have q := tBn.base q n0.x
    refine ⟨fun i m σ H => m = ds.length - i ∧ i ≤ ds.length ∧ ∃ F c t, Now X.K A F1 B c F H (ρi t) σ ∧ tBn X.K A E ρb ρg (seqF (forF (fun d t => lft (un d) >>= mb t) (ds.drop i) t) mr) D c F1 B,
      ⟨_, rfl, Nat.zero_le _, F1, c1, t0, n1.weak h0, by rw [List.drop_zero]; exact q⟩, ?_⟩
    rintro i m σ2 H2 ⟨rfl, hi, F2, c2, t2, n2, hq⟩
    obtain ⟨stp, stop⟩ := st F2 H2 n2.x.f n2.w.frz
    have hq' := seqF_wp.mp hq
    by_cases hlt : i < ds.length
    · refine .inr ⟨(stp i hlt).1, fun σ' H' => ∃ F c t, Now X.K A F1 B c F H' (ρi t) σ' ∧ tBn X.K A E ρb ρg (seqF (forF (fun d t => lft (un d) >>= mb t) (ds.drop (i + 1)) t) mr) D c F1 B,
        fun σ' H' r => ⟨ds.length - (i + 1), by omega, rfl, hlt, r⟩, fun x H3 y => ?_⟩
      obtain ⟨F3, d, x3, z3, ed, pd⟩ := (stp i hlt).2 x H3 y
      have n3 := n2.ext x3.to (n2.w.ext x3 z3)
      have hd : ds.drop i = d :: ds.drop (i + 1) := by
        have e1 := List.drop_eq_getElem_cons hlt
        rw [List.getElem?_eq_getElem hlt] at ed
        cases ed
        exact e1
      rw [hd] at hq'
      have hq3 := forF_step hq'
      rw [Wp_bind] at hq3
      obtain ⟨bb, eb, hq3⟩ := Wp_lft hq3
      refine hgt t2 A B F3 H3 σ2 d x bb n3.s n3.w.frz pd eb _ fun σ4 s4 _ => ⟨t2, bb, c2, F3, F1, B, ⟨n3.w, n3.x, s4⟩, hq3.mono (fun o c' q => ?_) fun _ _ q => q⟩
      cases o with
      | nx t' => exact fun σ' F' H' n' => ⟨F', c', t', n', seqF_wp.mpr q⟩
      | ct t' => exact fun σ' F' H' n' => ⟨F', c', t', n', seqF_wp.mpr q⟩
      | bk t' => exact fun σ' F' H' n' => ⟨t', c', F', F1, B, n', q⟩
      | rt d => exact q
    · have e : i = ds.length := by omega
      subst e
      rw [List.drop_length] at hq'
      exact .inl ⟨stop, t2, c2, F2, F1, B, n2, hq'⟩) fun x c' q F' H' e w' => q σ F' H' w' (n.x.trans e)⟩
end
end Mir

set_option maxRecDepth 100000
/-! MirC5: while; own lists changed; the cup; sorted, list; calls of defs. -/
namespace L2
open PySem PySem.Spec PyProof.Rows Mir
theorem DpAll.setM {K : PySem.W.Frag} {F : Hp} : ∀ {ds : List D} {vs : List V} (k : Nat) {v : V} {d : D}, DpAll K F vs ds → Dp K F v d → DpAll K F (vs.set k v) (ds.set k d)
  | _, _, _, _, _, .nil, _ => .nil
  | _, _, 0, _, _, .cons _ t, p => .cons p t
  | _, _, k + 1, _, _, .cons h t, p => .cons h (DpAll.setM k t p)
end L2
namespace Mir
open PySem PySem.Spec PyProof.Rows L2
/-- at most so long -/
def fitL (xs : List D) : Option (List D) := if xs.length < lim then some xs else none
def setAt (xs : List D) (i v : D) : Option (List D) := match i with
  | .int j => (ixN xs.length j).map fun k => xs.set k v
  | _ => none
def popL (xs : List D) : Option (D × List D) := match xs[xs.length - 1]? with
  | some y => some (y, xs.dropLast)
  | none => none
def asInt : D → Option Int
  | .int n => some n
  | _ => none
def getC (k : Nat) : M D := fun c => .ok (.int (if k = 0 then c.1 else c.2)) c
def setC (k : Nat) (n : Int) : M Unit := fun c => .ok () (if k = 0 then (n, c.2) else (c.1, n))
def setCup (n m : Int) : M Unit := fun _ => .ok () (n, m)
/-- list(x) -/
def dList (d : D) : Option (List D) := seqOf d
section
variable {X : Cx} {A : Option Addr} {E : Exc → L2.St → Hp → Prop} {ρ ρ' : List Sl} {β γ : Type} {ρb : β → List Sl} {ρg : γ → List Sl} {pos : Pos} {e : Expr} {rest : List Stmt} {i : Nat} {x : Str}
theorem whileF_step {τ : Type} {cd : τ → M Bool} {f : τ → M (Fl τ τ)} {n : Nat} {t : τ} {c : Cup} {Q : Fl τ γ → Cup → Prop} {Em : Exc → Cup → Prop} (h : Wp (whileF cd f (n + 1) t c) Q Em) :
    Wp (cd t c) (fun b c' => if b = true then Wp (f t c') (fun o c' => match o with | .nx t' => Wp (whileF cd f n t' c') Q Em | .ct t' => Wp (whileF cd f n t' c') Q Em | .bk t' => Q (.nx t') c' | .rt d => Q (.rt d) c') Em else Q (.nx t) c') Em := by
  unfold whileF at h
  rw [Wp_bind] at h
  refine h.mono (fun b c' q => ?_) fun _ _ q => q
  cases b with
  | true =>
    rw [if_pos rfl] at q ⊢
    rw [Wp_bind] at q
    exact q.mono (fun o c' q => by cases o <;> exact q) fun _ _ q => q
  | false =>
    rw [if_neg Bool.false_ne_true] at q ⊢
    exact q
theorem b_while {τ : Type} {ρi : τ → List Sl} {t0 : τ} {cnd : Expr} {body : List Stmt} {fuel : Nat} {mc : τ → M Bool} {mb : τ → M (Fl τ τ)} {mr : τ → M (Fl β γ)} (hp : PassesOwn (model X.prog X.w) X.A X.env X.xe)
    (h0 : LeS (ρi t0) ρ) (hc : ∀ t, PT X cnd (tT X.K A E (ρi t) (mc t))) (hb : ∀ t, PSs X body (tB X.K A E (ρi t) ρi ρi (mb t))) (hr : ∀ t, PSs X rest (tB X.K A E (ρi t) ρb ρg (mr t))) :
    PSs X (.While cnd body [] pos :: rest) (tB X.K A E ρ ρb ρg (seqF (whileF mc mb fuel t0) mr)) :=
  PSs.imp' (pss_cons (u := fun D σ H => ∃ t, tB X.K A E (ρi t) ρb ρg (mr t) D σ H) (ps_while (tc := fun σ H Q => ∃ t, tT X.K A E (ρi t) (mc t) σ H Q) (tb := fun D σ H => ∃ t, tB X.K A E (ρi t) ρi ρi (mb t) D σ H) hp ⟨fun pins s σ H Q I ⟨t, q⟩ => (hc t).run pins s σ H Q I q⟩ ⟨fun pins s σ H D I ⟨t, q⟩ => (hb t).run pins s σ H D I q⟩)
      ⟨fun pins s σ H D I ⟨t, q⟩ => (hr t).run pins s σ H D I q⟩) fun D σ H ⟨c, F, F0, B, n, h⟩ => by
    refine ⟨fun m σ H => ∃ F c t, Now X.K A F0 B c F H (ρi t) σ ∧ tBn X.K A E ρb ρg (seqF (whileF mc mb m t) mr) D c F0 B, ⟨fuel, F, c, t0, n.weak h0, h⟩, ?_⟩
    rintro m σ2 H2 ⟨F2, c2, t2, n2, hq⟩
    have hq' := seqF_wp.mp hq
    cases m with
    | zero => exact hq'.elim
    | succ m =>
      have hq3 := whileF_step hq'
      refine ⟨t2, c2, F2, B, n2.w, n2.s, hq3.mono (fun b c3 q v F3 H3 e w3 r => ?_) fun x c' q F' H' e w' => q σ2 F' H' w' (n2.x.trans e)⟩
      cases r
      have n3 := n2.ext e w3
      cases b with
      | true =>
        rw [if_pos rfl] at q
        refine iteT ⟨fun σ H => ∃ F c t, Now X.K A F0 B c F H (ρi t) σ ∧ tBn X.K A E ρb ρg (seqF (whileF mc mb m t) mr) D c F0 B, fun σ' H' r => ⟨m, Nat.lt_succ_self m, r⟩, t2, c3, F3, F0, B, n3, q.mono (fun o c' q => ?_) fun _ _ q => q⟩
        cases o with
        | nx t' => exact fun σ' F' H' n' => ⟨F', c', t', n', seqF_wp.mpr q⟩
        | ct t' => exact fun σ' F' H' n' => ⟨F', c', t', n', seqF_wp.mpr q⟩
        | bk t' => exact fun σ' F' H' n' => ⟨t', c', F', F0, B, n', q⟩
        | rt d => exact q
      | false =>
        rw [if_neg Bool.false_ne_true] at q
        exact iteF ⟨t2, c3, F3, F0, B, n3, q⟩
/-! ### own lists -/
theorem b_app {xs : List D} {me : M D} {mr : List D → M (Fl β γ)} {p1 p2 p3 : Pos} (hi : ρ[i]? = some (.own xs)) (hv : PE X (.Name x p1) (tVar i)) (he : PE X e (tM X.K A E ρ me)) (hr : ∀ ds, PSs X rest (tB X.K A E (ρ.set i (.own ds)) ρb ρg (mr ds)))
    (hs : swapsWith (.Call (.Attribute (.Name x p1) "append" p2) [e] [] p3) none pos.line X.env = pure false := by rfl) (hst : starEach [e] X.env = (false, eval e X.env) :: starEach [] X.env := by rfl)
    (hbase : attributeBase (.Name x p1) "append" X.env (eval (.Name x p1) X.env) = eval (.Name x p1) X.env := by rfl) (hline : (p2.endLine == p3.line) = true := by rfl) :
    PSs X (.Expr (.Call (.Attribute (.Name x p1) "append" p2) [e] [] p3) pos :: rest) (tB X.K A E ρ ρb ρg (me >>= fun d => lft (fitL xs) >>= fun ys => mr (ys ++ [d]))) :=
  PSs.imp' (pss_cons (u := fun D σ H => ∃ d, tB X.K A E (ρ.set i (.own d)) ρb ρg (mr d) D σ H) (ps_expr (pe_bm PySem.F.plainAttrs_list PySem.F.slot_list_append PySem.F.type_list_append mt_append hv (pa_cons he pa_nil hst) hbase (by rw [hst] <;> rfl) hline hst) hs) ⟨fun pins s σ H D I ⟨d, q⟩ => (hr d).run pins s σ H D I q⟩) fun D σ H ⟨c, F, F0, B, n, h⟩ => by
    obtain ⟨p, vs, e1, e2, e3, e4, e5, e6⟩ := n.s.own hi
    refine ⟨.ref p, e1, .inl ⟨rfl, vs, .inl (.inl e5)⟩, c, F, B, (tBn.ex (R := RD X.K) n h).mono fun v H1 ⟨d, c1, F1, r, n1, h1⟩ => ?_⟩
    obtain ⟨ys, ey, h1⟩ := Wp_lft (Wp_bind.mp h1)
    unfold fitL at ey
    split at ey
    · rename_i hz
      cases ey
      obtain ⟨p', vs', f1, f2, f3, f4, f5, f6⟩ := n1.s.own hi
      rw [e1] at f1
      cases f1
      refine ⟨p, vs', v, rfl, rfl, f5, ?_, xs ++ [d], c1, F1, F0, B, n1.mut hi e1 f5 (f6.appM (.cons r .nil)), h1⟩
      rw [f6.lenM, ← lim_eq]; exact hz
    · cases ey
/-- x[k] = e -/
theorem b_seti {xs : List D} {a : Expr} {me ma : M D} {mr : List D → M (Fl β γ)} {p1 p2 : Pos} (hi : ρ[i]? = some (.own xs)) (hv : PE X (.Name x p1) (tVar i)) (he : PE X e (tM X.K A E ρ me)) (ha : PE X a (tM X.K A E ρ ma)) (hr : ∀ ds, PSs X rest (tB X.K A E (ρ.set i (.own ds)) ρb ρg (mr ds)))
    (hs : swapsWithSole [.Subscript (.Name x p1) a p2] e pos.line X.env = pure false := by rfl) (hw : swappedStores [.Subscript (.Name x p1) a p2] e X.env = pure none := by rfl)
    (h1 : (assignEach [.Subscript (.Name x p1) a p2] X.env).map (·.2) = [assign (.Subscript (.Name x p1) a p2) X.env] := by rfl)
    (has : ∀ v, assign (.Subscript (.Name x p1) a p2) X.env v = (do
      let ov ← holding [v] (eval (.Name x p1) X.env)
      let iv ← holding [v, ov] (eval a X.env)
      standAt p2
      holding [v, ov, iv] (setItem ov iv v)
      release [v, ov, iv] []) := by intro _; rfl) :
    PSs X (.Assign [.Subscript (.Name x p1) a p2] e pos :: rest) (tB X.K A E ρ ρb ρg (me >>= fun v => ma >>= fun k => lft (setAt xs k v) >>= mr)) :=
  PSs.imp' (pss_cons (u := fun D σ H => ∃ d, tB X.K A E (ρ.set i (.own d)) ρb ρg (mr d) D σ H) (ps_asg he (pg_sub hv ha set_list has) hs hw h1) ⟨fun pins s σ H D I ⟨d, q⟩ => (hr d).run pins s σ H D I q⟩) fun D σ H ⟨c, F, F0, B, n, h⟩ =>
    ⟨c, F, B, (tBn.ex (R := RD X.K) n h).mono fun v H1 ⟨d, c1, F1, r, n1, h1⟩ => by
      obtain ⟨p, vs, e1, e2, e3, e4, e5, e6⟩ := n1.s.own hi
      refine ⟨.ref p, e1, c1, F1, B, n1.w, n1.s, (Wp_bind.mp h1).mono (fun k c2 q kv F2 H2 x2 w2 rk => ?_) fun x c' q F' H' e w' => q σ F' H' w' (n1.x.trans e)⟩
      have n2 := n1.ext x2 w2
      obtain ⟨ys, ey, h2⟩ := Wp_lft (Wp_bind.mp q)
      unfold setAt at ey
      split at ey
      · rename_i j
        obtain ⟨k, ek, rfl⟩ := Option.map_eq_some_iff.mp ey
        cases rk
        obtain ⟨p', vs', f1, f2, f3, f4, f5, f6⟩ := n2.s.own hi
        rw [e1] at f1
        cases f1
        refine ⟨p, vs', j, k, rfl, rfl, f5, ?_, xs.set k d, c2, F2, F0, B, n2.mut hi e1 f5 ?_, h2⟩
        · rw [ixN_eq, f6.lenM]; exact ek
        · exact DpAll.setM k f6 (Dp.sameM x2.f d v r)
      · cases ey⟩
/-- x.pop() as a statement's value -/
theorem b_pop {xs : List D} {y : Str} {j : Nat} {mr : D → List D → M (Fl β γ)} {p1 p2 p3 pos' : Pos} (hN : X.N.Nodup) (hj : X.N[j]? = some y) (hy : Loc X.env.scope y) (hij : i ≠ j) (hi : ρ[i]? = some (.own xs)) (hv : PE X (.Name x p1) (tVar i)) (hr : ∀ d ds, PSs X rest (tB X.K A E ((ρ.set i (.own ds)).set j (.val d)) ρb ρg (mr d ds)))
    (hs : swapsWith (.Call (.Attribute (.Name x p1) "pop" p2) [] [] p3) (some (.Name y pos')) pos.line X.env = pure false := by rfl)
    (hbase : attributeBase (.Name x p1) "pop" X.env (eval (.Name x p1) X.env) = eval (.Name x p1) X.env := by rfl) (hline : (p2.endLine == p3.line) = true := by rfl)
    (hf : X.fn y = true ∨ X.env.scope.names.lookup y = some .local := by first | exact .inl rfl | exact .inr rfl | assumption) :
    PSs X (.Assign [.Name y pos'] (.Call (.Attribute (.Name x p1) "pop" p2) [] [] p3) pos :: rest) (tB X.K A E ρ ρb ρg (lft (popL xs) >>= fun r => mr r.1 r.2)) :=
  PSs.imp' (pss_cons (u := fun D σ H => ∃ d ds, tB X.K A E ((ρ.set i (.own ds)).set j (.val d)) ρb ρg (mr d ds) D σ H) (ps_set hN hj hy (pe_bm0 PySem.F.plainAttrs_list PySem.F.slot_list_pop PySem.F.type_list_pop mt_pop hv hbase hline) hs hf) ⟨fun pins s σ H D I ⟨d, ds, q⟩ => (hr d ds).run pins s σ H D I q⟩) fun D σ H ⟨c, F, F0, B, n, h⟩ => by
    obtain ⟨p, vs, e1, e2, e3, e4, e5, e6⟩ := n.s.own hi
    obtain ⟨r, er, h1⟩ := Wp_lft (Wp_bind.mp h)
    unfold popL at er
    split at er
    · rename_i d ed
      cases er
      obtain ⟨v, ev, pv⟩ := e6.getDM ed
      refine ⟨.ref p, e1, .inl ⟨rfl, vs, .inl (.inl e5)⟩, p, vs, v, rfl, rfl, e5, by rw [e6.lenM]; exact ev, d, xs.dropLast, c, F, F0, B, (n.mut hi e1 e5 ?_).set j pv, h1⟩
      rw [List.dropLast_eq_take, List.dropLast_eq_take, e6.lenM]
      exact e6.takeM _
    · cases er
/-! ### the cup -/
theorem Slots.cupAt {K : PySem.W.Frag} {B F H : Hp} {σ : L2.St} (s : Slots K A B F H ρ σ) (hi : ρ[i]? = some .cup) : ∃ a, A = some a ∧ σ[i]? = some (some (.ref a)) := by
  obtain ⟨o, h1, a, h2, h3⟩ := s.get hi
  exact ⟨a, h2, by rw [h1, h3]⟩
theorem ev_cup0 {p1 p2 : Pos} {jj : Nat} (hi : ρ[i]? = some .cup) (hv : PE X (.Name x p1) (tVar i)) : PE X (.Subscript (.Name x p1) (.Constant (.int 0) jj p2) pos) (tM X.K A E ρ (getC 0)) :=
  (pe_ix ix_list hv pe_int (fun _ _ => rfl)).impM fun σ H Q ⟨c, F, B, w, s, h⟩ => by
    obtain ⟨a, e1, e2⟩ := Slots.cupAt s hi
    obtain ⟨c1, c2⟩ := w.cup a e1
    exact ⟨.ref a, e2, a, _, 0, .int c.1, rfl, rfl, .inl (.inl c2), rfl, h _ F H .refl w (.int _)⟩
theorem ev_cup1 {p1 p2 : Pos} {jj : Nat} (hi : ρ[i]? = some .cup) (hv : PE X (.Name x p1) (tVar i)) : PE X (.Subscript (.Name x p1) (.Constant (.int 1) jj p2) pos) (tM X.K A E ρ (getC 1)) :=
  (pe_ix ix_list hv pe_int (fun _ _ => rfl)).impM fun σ H Q ⟨c, F, B, w, s, h⟩ => by
    obtain ⟨a, e1, e2⟩ := Slots.cupAt s hi
    obtain ⟨c1, c2⟩ := w.cup a e1
    exact ⟨.ref a, e2, a, _, 1, .int c.2, rfl, rfl, .inl (.inl c2), rfl, h _ F H .refl w (.int _)⟩
theorem Now.cupset {K : PySem.W.Frag} {F0 B F H : Hp} {c c' : Cup} {σ : L2.St} {a : Addr} (n : Now K A F0 B c F H ρ σ) (e1 : A = some a) : Now K A F0 B c' F (upd H a (.lst [.int c'.1, .int c'.2])) ρ σ := by
  obtain ⟨c1, c2⟩ := n.w.cup a e1
  refine ⟨⟨⟨fun b u q => ?_, n.w.frz.nt⟩, fun b hb => ?_⟩, ⟨n.x.f, fun b o q hA t => ?_, n.x.n, fun b q => ?_⟩, n.s.len, fun j sl o h1 h2 => ?_, n.s.apart⟩
  · rw [upd_ne (ne_of_none q c1)]; exact n.w.frz.sub b u q
  · rw [e1] at hb
    cases hb
    exact ⟨c1, upd_same⟩
  · rw [upd_ne (fun z => hA (by rw [z]; exact e1))]; exact n.x.h b o q hA t
  · by_cases z : b = a
    · rw [z, upd_same] at q; cases q
    · rw [upd_ne z] at q; exact n.x.d b q
  · have q := n.s.at_ j sl o h1 h2
    cases sl with
    | un => trivial
    | val d => exact q
    | own zs =>
      obtain ⟨r, ws, f1, f2, f3, f4, f5, f6⟩ := q
      exact ⟨r, ws, f1, f2, f3, f4, by rw [upd_ne (fun z => f4 (by rw [z]; exact e1))]; exact f5, f6⟩
    | cup => exact q
    | kn φ => exact q
/-- cup[k] = e -/
theorem b_cupset {k : Nat} {me : M D} {mr : M (Fl β γ)} {p1 p2 p3 : Pos} {jj : Nat} (hk : k < 2) (hi : ρ[i]? = some .cup) (hv : PE X (.Name x p1) (tVar i)) (he : PE X e (tM X.K A E ρ me)) (hr : PSs X rest (tB X.K A E ρ ρb ρg mr))
    (hs : swapsWithSole [.Subscript (.Name x p1) (.Constant (.int (k : Nat)) jj p3) p2] e pos.line X.env = pure false := by rfl) (hw : swappedStores [.Subscript (.Name x p1) (.Constant (.int (k : Nat)) jj p3) p2] e X.env = pure none := by rfl)
    (h1 : (assignEach [.Subscript (.Name x p1) (.Constant (.int (k : Nat)) jj p3) p2] X.env).map (·.2) = [assign (.Subscript (.Name x p1) (.Constant (.int (k : Nat)) jj p3) p2) X.env] := by rfl)
    (has : ∀ v, assign (.Subscript (.Name x p1) (.Constant (.int (k : Nat)) jj p3) p2) X.env v = (do
      let ov ← holding [v] (eval (.Name x p1) X.env)
      let iv ← holding [v, ov] (eval (.Constant (.int (k : Nat)) jj p3) X.env)
      standAt p2
      holding [v, ov, iv] (setItem ov iv v)
      release [v, ov, iv] []) := by intro _; rfl) :
    PSs X (.Assign [.Subscript (.Name x p1) (.Constant (.int (k : Nat)) jj p3) p2] e pos :: rest) (tB X.K A E ρ ρb ρg (me >>= fun v => lft (asInt v) >>= fun n => setC k n >>= fun _ => mr)) :=
  PSs.imp' (pss_cons (ps_asg he (pg_sub hv pe_int set_list has) hs hw h1) hr) fun D σ H ⟨c, F, F0, B, n, h⟩ =>
    ⟨c, F, B, (tBn.ex (R := RD X.K) n h).mono fun v H1 ⟨d, c1, F1, r, n1, h1⟩ => by
      obtain ⟨m, em, h2⟩ := Wp_lft (Wp_bind.mp h1)
      unfold asInt at em
      split at em
      · cases em
        cases r
        obtain ⟨a, e1, e2⟩ := Slots.cupAt n1.s hi
        obtain ⟨f1, f2⟩ := n1.w.cup a e1
        match k, hk with
        | 0, _ => exact ⟨.ref a, e2, a, _, 0, 0, rfl, rfl, f2, rfl, (m, c1.2), F1, F0, B, n1.cupset (c' := (m, c1.2)) e1, h2⟩
        | 1, _ => exact ⟨.ref a, e2, a, _, 1, 1, rfl, rfl, f2, rfl, (c1.1, m), F1, F0, B, n1.cupset (c' := (c1.1, m)) e1, h2⟩
      · cases em⟩
end
end Mir

set_option maxRecDepth 100000
/-! MirC6: sorted, list; defs and their calls. -/
namespace Mir
open PySem PySem.Spec PyProof.Rows L2
/-! ### sorting -/
theorem ins_filter {le : D → D → Bool} (ht : PySem.W.TotalLe le) (f : D → List D → List D) (h0 : ∀ x, f x [] = [x]) (h1 : ∀ x y r, f x (y :: r) = if le x y then x :: y :: r else y :: f x r) (c x : D) : ∀ l : List D, (f x l).filter (PySem.W.sameRank le c) = (x :: l).filter (PySem.W.sameRank le c)
  | [] => by rw [h0]
  | y :: r => by
    rw [h1]
    by_cases h : le x y = true
    · rw [if_pos h]
    · rw [if_neg h]
      have ih := ins_filter ht f h0 h1 c x r
      have hn : ¬ (PySem.W.sameRank le c x = true ∧ PySem.W.sameRank le c y = true) := fun ⟨a, b⟩ => by
        unfold PySem.W.sameRank at a b
        rw [Bool.and_eq_true] at a b
        exact h (ht.trans x c y a.2 b.1)
      by_cases hy : PySem.W.sameRank le c y = true
      · have hx : ¬ PySem.W.sameRank le c x = true := fun a => hn ⟨a, hy⟩
        rw [List.filter_cons_of_pos hy, ih, List.filter_cons_of_neg hx, List.filter_cons_of_neg hx, List.filter_cons_of_pos hy]
      · rw [List.filter_cons_of_neg hy, ih]
        by_cases hx : PySem.W.sameRank le c x = true
        · rw [List.filter_cons_of_pos hx, List.filter_cons_of_pos hx, List.filter_cons_of_neg hy]
        · rw [List.filter_cons_of_neg hx, List.filter_cons_of_neg hx, List.filter_cons_of_neg hy]
theorem leD_total : PySem.W.TotalLe leD := show PySem.W.TotalLe (PySem.W.dataLe false fun d : D => d) from PySem.W.sortLe_total _ _ _
theorem mem_ins {x y : D} : ∀ {l : List D}, y ∈ ins x l → y = x ∨ y ∈ l
  | [], h => by simp [ins] at h; exact .inl h
  | z :: r, h => by
    unfold ins at h
    split at h
    · rcases List.mem_cons.mp h with e | h
      · exact .inl e
      · exact .inr h
    · rcases List.mem_cons.mp h with e | h
      · exact .inr (by rw [e]; exact List.mem_cons_self)
      · rcases mem_ins h with e | h
        · exact .inl e
        · exact .inr (List.mem_cons_of_mem _ h)
theorem ins_pw (x : D) : ∀ {l : List D}, l.Pairwise (fun a b => leD a b = true) → (ins x l).Pairwise (fun a b => leD a b = true)
  | [], _ => by simp [ins]
  | y :: r, h => by
    unfold ins
    have hc := List.pairwise_cons.mp h
    split
    · rename_i hxy
      refine List.pairwise_cons.mpr ⟨fun z hz => ?_, h⟩
      rcases List.mem_cons.mp hz with e | hz
      · rw [e]; exact hxy
      · exact leD_total.trans x y z hxy (hc.1 z hz)
    · rename_i hxy
      refine List.pairwise_cons.mpr ⟨fun z hz => ?_, ins_pw x hc.2⟩
      rcases mem_ins hz with e | hz
      · rw [e]
        exact (leD_total.total y x).resolve_right hxy
      · exact hc.1 z hz
theorem isort_pw : ∀ l : List D, (isort l).Pairwise (fun a b => leD a b = true)
  | [] => .nil
  | x :: r => ins_pw x (isort_pw r)
theorem isort_filter (c : D) : ∀ l : List D, (isort l).filter (PySem.W.sameRank leD c) = l.filter (PySem.W.sameRank leD c)
  | [] => rfl
  | x :: r => by
    show (ins x (isort r)).filter _ = _
    rw [ins_filter leD_total ins (fun _ => rfl) (fun _ _ _ => rfl) c x (isort r)]
    by_cases hx : PySem.W.sameRank leD c x = true
    · rw [List.filter_cons_of_pos hx, List.filter_cons_of_pos hx, isort_filter c r]
    · rw [List.filter_cons_of_neg hx, List.filter_cons_of_neg hx, isort_filter c r]
theorem isort_eq (l : List D) : isort l = l.mergeSort leD := PySem.W.sort_unique leD_total (isort_pw l) fun c => isort_filter c l
def dSortL : D → Option (List D)
  | .list xs => if sortOk xs then some (isort xs) else none
  | .tuple xs => if sortOk xs then some (isort xs) else none
  | _ => none
/-- list(x) -/
def dListL : D → Option (List D)
  | .list xs => some xs
  | .tuple xs => some xs
  | .str z => if z.length ≤ lim then some (z.cps.toList.map fun c => .str ⟨#[c]⟩) else none
  | _ => none
section
variable {X : Cx} {A : Option Addr} {E : Exc → L2.St → Hp → Prop} {ρ ρ' : List Sl} {β γ : Type} {ρb : β → List Sl} {ρg : γ → List Sl} {pos : Pos} {e : Expr} {es : List Expr} {rest : List Stmt} {i : Nat} {x : Str}
variable {pins : List (Addr × Obj)} {s : Shared} {σ : L2.St} {H F : Hp}
theorem each_pairs {F : Hp} : ∀ {vs : List V} {its : List Value} {ds : List D}, Vals vs its → DpAll X.K F vs ds → PySem.W.EachIs (fun u (b : V × D) => RelV b.1 u ∧ Dp X.K F b.1 b.2) its (vs.zip ds)
  | _, _, _, .nil, .nil => .nil
  | _, _, _, .cons r rv, .cons p pv => .cons ⟨r, p⟩ (each_pairs rv pv)
theorem each_out {F : Hp} : ∀ {out : List Value} {bs : List (V × D)}, PySem.W.EachIs (fun u (b : V × D) => RelV b.1 u ∧ Dp X.K F b.1 b.2) out bs → Vals (bs.map (·.1)) out ∧ DpAll X.K F (bs.map (·.1)) (bs.map (·.2))
  | _, _, .nil => ⟨.nil, .nil⟩
  | _, _, .cons ⟨r, p⟩ t => ⟨.cons r (each_out t).1, .cons p (each_out t).2⟩
/-- one item at most: nothing is compared -/
theorem sorts_one {prog : Program} {w : World} {A : Around} {s : Shared} {vs : List Value} {ds : List D} (e : PySem.W.EachIs (fun v d => ∃ as, Reads s.heap v d as) vs ds) (hal : PySem.W.AllAlike ds) (h1 : ds.length ≤ 1) (hn : ∀ d, d ∈ ds → d ≠ .none) (hu : ∀ d, d ∈ ds → A.units + d.depth < cLine) :
    PySem.W.SortsAt prog w A s (PySem.W.dataKind s.heap ds) vs := by
  refine ⟨fun v hv => ?_, general', fun E x y a b Q ha hb hq => ?_, fun h2 => absurd h2 (by rw [e.length]; omega)⟩
  · obtain ⟨d, hd, as, r⟩ := e.left v hv
    exact ⟨_, PySem.W.dataKind_some hal hd r⟩
  · obtain ⟨d, as, hd, ra, rfl⟩ := PySem.W.dataKind_inv ha
    obtain ⟨d', as', hd', rb, rfl⟩ := PySem.W.dataKind_inv hb
    exact PySem.W.oneLt_alike (f := false) (fun z => nomatch z) ra rb (hal d hd d' hd') (hn d hd) (Nat.lt_of_le_of_lt (Nat.add_le_add_left (Nat.min_le_left _ _) _) (hu d hd)) hq
/-- a tuple's items, gathered -/
theorem collect_tup {prog : Program} {w : World} {A : Around} {E : Value → Shared → Prop} {s : Shared} {l : Addr} {vs : List Value} {Q : List Value → Shared → Prop} (ht : s.heap.IsTuple l vs.toArray) (hn : vs.length ≤ sizeLine)
    (h : Q vs { s with heap := PySem.Heap.update (s.heap.push (seqObj "list" #[] 0)) s.heap.objs.size (Obj.mapSeq (· ++ vs.toArray)) }) : wpAny (model prog w) A (collect (.ref l)) Q E s := by
  obtain ⟨o, g, cl, m, dat⟩ := id ht
  have e0 : (s.heap.push (seqObj "list" #[] 0)).get? s.heap.objs.size = some (seqObj "list" #[] 0) := Heap.get?_push_size _ rfl
  have g' : (s.heap.push (seqObj "list" #[] 0)).get? l = some o := Heap.get?_push_of_some _ g
  unfold collect
  refine wpAny_bind (wpAny_runValue (codeAny_builtin entry_proto_collect' (wpAny_bind (wpAny_newList (wpAny_pure ⟨Code.quiet_builtin _ (by decide +kernel), codeAny_builtin entry_list_iadd' ?_⟩)))))
  show wpAny (model prog w) _ (Builtin.List.listExtendWith (Value.ref s.heap.objs.size) (Value.ref l) (Value.ref s.heap.objs.size)) _ _ ⟨s.heap.push (seqObj "list" #[] 0), s.gens, s.drawn, s.toks, s.os⟩
  unfold Builtin.List.listExtendWith
  refine wpAny_bind (wpAny_typeOf (T := "tuple") ⟨o, g', cl⟩ ?_)
  have q : (Value.type "tuple" == Value.type "tuple") = true := rfl
  rw [if_pos (by rw [q]; simp)]
  refine wpAny_bind (listItems_at g' dat (wpAny_bind (listItems_at (n := 0) (xs := #[]) e0 rfl ?_)))
  rw [if_neg (by simp)]
  refine wpAny_bind (listUpdate_at (n := 0) (xs := #[]) e0 rfl (wpAny_pure ?_) (Nat.zero_le _) (by show (#[] ++ vs.toArray).size ≤ _; simp only [Array.size_append, List.size_toArray, List.length_nil]; omega))
  refine wpAny_bind (wpAny_load (get?_update_seq e0 _) ?_)
  show wpAny (model prog w) _ (pure ((#[] : Array Value) ++ vs.toArray).toList) Q E _
  have e : ((#[] : Array Value) ++ vs.toArray).toList = vs := by simp
  rw [e]
  exact wpAny_pure h
open PySem.W in
theorem sorted_tupV {prog : Program} {w : World} {A : Around} {E : Value → Shared → Prop} {s : Shared} {κ : PyProof.Rows.KeyKind} {l : Addr} {vs : List Value} {Q : Value → Shared → Prop} (ht : s.heap.IsTuple l vs.toArray) (hn : vs.length ≤ sizeLine)
    (S : PySem.W.SortsAt prog w A.in1.in1 { s with heap := PySem.W.sortingHeap (PySem.W.copyHeap s.heap vs) (s.heap.objs.size + 1) vs } κ vs)
    (h : Q (.ref (s.heap.objs.size + 1)) { s with heap := sortedAll s.heap vs (PySem.W.sortVals κ false vs vs).toArray }) : wpAny (model prog w) A (call (.builtin "sorted") [.ref l]) Q E s := by
  have z : ((s.heap.push (seqObj "list" #[] 0)).update s.heap.objs.size (Obj.mapSeq (· ++ vs.toArray))).objs.size = s.heap.objs.size + 1 := (Heap.size_update ..).trans (size_push' ..)
  refine call_function_entry_kw kind_sorted plain_sorted entry_sorted (args_sorted1 _) ?_
  unfold Builtin.«sorted»
  refine wpAny_bind (m := checkCount "sorted" 1 1 _) (wpAny_pure (wpAny_bind (collect_tup ht hn (wpAny_bind (wpAny_newList ?_ hn)))))
  show wpAny (model prog w) _ _ _ E ⟨copyHeap s.heap vs, s.gens, s.drawn, s.toks, s.os⟩
  rw [z]
  refine wpAny_bind (wpAny_holding (wpAny_call_entry_kw slot_list_sort ⟨_, copyHeap_at s.heap vs, rfl⟩ entry_list_sort ?_ (args_list_sort _)))
  refine wpAny_mono (list_sort_vals (E := fun _ _ => False) (P := fun f t => f = .done (.ret .none) ∧ Q (.ref (s.heap.objs.size + 1)) t) (s := { s with heap := copyHeap s.heap vs }) (copyHeap_at s.heap vs) S hn ⟨rfl, h⟩) (fun f t hf => ?_) fun _ _ e => e.elim
  obtain ⟨rfl, hq⟩ := hf
  exact ⟨_, rfl, wpAny_pure ⟨_, rfl, hq⟩⟩
theorem sorted_any {prog : Program} {w : World} {A : Around} {E : Value → Shared → Prop} {s : Shared} {β : Type} {vs : List Value} {bs : List β} {enc : β → PyData} {R : Value → β → Prop} {l : Addr} {Q : Value → Shared → Prop} (hl : s.heap.IsList l vs.toArray ∨ s.heap.IsTuple l vs.toArray) (e : PySem.W.EachIs R vs bs) (er : PySem.W.EachIs (fun v b => ∃ as, Reads s.heap v (enc b) as) vs bs)
    (hal : PySem.W.AllAlike (bs.map enc)) (so : PySem.W.Sortable (bs.map enc) ∨ (bs.length ≤ 1 ∧ ∀ d, d ∈ bs.map enc → d ≠ .none)) (hL : bs.length ≤ sizeLine) (hu : ∀ b, b ∈ bs → A.units + 2 + (enc b).depth < cLine)
    (h : ∀ out, out.length = bs.length → PySem.W.EachIs R out (bs.mergeSort (PySem.W.dataLe false enc)) → Q (.ref (s.heap.objs.size + 1)) { s with heap := sortedAll s.heap vs (List.toArray out) }) : wpAny (model prog w) A (call (.builtin "sorted") [.ref l]) Q E s := by
  have er' : PySem.W.EachIs (fun v b => ∃ as, Reads (PySem.W.sortingHeap (PySem.W.copyHeap s.heap vs) (s.heap.objs.size + 1) vs) v (enc b) as) vs bs := er.mono fun _ _ ⟨as, r⟩ => ⟨as, PyProof.Rows.Reads.keeps (fun _ _ => PySem.W.sorting_copy_old) r⟩
  have em := PySem.W.each_map (R := fun v d => ∃ as, Reads (PySem.W.sortingHeap (PySem.W.copyHeap s.heap vs) (s.heap.objs.size + 1) vs) v d as) enc er'
  have hn : vs.length ≤ sizeLine := by rw [e.length]; exact hL
  have fin := h _ (by rw [PySem.W.sortVals_length false rfl]; exact e.length) (PySem.W.sortVals_data false e er' hal)
  have S : PySem.W.SortsAt prog w A.in1.in1 { s with heap := PySem.W.sortingHeap (PySem.W.copyHeap s.heap vs) (s.heap.objs.size + 1) vs } (PySem.W.dataKind (PySem.W.sortingHeap (PySem.W.copyHeap s.heap vs) (s.heap.objs.size + 1) vs) (bs.map enc)) vs := by
    rcases so with so | ⟨s1, s2⟩
    · exact PySem.W.SortsAt.data (s := { s with heap := PySem.W.sortingHeap (PySem.W.copyHeap s.heap vs) (s.heap.objs.size + 1) vs }) em hal so (PySem.W.bound_map hu)
    · exact sorts_one (s := { s with heap := PySem.W.sortingHeap (PySem.W.copyHeap s.heap vs) (s.heap.objs.size + 1) vs }) em hal (by rw [List.length_map]; exact s1) s2 (PySem.W.bound_map hu)
  rcases hl with hl | hl
  · exact PySem.W.sorted_vals hl S hn fin
  · exact sorted_tupV hl hn S fin
theorem sortOk_of {ds : List D} (h : sortOk ds = true) : PySem.W.AllAlike ds ∧ (PySem.W.Sortable ds ∨ (ds.length ≤ 1 ∧ ∀ d, d ∈ ds → d ≠ .none)) ∧ PyData.depthAll ds ≤ 60 := by
  unfold sortOk at h
  rw [Bool.and_eq_true, Bool.and_eq_true, Bool.or_eq_true, Bool.or_eq_true, decide_eq_true_eq] at h
  obtain ⟨⟨h1, h2⟩, h3⟩ := h
  refine ⟨fun d hd d' hd' => ?_, ?_, h2⟩
  · exact List.all_eq_true.mp (List.all_eq_true.mp h1 d hd) d' hd'
  · rcases h3 with h3 | h3
    rotate_left
    · rw [Bool.and_eq_true, decide_eq_true_eq] at h3
      refine .inr ⟨h3.1, fun d hd z => ?_⟩
      have q := List.all_eq_true.mp h3.2 d hd
      rw [z] at q
      cases q
    refine .inl ?_
    rcases h3 with h3 | h3
    · refine .inl fun d hd => ?_
      have q := List.all_eq_true.mp h3 d hd
      split at q
      · exact ⟨_, _, rfl⟩
      · cases q
    · refine .inr fun d hd => ?_
      have q := List.all_eq_true.mp h3 d hd
      split at q
      · cases q
      · cases q
      · rename_i n1 n2
        exact ⟨n1, n2⟩
theorem depth_le {d : D} : ∀ {ds : List D}, d ∈ ds → d.depth ≤ PyData.depthAll ds
  | [], h => nomatch h
  | x :: r, h => by
    unfold PyData.depthAll
    rcases List.mem_cons.mp h with rfl | h
    · omega
    · have := depth_le h
      omega
theorem cd_sorted {k : Nat} (hr : Room k X.A) : CallR X (.builtin "sorted") (fun xs H Q => ∃ x F ds, xs = [x] ∧ Frz F H ∧ (Dp X.K F x (.list ds) ∨ Dp X.K F x (.tuple ds)) ∧ sortOk ds = true ∧ ∀ p vs', H p = none → DpAll X.K F vs' (isort ds) → Q (.ref p) (upd H p (.lst vs'))) := by
  intro pins s σ H xs us Q I r h
  obtain ⟨x, F, ds, rfl, z, pd, ok, q⟩ := h
  obtain ⟨u, rfl, rx⟩ := vals1 r
  obtain ⟨al, so, dp⟩ := sortOk_of ok
  obtain ⟨a, ws, its, rfl, p1, rv, pl, hz⟩ : ∃ (a : Addr) (ws : List V) (its : List Value), x = .ref a ∧ DpAll X.K F ws ds ∧ Vals ws its ∧ (s.heap.IsList a its.toArray ∨ s.heap.IsTuple a its.toArray) ∧ ws.length ≤ sizeLine := by
    rcases pd with pd | pd
    · cases pd with
      | @lst a ws _ h1 p1 =>
        obtain ⟨its, rv, pl, hz⟩ := I.list (SqL.sameM z.sub h1)
        exact ⟨a, ws, its, rfl, p1, rv, .inl pl.isList, hz⟩
    · cases pd with
      | @tup a ws _ h1 p1 =>
        obtain ⟨its, rv, pl, hz⟩ := I.tuple (SqT.sameM z.sub h1)
        exact ⟨a, ws, its, rfl, p1, rv, .inr pl, hz⟩
  cases rx
  have hlen : (List.zip ws ds).length = ds.length := by rw [List.length_zip, p1.lenM]; exact Nat.min_self _
  have hmap : (List.zip ws ds).map (fun b : V × D => b.2) = ds := List.map_snd_zip (by rw [p1.lenM]; exact Nat.le_refl _)
  have e := each_pairs (X := X) rv p1
  have hu : ∀ b, b ∈ List.zip ws ds → X.A.units + 2 + (b.2 : D).depth < cLine := fun b hb => by
    have hb2 : b.2 ∈ ds := by rw [← hmap]; exact List.mem_map_of_mem hb
    have := depth_le hb2
    have := hr.un
    omega
  have er := e.mono (R' := fun u (b : V × D) => ∃ as, Reads s.heap u b.2 as) fun u b ⟨r, p⟩ => Dp.reads I _ _ _ (Dp.sameM z.sub _ _ p) r
  have fin : ∀ out, out.length = (List.zip ws ds).length → PySem.W.EachIs (fun u (b : V × D) => RelV b.1 u ∧ Dp X.K F b.1 b.2) out ((List.zip ws ds).mergeSort (PySem.W.dataLe false fun b => b.2)) →
      EP X pins σ Q (.ref (s.heap.objs.size + 1)) { s with heap := sortedAll s.heap its (List.toArray out) } := fun out ho eo => by
    obtain ⟨ep, he'⟩ := PyProof.Rows.sortedAll_at s.heap its out.toArray
    have hs : ((List.zip ws ds).mergeSort (PySem.W.dataLe false fun b : V × D => b.2)).map (fun b : V × D => b.2) = isort ds := by
      have := PySem.W.sort_maps (r := PySem.W.dataLe false fun b : V × D => b.2) (s := leD) (fun b : V × D => b.2) (l := List.zip ws ds) fun a _ b _ => rfl
      rw [isort_eq, this, hmap]
    obtain ⟨ov, od⟩ := each_out (X := X) eo
    rw [hs] at od
    refine ⟨.ref _, _, I.laid (o := .lst _) (t' := s.toks) (fun _ _ => PyProof.Rows.sortedAll_old) (Nat.le_succ _) ⟨?_, out, ep, ov, he'⟩, rfl, q _ _ (I.hok.fresh (Nat.le_succ _)) od⟩
    rw [ov.length, ho, hlen, ← p1.lenM]; exact hz
  refine sorted_any (enc := fun b : V × D => b.2) pl e er (by rw [hmap]; exact al) ?_ (by rw [hlen, ← p1.lenM]; exact hz) hu fin
  rw [hmap, hlen]
  exact so
theorem eo_call {nm : Str} {fv : Value} {o : D → Option (List D)} {me : M D} {p : Pos} (hc : CallR X fv (fun xs H Q => ∃ x F d ds, xs = [x] ∧ Frz F H ∧ Dp X.K F x d ∧ o d = some ds ∧ ∀ p vs', H p = none → DpAll X.K F vs' ds → Q (.ref p) (upd H p (.lst vs'))))
    (hp : ∀ {t : TA}, PA X [e] t → PE X (.Call (.Name nm p) [e] [] pos) (tCB (fun xs H Q => ∃ x F d ds, xs = [x] ∧ Frz F H ∧ Dp X.K F x d ∧ o d = some ds ∧ ∀ p vs', H p = none → DpAll X.K F vs' ds → Q (.ref p) (upd H p (.lst vs'))) t))
    (he : PE X e (tM X.K A E ρ me)) (hs : starEach [e] X.env = (false, eval e X.env) :: starEach [] X.env := by rfl) : PE X (.Call (.Name nm p) [e] [] pos) (tO X.K A E ρ (me >>= fun d => lft (o d))) :=
  (hp (pa_cons he pa_nil hs)).impM fun σ H Q ⟨c, F, B, w, s, h⟩ => by
    refine ⟨c, F, B, w, s, (Wp_bind.mp h).mono (fun d c1 q v F1 H1 x1 w1 r => ?_) fun _ _ q => q⟩
    obtain ⟨ds, ed, q⟩ := Wp_lft q
    refine ⟨v, F1, d, ds, rfl, w1.frz, r, ed, fun p vs' hp dl => ?_⟩
    exact q p vs' F1 _ (x1.trans (Ext.new' hp).to) (w1.ext (Ext.new' hp) (w1.frz.new' hp)) (x1.d p hp) (Same.free w1.frz.sub hp) upd_same dl
theorem eo_sorted {k : Nat} {me : M D} {p : Pos} (hr : Room k X.A) (hg : Gl X "sorted") (hm : X.mg "sorted" = none) (he : PE X e (tM X.K A E ρ me)) (hs : starEach [e] X.env = (false, eval e X.env) :: starEach [] X.env := by rfl) :
    PE X (.Call (.Name "sorted" p) [e] [] pos) (tO X.K A E ρ (me >>= fun d => lft (dSortL d))) :=
  eo_call (fv := .builtin "sorted") (fun pins s σ H xs us Q I r h => by
    obtain ⟨x, F, d, ds, rfl, z, pd, eo, q⟩ := h
    unfold dSortL at eo
    split at eo
    · split at eo
      · cases eo
        exact cd_sorted hr pins s σ H _ us Q I r ⟨x, F, _, rfl, z, .inl pd, by assumption, q⟩
      · cases eo
    · split at eo
      · cases eo
        exact cd_sorted hr pins s σ H _ us Q I r ⟨x, F, _, rfl, z, .inr pd, by assumption, q⟩
      · cases eo
    · cases eo) (fun ha => pe_callB (fun pins s σ H xs us Q I r h => by
    obtain ⟨x, F, d, ds, rfl, z, pd, eo, q⟩ := h
    unfold dSortL at eo
    split at eo
    · split at eo
      · cases eo
        exact cd_sorted hr pins s σ H _ us Q I r ⟨x, F, _, rfl, z, .inl pd, by assumption, q⟩
      · cases eo
    · split at eo
      · cases eo
        exact cd_sorted hr pins s σ H _ us Q I r ⟨x, F, _, rfl, z, .inr pd, by assumption, q⟩
      · cases eo
    · cases eo) hg hm rfl ha (he := hs) (hpl := rfl)) he hs
theorem cd_list (hc : X.calm = true) : CallR X (.type "list") (fun xs H Q => ∃ x F d ds, xs = [x] ∧ Frz F H ∧ Dp X.K F x d ∧ dListL d = some ds ∧ ∀ p vs', H p = none → DpAll X.K F vs' ds → Q (.ref p) (upd H p (.lst vs'))) := by
  intro pins s σ H xs us Q I r h
  obtain ⟨x, F, d, ds, rfl, z, pd, eo, q⟩ := h
  unfold dListL at eo
  split at eo
  · cases eo
    cases pd with
    | lst h1 p1 => exact call_list_of pins s σ H _ us Q I r ⟨_, _, rfl, .inl (SqL.sameM z.sub h1), fun l hl => q l _ hl p1⟩
  · cases eo
    cases pd with
    | tup h1 p1 => exact call_list_of pins s σ H _ us Q I r ⟨_, _, rfl, .inr (SqT.sameM z.sub h1), fun l hl => q l _ hl p1⟩
  · split at eo
    · rename_i t hz
      cases eo
      cases pd
      cases r with
      | cons r rr =>
        cases rr
        obtain ⟨tk0, rfl⟩ := r
        rw [lim_eq] at hz
        have hz2 : t.cps.size ≤ sizeLine := by simpa [Str.length] using hz
        refine call_list_str (I.ok.hd hc) t tk0 (fun h' tk acc c' hk e' hi => ?_) hz2
        refine ⟨.ref s.heap.objs.size, upd H s.heap.objs.size (.lst (t.cps.toList.map fun c => V.str ⟨#[c]⟩)), I.laid hk (Nat.le_refl _) (show ObjOk X.prog X.w _ _ _ (.lst (t.cps.toList.map fun c => V.str ⟨#[c]⟩)) from ⟨?_, acc.toList, c', sign_items hi, ?_⟩), rfl, q _ _ (I.hok.fresh (Nat.le_refl _)) (sign_dp _)⟩
        · rw [List.length_map, Array.length_toList]
          exact hz2
        · rw [Array.toArray_toList]; exact e'
    · cases eo
  · cases eo
theorem eo_list {me : M D} {p : Pos} (hc : X.calm = true) (hg : Gl X "list") (hm : X.mg "list" = none) (he : PE X e (tM X.K A E ρ me)) (hs : starEach [e] X.env = (false, eval e X.env) :: starEach [] X.env := by rfl) :
    PE X (.Call (.Name "list" p) [e] [] pos) (tO X.K A E ρ (me >>= fun d => lft (dListL d))) :=
  eo_call (fv := .type "list") (cd_list hc) (fun ha => pe_callTy (cd_list hc) hg hm rfl ha (he := hs) (hpl := rfl)) he hs
end
end Mir

set_option maxRecDepth 100000
/-! MirC7: defs, their calls, what they raise; the law's own. -/
namespace Mir
open PySem PySem.Spec PyProof.Rows L2
def arg1 (f : D → M D) : List D → M D
  | [a] => f a
  | _ => bad
def arg2 (f : D → D → M D) : List D → M D
  | [a, b] => f a b
  | _ => bad
def arg3 (f : D → D → D → M D) : List D → M D
  | [a, b, c] => f a b c
  | _ => bad
def arg4 (f : D → D → D → D → M D) : List D → M D
  | [a, b, c, d] => f a b c d
  | _ => bad
def arg5 (f : D → D → D → D → D → M D) : List D → M D
  | [a, b, c, d, e] => f a b c d e
  | _ => bad
/-- what is let out -/
structure Wsh (X : Cx) (E : Exc → L2.St → Hp → Prop) : Prop where
  ex : ∃ W : WX, Takes X W ∧ ∀ e σ H, E e σ H → ∀ C, X.mg e.cls = some (.ref C) → W (.ref C) none σ H
theorem wshN {X : Cx} : Wsh X EN := ⟨fun _ _ _ _ => False, fun u s' ⟨_, _, _, _, _, _, _, _, _, _, _, _, _, _, _, _, w⟩ => w.elim, fun _ _ _ h => h.elim⟩
/-- a def's promise, by data -/
def spD (K : PySem.W.Frag) (mg : Str → Option Value) (n : Nat) (m : List D → M D) : Sp := fun vs H Q Ex => vs.length = n ∧ ∃ A c F ds, Wd A c F H ∧ DpAll K F vs ds ∧
  Wp (m ds c) (fun d c' => ∀ v F' H', Ext A F H F' H' → Wd A c' F' H' → Dp K F' v d → Q v H') (fun e c' => ∀ F' H', Ext A F H F' H' → Wd A c' F' H' → ∀ C, mg e.cls = some (.ref C) → Ex (.ref C) none H')
/-- .. whose first argument is the cup -/
def spC (K : PySem.W.Frag) (mg : Str → Option Value) (n : Nat) (m : List D → M D) : Sp := fun vs H Q Ex => vs.length = n + 1 ∧ ∃ A c F ds p us, Wd A c F H ∧ A = some p ∧ vs = .ref p :: us ∧ DpAll K F us ds ∧
  Wp (m ds c) (fun d c' => ∀ v F' H', Ext A F H F' H' → Wd A c' F' H' → Dp K F' v d → Q v H') (fun e c' => ∀ F' H', Ext A F H F' H' → Wd A c' F' H' → ∀ C, mg e.cls = some (.ref C) → Ex (.ref C) none H')
/-- .. that gives a new list -/
def spN (K : PySem.W.Frag) (m : List D → M (List D)) : Sp := fun vs H Q Ex => vs.length = 1 ∧ ∃ c F ds, Wd none c F H ∧ DpAll K F vs ds ∧
  Wp (m ds c) (fun ds' c' => ∀ p vs' F' H', Ext none F H F' H' → Wd none c' F' H' → H p = none → F' p = none → H' p = some (.lst vs') → DpAll K F' vs' ds' → Q (.ref p) H') (fun _ _ => False)
/-- a def of the module that may be called -/
structure Cl (P : Program) (w : World) (K : PySem.W.Frag) (mg : Str → Option Value) (base : Heap) (k : Nat) (x : Str) (sp : Sp) : Prop where
  ex : ∃ (f : Addr) (fd : FuncData) (ps : List Str), FnOk P w K mg base (L2.CX P w) k f fd ps sp ∧ mg x = some (.ref f) ∧ PySem.W.keepIn K (.ref f) = true ∧ Binds K fd ps []
/-- a def as it stands behind the top -/
structure Df (K : PySem.W.Frag) (mg : Str → Option Value) (x : Str) (st : Stmt) (ps : List Str) : Prop where
  ex : ∃ (f : Addr) (fd : FuncData), Fun K x x st f fd ∧ mg x = some (.ref f) ∧ PySem.W.keepIn K (.ref f) = true ∧ Binds K fd ps []
/-- the context of a def's body -/
abbrev XD (P : Program) (w : World) (K : PySem.W.Frag) (mg : Str → Option Value) (base : Heap) (N : List Str) (x : Str) (st : Stmt) (f : Addr) (cdv : Value) (A : Around) (outer : List Env) (s : Shared) (H : Hp) (Ex : XK) : Cx := cxOf (L2.CX P w) P w K mg base N x (defScope st) f cdv A outer s H Ex
def EB (mg : Str → Option Value) (Ex : XK) : Exc → L2.St → Hp → Prop := fun e _ H => ∀ C, mg e.cls = some (.ref C) → Ex (.ref C) none H
section
variable {P : Program} {w : World} {K : PySem.W.Frag} {mg : Str → Option Value} {base : Heap}
theorem wshB {N : List Str} {x : Str} {st : Stmt} {f : Addr} {cdv : Value} {A : Around} {outer : List Env} {s : Shared} {H : Hp} {Ex : XK} : Wsh (XD P w K mg base N x st f cdv A outer s H Ex) (EB mg Ex) :=
  ⟨fun cls d _ H => Ex cls d H, takes_of (E := Ex) rfl rfl rfl rfl, fun _ _ _ h => h⟩
theorem ownB {N : List Str} {x : Str} {st : Stmt} {f : Addr} {cdv : Value} {A : Around} {outer : List Env} {s : Shared} {H : Hp} {Ex : XK} : PassesOwn (model P w) (XD P w K mg base N x st f cdv A outer s H Ex).A (XD P w K mg base N x st f cdv A outer s H Ex).env (XD P w K mg base N x st f cdv A outer s H Ex).xe :=
  PassesOwn.leaving
theorem start_slots {A : Option Addr} {F H : Hp} {c : Cup} {vs : List V} {ds : List D} {N : List Str} (w : Wd A c F H) (p : DpAll K F vs ds) : Now K A F H c F H (ds.map Sl.val ++ List.replicate (N.length - ds.length) Sl.un) (start N vs) := by
  have hl := p.lenM
  refine ⟨w, .refl, by simp [L2.start, hl], fun i sl o h1 h2 => ?_, fun i j xs ys q h1 h2 h3 h4 => ?_⟩
  · unfold L2.start at h2
    by_cases hi : i < ds.length
    · rw [List.getElem?_append_left (by simpa using hi), List.getElem?_map] at h1
      rw [List.getElem?_append_left (by rw [List.length_map, hl]; exact hi), List.getElem?_map] at h2
      rw [List.getElem?_eq_getElem hi] at h1
      cases h1
      obtain ⟨v, ev, pv⟩ := p.getDM (List.getElem?_eq_getElem hi)
      rw [ev] at h2
      cases h2
      exact ⟨v, rfl, pv⟩
    · rw [List.getElem?_append_right (by rw [List.length_map]; omega), List.getElem?_replicate] at h1
      split at h1
      · cases h1; trivial
      · cases h1
  · by_cases hi : i < ds.length
    · rw [List.getElem?_append_left (by simpa using hi), List.getElem?_map, List.getElem?_eq_getElem hi] at h1
      cases h1
    · rw [List.getElem?_append_right (by rw [List.length_map]; omega), List.getElem?_replicate] at h1
      split at h1 <;> cases h1
/-- a def keeps its promise, by its body's mirror -/
theorem cl_of {x : Str} {st : Stmt} {N ps : List Str} {k : Nat} {m : List D → M D} {b : List D → M (Fl Unit Unit)} {ρb ρg : Unit → List Sl} (Df : Df K mg x st ps) (S : FnScope N ps (defScope st)) (hm : ∀ ds, ds.length = ps.length → m ds = runF (b ds))
    (hbody : ∀ (f : Addr) (cdv : Value) (A : Around) (outer : List Env) (s : Shared) (H : Hp) (Ex : XK), Room k (A.deeper (envOfC x (defScope st) s.heap.objs.size f cdv)) → ∀ (A' : Option Addr) (ds : List D), ds.length = ps.length →
      PSs (XD P w K mg base N x st f cdv A outer s H Ex) (defBody st) (tB K A' (EB mg Ex) (ds.map Sl.val ++ List.replicate (N.length - ds.length) Sl.un) ρb ρg (b ds))) : Cl P w K mg base (k + 1) x (spD K mg ps.length m) := by
  obtain ⟨f, fd, F, hmf, kp, bd⟩ := Df.ex
  refine ⟨f, fd, ps, F.okX S (fun vs H Q E h => h.1) (fun cdv A outer s H vs Q Ex hr h => ?_), hmf, kp, bd⟩
  obtain ⟨hl, A', c, F', ds, w', p, q⟩ := h
  have hd : ds.length = ps.length := by rw [← p.lenM]; exact hl
  refine ⟨_, hbody f cdv A outer s H Ex hr A' ds hd, c, F', F', H, start_slots w' p, ?_⟩
  rw [hm ds hd] at q
  unfold runF at q
  rw [Wp_bind] at q
  refine q.mono (fun o c' q => ?_) fun e c' q σ F1 H1 w1 x1 => q F1 H1 x1 w1
  cases o with
  | nx b => exact fun σ F1 H1 n => q .non F1 H1 n.x n.w .non
  | rt d => exact fun v F1 H1 w1 x1 pd => q v F1 H1 x1 w1 pd
  | bk g => exact q.elim
  | ct g => exact q.elim
theorem start_cup {A : Option Addr} {F H : Hp} {c : Cup} {p : Addr} {vs : List V} {ds : List D} {N : List Str} (w : Wd A c F H) (hA : A = some p) (pd : DpAll K F vs ds) : Now K A F H c F H (Sl.cup :: (ds.map Sl.val ++ List.replicate (N.length - 1 - ds.length) Sl.un)) (start N (.ref p :: vs)) := by
  have n := start_slots (N := N.tail) w pd
  have e : start N (.ref p :: vs) = some (.ref p) :: start N.tail vs := by
    unfold L2.start
    simp only [List.map_cons, List.cons_append, List.length_cons, List.length_tail]
    rw [show N.length - (vs.length + 1) = N.length - 1 - vs.length by omega]
  rw [e]
  have e2 : N.tail.length = N.length - 1 := List.length_tail
  have s := n.s
  rw [e2] at s
  refine ⟨w, .refl, by simp [s.len], fun i sl o h1 h2 => ?_, fun i j xs ys q h1 h2 h3 h4 => ?_⟩
  · cases i with
    | zero =>
      cases h1
      cases h2
      exact ⟨p, hA, rfl⟩
    | succ i => exact s.at_ i sl o (by simpa using h1) (by simpa using h2)
  · cases i with
    | zero => cases h1
    | succ i =>
      cases j with
      | zero => cases h2
      | succ j => rw [s.apart i j xs ys q (by simpa using h1) (by simpa using h2) (by simpa using h3) (by simpa using h4)]
theorem cl_cup {x : Str} {st : Stmt} {N ps : List Str} {k n : Nat} {m : List D → M D} {b : List D → M (Fl Unit Unit)} {ρb ρg : Unit → List Sl} (Df : Df K mg x st ps) (S : FnScope N ps (defScope st)) (hn : ps.length = n + 1) (hm : ∀ ds, ds.length = n → m ds = runF (b ds))
    (hbody : ∀ (f : Addr) (cdv : Value) (A : Around) (outer : List Env) (s : Shared) (H : Hp) (Ex : XK), Room k (A.deeper (envOfC x (defScope st) s.heap.objs.size f cdv)) → ∀ (A' : Option Addr) (ds : List D), ds.length = n →
      PSs (XD P w K mg base N x st f cdv A outer s H Ex) (defBody st) (tB K A' (EB mg Ex) (Sl.cup :: (ds.map Sl.val ++ List.replicate (N.length - 1 - ds.length) Sl.un)) ρb ρg (b ds))) : Cl P w K mg base (k + 1) x (spC K mg n m) := by
  obtain ⟨f, fd, F, hmf, kp, bd⟩ := Df.ex
  refine ⟨f, fd, ps, F.okX S (fun vs H Q E h => by rw [hn]; exact h.1) (fun cdv A outer s H vs Q Ex hr h => ?_), hmf, kp, bd⟩
  obtain ⟨hl, A', c, F', ds, p, us, w', hA, rfl, pd, q⟩ := h
  have hd : ds.length = n := by
    rw [← pd.lenM]
    simpa using hl
  refine ⟨_, hbody f cdv A outer s H Ex hr A' ds hd, c, F', F', H, start_cup w' hA pd, ?_⟩
  rw [hm ds hd] at q
  unfold runF at q
  rw [Wp_bind] at q
  refine q.mono (fun o c' q => ?_) fun e c' q σ F1 H1 w1 x1 => q F1 H1 x1 w1
  cases o with
  | nx b => exact fun σ F1 H1 n => q .non F1 H1 n.x n.w .non
  | rt d => exact fun v F1 H1 w1 x1 pd => q v F1 H1 x1 w1 pd
  | bk g => exact q.elim
  | ct g => exact q.elim
/-- a def that is never asked (the bottom of a recursion) -/
theorem cl_bot {x : Str} {st : Stmt} {N ps : List Str} {m : List D → M D} (Df : Df K mg x st ps) (S : FnScope N ps (defScope st)) (hm : ∀ ds c, m ds c = .bad) : Cl P w K mg base 1 x (spD K mg ps.length m) := by
  obtain ⟨f, fd, F, hmf, kp, bd⟩ := Df.ex
  refine ⟨f, fd, ps, F.okX S (fun vs H Q E h => h.1) (fun cdv A outer s H vs Q Ex hr h => ?_), hmf, kp, bd⟩
  obtain ⟨hl, A', c, F', ds, w', p, q⟩ := h
  rw [hm] at q
  exact q.elim
theorem cl_botC {x : Str} {st : Stmt} {N ps : List Str} {n : Nat} {m : List D → M D} (Df : Df K mg x st ps) (S : FnScope N ps (defScope st)) (hn : ps.length = n + 1) (hm : ∀ ds c, m ds c = .bad) : Cl P w K mg base 1 x (spC K mg n m) := by
  obtain ⟨f, fd, F, hmf, kp, bd⟩ := Df.ex
  refine ⟨f, fd, ps, F.okX S (fun vs H Q E h => by rw [hn]; exact h.1) (fun cdv A outer s H vs Q Ex hr h => ?_), hmf, kp, bd⟩
  obtain ⟨hl, A', c, F', ds, p, us, w', hA, rfl, pd, q⟩ := h
  rw [hm] at q
  exact q.elim
end
section
variable {X : Cx} {A : Option Addr} {E : Exc → L2.St → Hp → Prop} {ρ ρ' : List Sl} {β γ : Type} {ρb : β → List Sl} {ρg : γ → List Sl} {pos p : Pos} {e e1 e2 e3 e4 e5 : Expr} {es : List Expr} {ms : List (M D)} {m1 m2 m3 m4 m5 : M D} {rest : List Stmt} {i k j : Nat} {x : Str}
/-- f(e, ..) -/
theorem ev_fn {m : List D → M D} (c : Cl X.prog X.w X.K X.mg X.base k x (spD X.K X.mg ms.length m)) (hw : Wsh X E) (hr : Room j X.A) (hk : k ≤ j) (hg : Gl X x) (ha : PA X (e :: es) (tA X.K A E ρ (seqM ms)))
    (hdb : (x == ("__debug__" : Str)) = false := by decide) (he : starEach (e :: es) X.env = (false, eval e X.env) :: starEach es X.env := by rfl) (hpl : (backTo pos (starEach es X.env)).any (·.1) = false := by rfl) :
    PE X (.Call (.Name x p) (e :: es) [] pos) (tM X.K A E ρ (seqM ms >>= m)) := by
  obtain ⟨f, fd, ps, F, hm, kp, bd⟩ := c.ex
  obtain ⟨W, tk, hW⟩ := hw.ex
  refine (pe_callS F (hr.mono hk) hg hm kp bd (passAt tk) ha hdb he hpl).impM fun σ H Q ⟨c, F, B, h⟩ => ⟨c, F, B, (tG.bindP (P := fun ds => ds.length = ms.length) (fun c Q E h => wp_seq ms c Q E h) (R := RL X.K) h).mono fun vs H1 ⟨ds, c1, F1, hl, x1, r, w1, s1, q⟩ => ?_⟩
  exact ⟨by rw [r.lenM]; exact hl, A, c1, F1, ds, w1, r, q.mono (fun d c' q v F' H' e w' r => q v F' H' e w' r) fun e c' q F' H' x w' C hC => hW e σ H' (q F' H' x w') C hC⟩
theorem ev_fnC {m : List D → M D} {nc : Str} {pc : Pos} (c : Cl X.prog X.w X.K X.mg X.base k x (spC X.K X.mg ms.length m)) (hw : Wsh X E) (hr : Room j X.A) (hk : k ≤ j) (hg : Gl X x) (hi : ρ[i]? = some .cup) (hv : PE X (.Name nc pc) (tVar i)) (ha : PA X es (tA X.K A E ρ (seqM ms)))
    (hdb : (x == ("__debug__" : Str)) = false := by decide) (he : starEach (.Name nc pc :: es) X.env = (false, eval (.Name nc pc) X.env) :: starEach es X.env := by rfl) (hpl : (backTo pos (starEach es X.env)).any (·.1) = false := by rfl) :
    PE X (.Call (.Name x p) (.Name nc pc :: es) [] pos) (tM X.K A E ρ (seqM ms >>= m)) := by
  obtain ⟨f, fd, ps, F, hm, kp, bd⟩ := c.ex
  obtain ⟨W, tk, hW⟩ := hw.ex
  refine (pe_callS F (hr.mono hk) hg hm kp bd (passAt tk) (pa_cons hv ha he) hdb he hpl).impM fun σ H Q ⟨c, F, B, h⟩ => by
    obtain ⟨a, ea, es⟩ := Slots.cupAt h.2.1 hi
    refine ⟨.ref a, es, c, F, B, (tG.bindP (P := fun ds => ds.length = ms.length) (fun c Q E h => wp_seq ms c Q E h) (R := RL X.K) h).mono fun vs H1 ⟨ds, c1, F1, hl, x1, r, w1, s1, q⟩ => ?_⟩
    exact ⟨by rw [List.length_cons, r.lenM, hl], A, c1, F1, ds, a, vs, w1, ea, rfl, r, q.mono (fun d c' q v F' H' e w' r => q v F' H' e w' r) fun e c' q F' H' x w' C hC => hW e σ H' (q F' H' x w') C hC⟩
theorem seq1 {f : D → M D} : seqM [m1] >>= arg1 f = m1 >>= f := by simp [seqM, arg1]
theorem seq2 {f : D → D → M D} : seqM [m1, m2] >>= arg2 f = m1 >>= fun a => m2 >>= fun b => f a b := by simp [seqM, arg2]
theorem seq3 {f : D → D → D → M D} : seqM [m1, m2, m3] >>= arg3 f = m1 >>= fun a => m2 >>= fun b => m3 >>= fun c => f a b c := by simp [seqM, arg3]
theorem seq4 {f : D → D → D → D → M D} : seqM [m1, m2, m3, m4] >>= arg4 f = m1 >>= fun a => m2 >>= fun b => m3 >>= fun c => m4 >>= fun d => f a b c d := by simp [seqM, arg4]
theorem seq5 {f : D → D → D → D → D → M D} : seqM [m1, m2, m3, m4, m5] >>= arg5 f = m1 >>= fun a => m2 >>= fun b => m3 >>= fun c => m4 >>= fun d => m5 >>= fun e => f a b c d e := by simp [seqM, arg5]
/-- raise C('..') -/
theorem b_raise {C : Addr} {bmB : List Value} {B newId initId : String} {jj : Nat} {p2 p3 : Pos} {m : Str} (hw : Wsh X E) (hc : X.calm = true) (F : ExcBaseFacts B newId initId bmB) (q : PySem.W.excIn X.K C bmB newId = true) (gC : X.mg x = some (.ref C)) (kC : PySem.W.keepIn X.K (.ref C) = true)
    (r : Raises X (.ref C)) (hg : Gl X x) (hdb : (x == ("__debug__" : Str)) = false := by decide) : PSs X (.Raise (some (.Call (.Name x p) [.Constant (.str m) jj p2] [] p3)) none pos :: rest) (tB X.K A E ρ ρb ρg (raise ⟨x, none⟩)) := by
  obtain ⟨W, tk, hW⟩ := hw.ex
  refine PSs.imp' (pss_cons (ps_raise hc tk (pmk_own F q gC kC r hg hdb)) pss_never) fun D σ H ⟨c, F, F0, B, n, h⟩ => ?_
  exact hW ⟨x, none⟩ σ H (h σ F H n.w n.x) C gC
end
end Mir

set_option maxRecDepth 100000
/-! MirC8: what the top has written; names of the module; index, count; the law's def and its end. -/
namespace Mir
open PySem PySem.Spec PyProof.Rows L2
/-- a name of the module that holds data -/
def GC (K : PySem.W.Frag) (mg : Str → Option Value) (x : Str) (d : D) : Prop := ∃ u v, mg x = some u ∧ RelV v u ∧ ∀ F : Hp, Dp K F v d
/-- .. a tuple, known object and all -/
def GT (K : PySem.W.Frag) (mg : Str → Option Value) (x : Str) (ds : List D) : Prop := ∃ p o its n vs, mg x = some (.ref p) ∧ K.lookup p = some o ∧ o.cls = .type "tuple" ∧ o.dict = none ∧ o.data = .seq its n ∧ its.size ≤ sizeLine ∧ Vals vs its.toList ∧ ∀ F : Hp, DpAll K F vs ds
/-- plain constants -/
def kd (K : PySem.W.Frag) : Nat → Value → Option D
  | _, .none => some .none
  | _, .bool b => some (.bool b)
  | _, .int i _ => some (.int i)
  | _, .str x _ => some (.str x)
  | n + 1, .ref p => (match K.lookup p with
      | some ⟨.type "tuple", none, .seq its _, _⟩ => if its.size ≤ sizeLine then (its.toList.mapM (kd K n)).map .tuple else none
      | _ => none)
  | _, _ => none
section
variable {K : PySem.W.Frag} {mg : Str → Option Value} {h : Heap} {x : Str}
theorem mapM_cons {α β : Type} {f : α → Option β} {a : α} {l : List α} {r : List β} (h : (a :: l).mapM f = some r) : ∃ b bs, f a = some b ∧ l.mapM f = some bs ∧ r = b :: bs := by
  rw [List.mapM_cons] at h
  cases h1 : f a with
  | none => rw [h1] at h; cases h
  | some b =>
    cases h2 : l.mapM f with
    | none => rw [h1, h2] at h; cases h
    | some bs => rw [h1, h2] at h; cases h; exact ⟨b, bs, rfl, rfl, rfl⟩
mutual
theorem kd_ok : ∀ (n : Nat) (u : Value) (d : D), kd K n u = some d → ∃ v, RelV v u ∧ ∀ F : Hp, Dp K F v d
  | n0, u, d, e => by
    unfold kd at e
    split at e
    · cases e; exact ⟨.non, rfl, fun _ => .non⟩
    · cases e; exact ⟨.bl _, rfl, fun _ => .bl _⟩
    · cases e; exact ⟨.int _, ⟨_, rfl⟩, fun _ => .int _⟩
    · cases e; exact ⟨.str _, ⟨_, rfl⟩, fun _ => .str _⟩
    · rename_i n p
      split at e
      · rename_i its m sl hl
        split at e
        · rename_i hz
          obtain ⟨ds, e1, rfl⟩ := Option.map_eq_some_iff.mp e
          obtain ⟨vs, r, q⟩ := kd_all n its.toList ds e1
          exact ⟨.ref p, rfl, fun F => .tup (.inr ⟨_, its, m, hl, rfl, rfl, hz, r⟩) (q F)⟩
        · cases e
      · cases e
    · cases e
theorem kd_all : ∀ (n : Nat) (us : List Value) (ds : List D), us.mapM (kd K n) = some ds → ∃ vs, Vals vs us ∧ ∀ F : Hp, DpAll K F vs ds
  | n, [], ds, e => by
    rw [List.mapM_nil] at e
    cases e
    exact ⟨[], .nil, fun _ => .nil⟩
  | n, u :: us, ds, e => by
    obtain ⟨b, bs, e1, e2, rfl⟩ := mapM_cons e
    obtain ⟨v, r, q⟩ := kd_ok n u b e1
    obtain ⟨vs, rs, qs⟩ := kd_all n us bs e2
    exact ⟨v :: vs, .cons r rs, fun F => .cons (q F) (qs F)⟩
end
theorem gc_of {u : Value} {d : D} (X : K.In h) (G : h.Ns mainGlobals mg) (a : PySem.W.nsIn K mainGlobals x = some (some u)) (e : kd K 4 u = some d) : GC K mg x d := by
  obtain ⟨v, r, q⟩ := kd_ok 4 u d e
  exact ⟨u, v, PySem.W.mg_of X G a, r, q⟩
theorem gt_of {p : Addr} {its : Array Value} {n : Nat} {sl : Array (Option Value)} {ds : List D} (X : K.In h) (G : h.Ns mainGlobals mg) (a : PySem.W.nsIn K mainGlobals x = some (some (.ref p))) (l : List.lookup p K = some ⟨.type "tuple", none, .seq its n, sl⟩) (hz : its.size ≤ sizeLine) (e : its.toList.mapM (kd K 4) = some ds) : GT K mg x ds := by
  obtain ⟨vs, r, q⟩ := kd_all 4 its.toList ds e
  exact ⟨p, _, its, n, vs, PySem.W.mg_of X G a, l, rfl, rfl, rfl, hz, r, q⟩
theorem GT.gc {ds : List D} (g : GT K mg x ds) : GC K mg x (.tuple ds) := by
  obtain ⟨p, o, its, n, vs, h1, h2, h3, h4, h5, h6, h7, h8⟩ := g
  exact ⟨.ref p, .ref p, h1, rfl, fun F => .tup (.inr ⟨o, its, n, h2, h3, h5, h6, h7⟩) (h8 F)⟩
theorem df_mk {f : Addr} {st : Stmt} {ps : List Str} {oc : Value} {od an : Option Addr} {osl : Array (Option Value)} {kV doc pm cdv ct : Value} (X : K.In h) (G : h.Ns mainGlobals mg) (a : PySem.W.nsIn K mainGlobals x = some (some (.ref f)))
    (l : List.lookup f K = some ⟨oc, od, .func (PySem.W.fnOf x x (defArgs st) (defBody st) (defScope st) .none kV doc pm an cdv ct), osl⟩) (c : PySem.W.codeIn K cdv x = true) (k : PySem.W.keepIn K (.ref f) = true)
    (hb : ∀ (kV doc pm : Value) (an : Option Addr) (cdv ct : Value) (us : List Value), us.length = ps.length → bindArgs (PySem.W.fnOf x x (defArgs st) (defBody st) (defScope st) .none kV doc pm an cdv ct) ⟨us, []⟩ = pure (ps.zip us)) : Df K mg x st ps :=
  ⟨f, _, fun_mk l c k, PySem.W.mg_of X G a, k, (fun_mk (st := st) l c k).binds hb⟩
end
section
variable {X : Cx} {A : Option Addr} {E : Exc → L2.St → Hp → Prop} {ρ ρ' : List Sl} {β γ : Type} {ρb : β → List Sl} {ρg : γ → List Sl} {pos p : Pos} {e : Expr} {me : M D} {rest : List Stmt} {i k j : Nat} {x : Str}
theorem ev_gc {d : D} (g : GC X.K X.mg x d) (hg : Gl X x) (hd : (x == ("__debug__" : Str)) = false := by decide) : PE X (.Name x pos) (tM X.K A E ρ (pure d)) := by
  obtain ⟨u, v, hm, r, q⟩ := g
  exact (pe_glob hg hm r hd).impM fun σ H Q ⟨c, F, B, h⟩ => h.pure (q F)
theorem mt_tupIndex {kk : Nat} (hr : Room kk X.A) : MtR X "tuple.index" (fun x xs H Q => ∃ p ds y d F j vs, x = .ref p ∧ xs = [y] ∧ Frz F H ∧ SqT X.K F p vs ∧ DpAll X.K F vs ds ∧ Dp X.K F y d ∧ PyData.depthAll ds ≤ 60 ∧ (ds.findIdx? fun x => PyData.eqv x d) = some j ∧ Q (.int (j : Nat)) H) := by
  intro pins s σ H x xs v us Q I rx rxs h
  obtain ⟨p, ds, y, d, F, j, vs, rfl, rfl, z, hs, pa, pd, hdp, hj, q⟩ := h
  cases rx
  obtain ⟨u, rfl, ry⟩ := vals1 rxs
  obtain ⟨its, rv, pl, hz⟩ := I.tuple (SqT.sameM z.sub hs)
  obtain ⟨as, rs⟩ := Dp.readsAll I _ _ its (DpAll.sameM z.sub _ _ pa) rv
  obtain ⟨bs, rx⟩ := Dp.reads I d y u (Dp.sameM z.sub d y pd) ry
  obtain ⟨⟨cls, dd, data, sl⟩, ho, hc, n, hd'⟩ := id pl
  simp only at hc hd'
  subst hc hd'
  have rs' : ReadsAll s.heap its.toArray.toList ds as := by simpa using rs
  obtain ⟨hjl, hit, hno⟩ := PySem.SeqAt.hit_at rs' (DpAll.plainM _ _ pa) (show PySem.SeqAt.dataPlace ds d = some j from hj)
  have hu := hr.un
  have eq := PySem.SeqAt.items_plain (A := X.A) rs' rx (DpAll.plainM _ _ pa) (Dp.plainM _ _ pd) (by have : min (PyData.depthAll ds) d.depth ≤ 60 := Nat.le_trans (Nat.min_le_left _ _) hdp; omega)
  have hsl := sizeLine_eq
  have hlen := rv.length
  have hjs : j < its.length := by simpa using hjl
  refine call_meets PySem.F.slot_tuple_index ⟨_, ho, rfl⟩ PySem.F.entry_tuple_index (PySem.F.args_tuple_index_2 _ _)
    (PySem.SeqAt.tuple_index2_found p its.toArray n dd sl u (fun m => if hm : m < its.toArray.size then PyData.eqv (PySem.SeqAt.readOf s.heap its.toArray[m]) d else false) j hjl (Nat.zero_le _) hjl ?_ ?_) ⟨ho, fun m hm => ?_, ?_⟩
  · rw [dif_pos hjl]; exact hit
  · intro m hm _ hmj
    rw [dif_pos hm]; exact hno m hm hmj
  · rw [dif_pos hm]; exact eq _ (Array.getElem_mem hm)
  · exact ⟨.int (j : Nat), H, I.tok _, ⟨_, rfl⟩, q⟩
/-- C.index(e), C a tuple of the module -/
def indexIn (ds : List D) (d : D) : Option D := if PyData.depthAll ds ≤ 60 then (ds.findIdx? fun x => PyData.eqv x d).map fun (j : Nat) => PyData.int (j : Int) else none
theorem ev_gIndex {kk : Nat} {ds : List D} {apos : Pos} (hr : Room kk X.A) (g : GT X.K X.mg x ds) (hg : Gl X x) (he : PE X e (tM X.K A E ρ me)) (hd : (x == ("__debug__" : Str)) = false := by decide) (hs : starEach [e] X.env = (false, eval e X.env) :: starEach [] X.env := by rfl)
    (hbase : attributeBase (.Name x p) "index" X.env (eval (.Name x p) X.env) = eval (.Name x p) X.env := by rfl) (hline : (apos.endLine == pos.line) = true := by rfl) :
    PE X (.Call (.Attribute (.Name x p) "index" apos) [e] [] pos) (tM X.K A E ρ (me >>= fun d => lft (indexIn ds d))) := by
  obtain ⟨q, o, its, n, vs, h1, h2, h3, h4, h5, h6, h7, h8⟩ := g
  refine (pe_bm PySem.F.plainAttrs_tuple PySem.F.slot_tuple_index PySem.F.type_tuple_index (mt_tupIndex hr) (pe_glob hg h1 (v := .ref q) rfl hd) (pa_cons he pa_nil hs) hbase (by rw [hs] <;> rfl) hline hs).impM fun σ H Q ⟨c, F, B, h⟩ => ?_
  refine ⟨.inr (.inl ⟨rfl, o, h2, h3, h4⟩), c, F, B, (tG.bind (R := RD X.K) h).mono fun y H1 ⟨d, c1, F1, e1, r1, h1⟩ => ?_⟩
  obtain ⟨r, er, q2⟩ := h1.lft
  unfold indexIn at er
  split at er
  · rename_i hdp
    obtain ⟨j, ej, rfl⟩ := Option.map_eq_some_iff.mp er
    exact ⟨q, ds, y, d, F1, _, vs, rfl, rfl, h1.1.frz, .inr ⟨o, its, n, h2, h3, h5, h6, h7⟩, h8 F1, r1, hdp, ej, q2 _ F1 H1 .refl h1.1.frz (.int _)⟩
  · cases er
/-! ### the law's own def -/
/-- cup = f(x), a new pair of numbers -/
def two : List D → Option Cup
  | [.int n, .int m] => some (n, m)
  | _ => none
theorem Slots.cupped {K : PySem.W.Frag} {B F H F' H' : Hp} {σ : L2.St} {a : Addr} (s : Slots K none B F H ρ σ) (e : Ext none F H F' H') (ha : H a = none) (i : Nat) : Slots K (some a) B F' H' (ρ.set i .cup) (σ.set i (some (.ref a))) := by
  refine ⟨by simp [s.len], fun j sl o h1 h2 => ?_, fun j l xs ys q h1 h2 h3 h4 => ?_⟩
  · rcases set_get h1 with ⟨e, rfl⟩ | ⟨e', h1⟩
    · subst e
      rcases set_get h2 with ⟨_, rfl⟩ | ⟨e, _⟩
      · exact ⟨a, rfl, rfl⟩
      · exact absurd rfl e
    · rcases set_get h2 with ⟨e2, _⟩ | ⟨_, h2⟩
      · exact absurd e2 e'
      · have q := (s.ext e).at_ j sl o h1 h2
        have q0 := s.at_ j sl o h1 h2
        cases sl with
        | un => trivial
        | val d => exact q
        | own zs =>
          obtain ⟨r, ws, f1, f2, f3, f4, f5, f6⟩ := q
          obtain ⟨r', ws', g1, _, _, _, g5, _⟩ := q0
          rw [f1] at g1
          cases g1
          exact ⟨r, ws, f1, f2, f3, (fun z => by cases z; rw [ha] at g5; cases g5), f5, f6⟩
        | cup => obtain ⟨b, h, _⟩ := q; cases h
        | kn φ => exact q
  · rcases set_get h1 with ⟨_, z⟩ | ⟨n1, h1⟩
    · cases z
    · rcases set_get h2 with ⟨_, z⟩ | ⟨n2, h2⟩
      · cases z
      · rw [List.getElem?_set_ne n1] at h3
        rw [List.getElem?_set_ne n2] at h4
        exact s.apart j l xs ys q h1 h2 h3 h4
theorem b_newcup {m : List D → M (List D)} {mr : M (Fl β γ)} {p1 pos' : Pos} {nm : Str} (c : Cl X.prog X.w X.K X.mg X.base k nm (spN X.K m)) (hr : Room j X.A) (hk : k ≤ j) (hg : Gl X nm) (hN : X.N.Nodup) (hi : X.N[i]? = some x) (hx : Loc X.env.scope x)
    (hw : Wsh X E) (he : PE X e (tM X.K none E ρ me)) (hrest : ∀ a, PSs X rest (tB X.K (some a) E (ρ.set i .cup) ρb ρg mr)) (hρb : ∀ b, ρb b = []) (hρg : ∀ b, ρg b = [])
    (hs : swapsWith (.Call (.Name nm p1) [e] [] p) (some (.Name x pos')) pos.line X.env = pure false := by rfl) (hf : X.fn x = true ∨ X.env.scope.names.lookup x = some .local := by first | exact .inl rfl | exact .inr rfl | assumption)
    (hdb : (nm == ("__debug__" : Str)) = false := by decide) (hst : starEach [e] X.env = (false, eval e X.env) :: starEach [] X.env := by rfl) (hpl : (backTo p (starEach [] X.env)).any (·.1) = false := by rfl) :
    PSs X (.Assign [.Name x pos'] (.Call (.Name nm p1) [e] [] p) pos :: rest) (tB X.K none E ρ ρb ρg (me >>= fun d => nex (m [d]) >>= fun ds => lft (two ds) >>= fun t => setCup t.1 t.2 >>= fun _ => mr)) := by
  obtain ⟨f, fd, ps, Fn, hm, kp, bd⟩ := c.ex
  obtain ⟨W, tk, hW⟩ := hw.ex
  refine PSs.imp' (pss_cons (u := fun D σ H => ∃ a, tB X.K (some a) E (ρ.set i .cup) ρb ρg mr D σ H) (ps_set hN hi hx (pe_callS Fn (hr.mono hk) hg hm kp bd (passAt tk) (pa_cons he pa_nil hst) hdb hst hpl) hs hf) ⟨fun pins s σ H D I ⟨a, q⟩ => (hrest a).run pins s σ H D I q⟩) fun D σ H ⟨c, F, F0, B, n, h⟩ => ?_
  refine ⟨c, F, B, (tBn.ex (R := RD X.K) n h).mono fun v H1 ⟨d, c1, F1, r, n1, h1⟩ => ?_⟩
  have h2 := Wp_bind.mp h1
  refine ⟨rfl, c1, F1, [d], n1.w, .cons r .nil, ?_⟩
  have h3 := Wp_nex (E' := fun _ _ => False) h2
  refine h3.mono (fun ds c2 q p vs' F2 H2 x2 w2 hp fp hp' dl => ?_) fun _ _ q => q
  obtain ⟨t, et, q⟩ := Wp_lft (Wp_bind.mp q)
  unfold two at et
  split at et
  · rename_i n' m'
    cases et
    have ev : vs' = [.int n', .int m'] := by
      cases dl with
      | cons d1 dl =>
        cases dl with
        | cons d2 dl =>
          cases dl
          cases d1
          cases d2
          rfl
    subst ev
    have hB : B p = none := n1.x.d p hp
    have e0 := n1.x.trans x2
    have back : ∀ {F H : Hp}, Ext (some p) F0 B F H → Ext none F0 B F H := fun {F H} e => ⟨e.f, fun b o q _ t => e.h b o q (fun z => by cases z; rw [hB] at q; cases q) t, e.n, e.d⟩
    have wd : ∀ {c : Cup} {F H : Hp}, Wd (some p) c F H → Wd none c F H := fun w => ⟨w.frz, fun _ z => nomatch z⟩
    have no : ∀ {c : Cup} {F H : Hp} {σ : L2.St}, Now X.K (some p) F0 B c F H [] σ → Now X.K none F0 B c F H [] σ := fun n => ⟨wd n.w, back n.x, n.s.len, fun i sl o h => by simp at h, fun i j xs ys q h => by simp at h⟩
    refine ⟨p, (n', m'), F2, F0, B, ⟨⟨w2.frz, fun a ha => by cases ha; exact ⟨fp, hp'⟩⟩, e0.to, n1.s.cupped x2 hp i⟩, (show Wp (mr (n', m')) _ _ from q).mono (fun o c' q => ?_) fun e c' q σ F' H' w' x' => q σ F' H' (wd w') (back x')⟩
    cases o with
    | nx b => exact fun σ F H n => q σ F H (by rw [hρb b] at n ⊢; exact no n)
    | rt d => exact fun v F H w x r => q v F H (wd w) (back x) r
    | bk b => exact fun σ F H n => q σ F H (by rw [hρg b] at n ⊢; exact no n)
    | ct b => exact fun σ F H n => q σ F H (by rw [hρg b] at n ⊢; exact no n)
  · cases et
/-- the law's script: any list of so many numbers -/
def spL (K : PySem.W.Frag) (n : Nat) : Sp := fun vs H Q _ => ∃ (a : Addr) (ns : List Int), vs = [.ref a] ∧ SqL K H a (ns.map V.int) ∧ ns.length ≤ n ∧ ∀ H', Q (.bl true) H'
theorem ints_dl {K : PySem.W.Frag} {F : Hp} : ∀ ns : List Int, DpAll K F (ns.map V.int) (ns.map PyData.int)
  | [] => .nil
  | n :: ns => .cons (.int n) (ints_dl ns)
theorem sql_untbl {K : PySem.W.Frag} {H : Hp} {a : Addr} {xs : List V} (h : SqL K H a xs) : SqL K (fun b => match H b with | some (.tbl _) => none | o => o) a xs := by
  rcases h with (h | ⟨o, h⟩) | h
  · exact .inl (.inl (by show (match H a with | some (.tbl _) => none | o => o) = _; rw [h]))
  · exact .inl (.inr ⟨o, by show (match H a with | some (.tbl _) => none | o => o) = _; rw [h]⟩)
  · exact .inr h
theorem Wd.first {H : Hp} {c : Cup} : Wd none c (fun b => match H b with | some (.tbl _) => none | o => o) H := by
  refine ⟨⟨fun b u e => ?_, fun b ps e => ?_⟩, fun _ z => nomatch z⟩
  · split at e
    · cases e
    · exact e
  · split at e
    · cases e
    · rename_i h
      exact h ps e
theorem law_ok {P : Program} {w : World} {K : PySem.W.Frag} {mg : Str → Option Value} {base : Heap} {st : Stmt} {N : List Str} {k n : Nat} {f : Addr} {fd : FuncData} {x s0 : Str} {b : D → M (Fl Unit Unit)} {ρb ρg : Unit → List Sl} (F : Fun K x x st f fd) (S : FnScope N [s0] (defScope st))
    (hbody : ∀ (cdv : Value) (A : Around) (outer : List Env) (s : Shared) (H : Hp) (Ex : XK), Room k (A.deeper (envOfC x (defScope st) s.heap.objs.size f cdv)) → ∀ d : D,
      PSs (XD P w K mg base N x st f cdv A outer s H Ex) (defBody st) (tB K none (EB mg Ex) (Sl.val d :: List.replicate (N.length - 1) Sl.un) ρb ρg (b d)))
    (law : ∀ ns : List Int, ns.length ≤ n → Wp (runF (b (.list (ns.map .int))) (0, 0)) (fun d _ => d = .bool true) (fun _ _ => False)) : FnOk P w K mg base (L2.CX P w) (k + 1) f fd [s0] (spL K n) := by
  refine F.okX S (fun vs H Q E h => ?_) (fun cdv A outer s H vs Q Ex hr h => ?_)
  · obtain ⟨a, ns, rfl, _⟩ := h
    rfl
  · obtain ⟨a, ns, rfl, hS, hn, q⟩ := h
    have p : DpAll K (fun b => match H b with | some (.tbl _) => none | o => o) [.ref a] [.list (ns.map .int)] := .cons (.lst (sql_untbl hS) (ints_dl ns)) .nil
    refine ⟨_, hbody cdv A outer s H Ex hr (.list (ns.map .int)), (0, 0), _, _, H, start_slots Wd.first p, ?_⟩
    have l := law ns hn
    unfold runF at l
    rw [Wp_bind] at l
    refine l.mono (fun o c' l => ?_) fun _ _ z => z.elim
    cases o with
    | nx b => cases l
    | rt d =>
      intro v F1 H1 w1 x1 pd
      have l' : d = .bool true := l
      subst l'
      cases pd
      exact q H1
    | bk g => exact l.elim
    | ct g => exact l.elim
end
end Mir

set_option maxRecDepth 100000
/-! MirC9: the def that makes the cup; own lists asked on the way; the end. -/
namespace Mir
open PySem PySem.Spec PyProof.Rows L2
def tN (K : PySem.W.Frag) (ρ : List Sl) (m : M (List D)) : TS := fun D σ H => ∃ c F F0 B, Now K none F0 B c F H ρ σ ∧
  Wp (m c) (fun ds c' => ∀ p vs F' H', Ext none F0 B F' H' → Wd none c' F' H' → B p = none → F' p = none → H' p = some (.lst vs) → DpAll K F' vs ds → D.rt (.ref p) H') (fun _ _ => False)
section
variable {X : Cx} {ρ : List Sl} {pos p : Pos} {e : Expr} {me : M D} {mo : M (List D)} {rest : List Stmt} {i k j : Nat} {x : Str}
theorem n_set {mr : D → M (List D)} {pos' : Pos} (hN : X.N.Nodup) (hi : X.N[i]? = some x) (hx : Loc X.env.scope x) (he : PE X e (tM X.K none EN ρ me)) (hr : ∀ d, PSs X rest (tN X.K (ρ.set i (.val d)) (mr d)))
    (hs : swapsWith e (some (.Name x pos')) pos.line X.env = pure false := by rfl) (hf : X.fn x = true ∨ X.env.scope.names.lookup x = some .local := by first | exact .inl rfl | exact .inr rfl | assumption) :
    PSs X (.Assign [.Name x pos'] e pos :: rest) (tN X.K ρ (me >>= mr)) :=
  PSs.imp' (pss_cons (u := fun D σ H => ∃ d, tN X.K (ρ.set i (.val d)) (mr d) D σ H) (ps_set hN hi hx he hs hf) ⟨fun pins s σ H D I ⟨d, q⟩ => (hr d).run pins s σ H D I q⟩) fun D σ H ⟨c, F, F0, B, n, h⟩ =>
    ⟨c, F, B, n.w, n.s, (Wp_bind.mp h).mono (fun d c' q v F' H' e w' r => ⟨d, c', F', F0, B, (n.ext e w').set i r, q⟩) fun _ _ z => z.elim⟩
theorem n_ret (he : PE X e (tO X.K none EN ρ mo)) : PSs X (.Return (some e) pos :: rest) (tN X.K ρ mo) :=
  PSs.imp' (pss_cons (ps_ret he) pss_never) fun D σ H ⟨c, F, F0, B, n, h⟩ => ⟨c, F, B, n.w, n.s, h.mono (fun ds c' q p vs F' H' e w' hp fp hp' dl => q p vs F' H' (n.x.trans e) w' (n.x.d p hp) fp hp' dl) fun _ _ z => z.elim⟩
end
theorem cl_new {P : Program} {w : World} {K : PySem.W.Frag} {mg : Str → Option Value} {base : Heap} {x s0 : Str} {st : Stmt} {N : List Str} {k : Nat} {m : List D → M (List D)} {b : D → M (List D)} (Df : Df K mg x st [s0]) (S : FnScope N [s0] (defScope st)) (hm : ∀ d, m [d] = b d)
    (hbody : ∀ (f : Addr) (cdv : Value) (A : Around) (outer : List Env) (s : Shared) (H : Hp) (Ex : XK), Room k (A.deeper (envOfC x (defScope st) s.heap.objs.size f cdv)) → ∀ d : D,
      PSs (XD P w K mg base N x st f cdv A outer s H Ex) (defBody st) (tN K (Sl.val d :: List.replicate (N.length - 1) Sl.un) (b d))) : Cl P w K mg base (k + 1) x (spN K m) := by
  obtain ⟨f, fd, F, hmf, kp, bd⟩ := Df.ex
  refine ⟨f, fd, [s0], F.okX S (fun vs H Q E h => h.1) (fun cdv A outer s H vs Q Ex hr h => ?_), hmf, kp, bd⟩
  obtain ⟨hl, c, F', ds, w', p, q⟩ := h
  match vs, ds, hl, p, q with
  | [v], [d], _, p, q =>
    rw [hm] at q
    exact ⟨_, hbody f cdv A outer s H Ex hr d, c, F', F', H, start_slots w' p, q.mono (fun ds c' q p vs F' H' e w' hp fp hp' dl => q p vs F' H' e w' hp fp hp' dl) fun _ _ z => z.elim⟩
  | [v], [], _, p, _ => cases p
  | [v], _ :: _ :: _, _, p, _ =>
    cases p with
    | cons _ p => cases p
/-- flat: no reference -/
def flatO : D → Option D
  | .none => some .none
  | .bool b => some (.bool b)
  | .int i => some (.int i)
  | .str x => some (.str x)
  | _ => none
section
variable {X : Cx} {A : Option Addr} {E : Exc → L2.St → Hp → Prop} {ρ ρ' : List Sl} {pos p : Pos} {e : Expr} {me : M D} {mt : M Bool} {i k j : Nat} {x : Str} {xs : List D}
theorem borrow {B F H : Hp} {σ : L2.St} {c : Cup} (w : Wd A c F H) (s : Slots X.K A B F H ρ σ) (hi : ρ[i]? = some (.own xs)) : ∃ F2, Same F F2 ∧ Wd A c F2 H ∧ Slots X.K A B F2 H (ρ.set i (.val (.list xs))) σ ∧
    ∀ F' H' c', Ext A F2 H F' H' → Wd A c' F' H' → Ext A F H F H' ∧ Wd A c' F H' := by
  obtain ⟨p, vs, e1, e2, e3, e4, e5, e6⟩ := s.own hi
  have hF : Same F (upd F p (.lst vs)) := fun b u q => by rw [upd_ne (ne_of_none q e3)]; exact q
  refine ⟨upd F p (.lst vs), hF, w.freeze e3 e4 e5 (fun ps z => nomatch z), ⟨by simp [s.len], fun j sl o h1 h2 => ?_, fun j l xs ys q h1 h2 h3 h4 => ?_⟩, fun F' H' c' x w' => ⟨⟨Same.refl F, x.h, fun _ _ q => .inl q, x.d⟩, ⟨fun b u q => w'.frz.sub b u (x.f b u (hF b u q)), w.frz.nt⟩, fun a ha => ⟨(w.cup a ha).1, (w'.cup a ha).2⟩⟩⟩
  · rcases set_get h1 with ⟨e, rfl⟩ | ⟨e, h1⟩
    · subst e
      rw [e1] at h2
      cases h2
      exact ⟨_, rfl, .lst (.inl (.inl upd_same)) (DpAll.sameM hF _ _ e6)⟩
    · have q := s.at_ j sl o h1 h2
      cases sl with
      | un => trivial
      | val d => obtain ⟨v, f1, f2⟩ := q; exact ⟨v, f1, Dp.sameM hF d v f2⟩
      | own zs =>
        obtain ⟨r, ws, f1, f2, f3, f4, f5, f6⟩ := q
        have ne : r ≠ p := fun z => by
          subst z
          rw [f1] at h2
          exact e (s.apart i j xs zs r hi h1 e1 h2)
        exact ⟨r, ws, f1, f2, by rw [upd_ne ne]; exact f3, f4, f5, DpAll.sameM hF _ _ f6⟩
      | cup => exact q
      | kn φ => obtain ⟨v, f1, f2⟩ := q; exact ⟨v, f1, fun F2 q => f2 F2 (Same.trans hF q)⟩
  · rcases set_get h1 with ⟨_, z⟩ | ⟨_, h1⟩
    · cases z
    · rcases set_get h2 with ⟨_, z⟩ | ⟨_, h2⟩
      · cases z
      · exact s.apart j l xs ys q h1 h2 h3 h4
/-- an own list is asked as data, the answer is flat -/
theorem ev_bor (hi : ρ[i]? = some (.own xs)) (h : PE X e (tM X.K A EN (ρ.set i (.val (.list xs))) me)) : PE X e (tM X.K A EN ρ (me >>= fun d => lft (flatO d))) :=
  h.impM fun σ H Q ⟨c, F, B, w, s, q⟩ => by
    obtain ⟨F2, sm, w2, s2, back⟩ := borrow w s hi
    refine ⟨c, F2, B, w2, s2, (Wp_bind.mp q).mono (fun d c' q v F' H' x w' r => ?_) fun _ _ z F' H' x w' => z F H' (back F' H' _ x w').1 (back F' H' _ x w').2⟩
    obtain ⟨r', er, q⟩ := Wp_lft q
    obtain ⟨x3, w3⟩ := back F' H' c' x w'
    unfold flatO at er
    split at er
    · cases er; cases r; exact q _ F H' x3 w3 .non
    · cases er; cases r; exact q _ F H' x3 w3 (.bl _)
    · cases er; cases r; exact q _ F H' x3 w3 (.int _)
    · cases er; cases r; exact q _ F H' x3 w3 (.str _)
    · cases er
theorem et_bor (hi : ρ[i]? = some (.own xs)) (h : PT X e (tT X.K A EN (ρ.set i (.val (.list xs))) mt)) : PT X e (tT X.K A EN ρ mt) :=
  h.impM fun σ H Q ⟨c, F, B, w, s, q⟩ => by
    obtain ⟨F2, sm, w2, s2, back⟩ := borrow w s hi
    refine ⟨c, F2, B, w2, s2, q.mono (fun d c' q v F' H' x w' r => q v F H' (back F' H' _ x w').1 (back F' H' _ x w').2 r) fun _ _ z F' H' x w' => z F H' (back F' H' _ x w').1 (back F' H' _ x w').2⟩
end
/-- nothing is let out of the law -/
theorem cx_no (P : Program) (w : World) (H : Hp) (s : Shared) (e : Value) (s' : Shared) (h : L2.CX P w [] H s (fun _ _ _ => False) e s') : False := by
  unfold L2.CX at h
  obtain ⟨a, B, H', cls, d, h⟩ := h
  simp only [and_false] at h
end Mir

set_option maxRecDepth 100000
/-! MirD1: the rules in short, for printed walks. -/
namespace Mir
open PySem PySem.Spec PyProof.Rows L2
def arg0 (f : M D) : List D → M D
  | [] => f
  | _ => bad
def blkC (N : List Str) (sc scope : Scope) (own : List (Str × Nat)) : Bool :=
  decide (scope.kind = .function) && scope.names.all (fun y => decide (scope.names.lookup y.1 = some y.2)) && own.all (fun p => decide (N[p.2]? = some p.1)) &&
  scope.names.all (fun y => !decide (y.2 = .free) || (decide (sc.names.lookup y.1 = some .cell) || decide (sc.names.lookup y.1 = some .free))) &&
  scope.names.all (fun y => !(decide (y.2 = .local) || decide (y.2 = .cell)) || ((own.map (·.1)).contains y.1 || !N.contains y.1))
theorem blkOk {N : List Str} {sc scope : Scope} {own : List (Str × Nat)} (h : blkC N sc scope own = true) : BlkOk N sc scope own := by
  unfold blkC at h
  simp only [Bool.and_eq_true, decide_eq_true_eq, List.all_eq_true, Bool.or_eq_true, Bool.not_eq_true', Bool.or_eq_false_iff, decide_eq_false_iff_not, List.contains_iff_mem] at h
  obtain ⟨⟨⟨⟨h1, h2⟩, h3⟩, h4⟩, h5⟩ := h
  refine ⟨h1, h2, h3, fun y hy e => ?_, fun y hy e => ?_⟩
  · exact (h4 y hy).resolve_left fun z => z e
  · rcases h5 y hy with z | z | z
    · rcases e with e | e
      · exact absurd e z.1
      · exact absurd e z.2
    · exact .inl z
    · refine .inr fun m => ?_
      have q : N.contains y.1 = true := List.contains_iff_mem.mpr m
      rw [q] at z
      cases z
section
variable {X : Cx} {A : Option Addr} {E : Exc → L2.St → Hp → Prop} {ρ ρ' : List Sl} {β γ : Type} {ρb : β → List Sl} {ρg : γ → List Sl} {pos p : Pos} {e e1 e2 e3 e4 e5 : Expr} {es : List Expr} {ms : List (M D)} {me m1 m2 m3 m4 m5 : M D} {mt : M Bool} {rest : List Stmt} {i k j : Nat} {x : Str}
theorem vv (i : Nat) {d : D} (hρ : ρ[i]? = some (.val d) := by rfl) (hN : X.N[i]? = some x := by rfl) (hv : Vis X.env.scope x := by first | exact Or.inl rfl | exact Or.inr (Or.inl rfl) | exact Or.inr (Or.inr rfl)) (hd : (x == ("__debug__" : Str)) = false := by decide)
    (hcd : (x == ("__classdict__" : Str)) = false := by decide) : PE X (.Name x pos) (tM X.K A E ρ (pure d)) := ev_var hρ (pe_var hN hv hd hcd)
variable {f1 : D → M D} {f2 : D → D → M D} {f3 : D → D → D → M D} {f4 : D → D → D → D → M D} {f5 : D → D → D → D → D → M D}
theorem ec1 (c : Cl X.prog X.w X.K X.mg X.base k x (spD X.K X.mg 1 (arg1 f1))) (hw : Wsh X E) (hr : Room j X.A) (h1 : PE X e1 (tM X.K A E ρ m1)) (hk : k ≤ j := by first | decide | omega) (hg : Gl X x := by rfl) (hdb : (x == ("__debug__" : Str)) = false := by decide)
    (he : starEach [e1] X.env = (false, eval e1 X.env) :: starEach [] X.env := by rfl) : PE X (.Call (.Name x p) [e1] [] pos) (tM X.K A E ρ (m1 >>= f1)) := by
  rw [← seq1]
  exact ev_fn (ms := [m1]) c hw hr hk hg (ea_cons h1 ea_nil he) hdb he rfl
theorem ec2 (c : Cl X.prog X.w X.K X.mg X.base k x (spD X.K X.mg 2 (arg2 f2))) (hw : Wsh X E) (hr : Room j X.A) (h1 : PE X e1 (tM X.K A E ρ m1)) (h2 : PE X e2 (tM X.K A E ρ m2)) (hk : k ≤ j := by first | decide | omega) (hg : Gl X x := by rfl) (hdb : (x == ("__debug__" : Str)) = false := by decide)
    (he : starEach [e1, e2] X.env = (false, eval e1 X.env) :: starEach [e2] X.env := by rfl) (he2 : starEach [e2] X.env = (false, eval e2 X.env) :: starEach [] X.env := by rfl) (hpl : (backTo pos (starEach [e2] X.env)).any (·.1) = false := by rfl) : PE X (.Call (.Name x p) [e1, e2] [] pos) (tM X.K A E ρ (m1 >>= fun a => m2 >>= fun b => f2 a b)) := by
  rw [← seq2]
  exact ev_fn (ms := [m1, m2]) c hw hr hk hg (ea_cons h1 (ea_cons h2 ea_nil he2) he) hdb he hpl
theorem ec3 (c : Cl X.prog X.w X.K X.mg X.base k x (spD X.K X.mg 3 (arg3 f3))) (hw : Wsh X E) (hr : Room j X.A) (h1 : PE X e1 (tM X.K A E ρ m1)) (h2 : PE X e2 (tM X.K A E ρ m2)) (h3 : PE X e3 (tM X.K A E ρ m3)) (hk : k ≤ j := by first | decide | omega) (hg : Gl X x := by rfl) (hdb : (x == ("__debug__" : Str)) = false := by decide)
    (he : starEach [e1, e2, e3] X.env = (false, eval e1 X.env) :: starEach [e2, e3] X.env := by rfl) (he2 : starEach [e2, e3] X.env = (false, eval e2 X.env) :: starEach [e3] X.env := by rfl) (he3 : starEach [e3] X.env = (false, eval e3 X.env) :: starEach [] X.env := by rfl) (hpl : (backTo pos (starEach [e2, e3] X.env)).any (·.1) = false := by rfl) :
    PE X (.Call (.Name x p) [e1, e2, e3] [] pos) (tM X.K A E ρ (m1 >>= fun a => m2 >>= fun b => m3 >>= fun c => f3 a b c)) := by
  rw [← seq3]
  exact ev_fn (ms := [m1, m2, m3]) c hw hr hk hg (ea_cons h1 (ea_cons h2 (ea_cons h3 ea_nil he3) he2) he) hdb he hpl
theorem ec4 (c : Cl X.prog X.w X.K X.mg X.base k x (spD X.K X.mg 4 (arg4 f4))) (hw : Wsh X E) (hr : Room j X.A) (h1 : PE X e1 (tM X.K A E ρ m1)) (h2 : PE X e2 (tM X.K A E ρ m2)) (h3 : PE X e3 (tM X.K A E ρ m3)) (h4 : PE X e4 (tM X.K A E ρ m4)) (hk : k ≤ j := by first | decide | omega) (hg : Gl X x := by rfl) (hdb : (x == ("__debug__" : Str)) = false := by decide)
    (he : starEach [e1, e2, e3, e4] X.env = (false, eval e1 X.env) :: starEach [e2, e3, e4] X.env := by rfl) (he2 : starEach [e2, e3, e4] X.env = (false, eval e2 X.env) :: starEach [e3, e4] X.env := by rfl) (he3 : starEach [e3, e4] X.env = (false, eval e3 X.env) :: starEach [e4] X.env := by rfl) (he4 : starEach [e4] X.env = (false, eval e4 X.env) :: starEach [] X.env := by rfl)
    (hpl : (backTo pos (starEach [e2, e3, e4] X.env)).any (·.1) = false := by rfl) :
    PE X (.Call (.Name x p) [e1, e2, e3, e4] [] pos) (tM X.K A E ρ (m1 >>= fun a => m2 >>= fun b => m3 >>= fun c => m4 >>= fun d => f4 a b c d)) := by
  rw [← seq4]
  exact ev_fn (ms := [m1, m2, m3, m4]) c hw hr hk hg (ea_cons h1 (ea_cons h2 (ea_cons h3 (ea_cons h4 ea_nil he4) he3) he2) he) hdb he hpl
theorem seq0 {f : M D} : seqM [] >>= arg0 f = f := by simp [seqM, arg0]
variable {nc : Str} {pc : Pos}
/-- f(cup, ..) -/
theorem cc0 {f0 : M D} (i : Nat) (c : Cl X.prog X.w X.K X.mg X.base k x (spC X.K X.mg 0 (arg0 f0))) (hw : Wsh X E) (hr : Room j X.A) (hi : ρ[i]? = some .cup := by rfl) (hN : X.N[i]? = some nc := by rfl) (hv : Vis X.env.scope nc := by first | exact Or.inl rfl | exact Or.inr (Or.inl rfl) | exact Or.inr (Or.inr rfl))
    (hk : k ≤ j := by first | decide | omega) (hg : Gl X x := by rfl) (hdb : (x == ("__debug__" : Str)) = false := by decide) (hd : (nc == ("__debug__" : Str)) = false := by decide) (hcd : (nc == ("__classdict__" : Str)) = false := by decide) (he : starEach [.Name nc pc] X.env = (false, eval (.Name nc pc) X.env) :: starEach [] X.env := by rfl) :
    PE X (.Call (.Name x p) [.Name nc pc] [] pos) (tM X.K A E ρ f0) := by
  rw [← seq0 (f := f0)]
  exact ev_fnC (ms := []) c hw hr hk hg hi (pe_var hN hv hd hcd) ea_nil hdb he rfl
theorem cc1 (i : Nat) (c : Cl X.prog X.w X.K X.mg X.base k x (spC X.K X.mg 1 (arg1 f1))) (hw : Wsh X E) (hr : Room j X.A) (h1 : PE X e1 (tM X.K A E ρ m1)) (hi : ρ[i]? = some .cup := by rfl) (hN : X.N[i]? = some nc := by rfl) (hv : Vis X.env.scope nc := by first | exact Or.inl rfl | exact Or.inr (Or.inl rfl) | exact Or.inr (Or.inr rfl))
    (hk : k ≤ j := by first | decide | omega) (hg : Gl X x := by rfl) (hdb : (x == ("__debug__" : Str)) = false := by decide) (hd : (nc == ("__debug__" : Str)) = false := by decide) (hcd : (nc == ("__classdict__" : Str)) = false := by decide) (he : starEach [.Name nc pc, e1] X.env = (false, eval (.Name nc pc) X.env) :: starEach [e1] X.env := by rfl)
    (he1 : starEach [e1] X.env = (false, eval e1 X.env) :: starEach [] X.env := by rfl) (hpl : (backTo pos (starEach [e1] X.env)).any (·.1) = false := by rfl) : PE X (.Call (.Name x p) [.Name nc pc, e1] [] pos) (tM X.K A E ρ (m1 >>= f1)) := by
  rw [← seq1]
  exact ev_fnC (ms := [m1]) c hw hr hk hg hi (pe_var hN hv hd hcd) (ea_cons h1 ea_nil he1) hdb he hpl
theorem cc2 (i : Nat) (c : Cl X.prog X.w X.K X.mg X.base k x (spC X.K X.mg 2 (arg2 f2))) (hw : Wsh X E) (hr : Room j X.A) (h1 : PE X e1 (tM X.K A E ρ m1)) (h2 : PE X e2 (tM X.K A E ρ m2)) (hi : ρ[i]? = some .cup := by rfl) (hN : X.N[i]? = some nc := by rfl) (hv : Vis X.env.scope nc := by first | exact Or.inl rfl | exact Or.inr (Or.inl rfl) | exact Or.inr (Or.inr rfl))
    (hk : k ≤ j := by first | decide | omega) (hg : Gl X x := by rfl) (hdb : (x == ("__debug__" : Str)) = false := by decide) (hd : (nc == ("__debug__" : Str)) = false := by decide) (hcd : (nc == ("__classdict__" : Str)) = false := by decide) (he : starEach [.Name nc pc, e1, e2] X.env = (false, eval (.Name nc pc) X.env) :: starEach [e1, e2] X.env := by rfl)
    (he1 : starEach [e1, e2] X.env = (false, eval e1 X.env) :: starEach [e2] X.env := by rfl) (he2 : starEach [e2] X.env = (false, eval e2 X.env) :: starEach [] X.env := by rfl) (hpl : (backTo pos (starEach [e1, e2] X.env)).any (·.1) = false := by rfl) :
    PE X (.Call (.Name x p) [.Name nc pc, e1, e2] [] pos) (tM X.K A E ρ (m1 >>= fun a => m2 >>= fun b => f2 a b)) := by
  rw [← seq2]
  exact ev_fnC (ms := [m1, m2]) c hw hr hk hg hi (pe_var hN hv hd hcd) (ea_cons h1 (ea_cons h2 ea_nil he2) he1) hdb he hpl
theorem cc3 (i : Nat) (c : Cl X.prog X.w X.K X.mg X.base k x (spC X.K X.mg 3 (arg3 f3))) (hw : Wsh X E) (hr : Room j X.A) (h1 : PE X e1 (tM X.K A E ρ m1)) (h2 : PE X e2 (tM X.K A E ρ m2)) (h3 : PE X e3 (tM X.K A E ρ m3)) (hi : ρ[i]? = some .cup := by rfl) (hN : X.N[i]? = some nc := by rfl) (hv : Vis X.env.scope nc := by first | exact Or.inl rfl | exact Or.inr (Or.inl rfl) | exact Or.inr (Or.inr rfl))
    (hk : k ≤ j := by first | decide | omega) (hg : Gl X x := by rfl) (hdb : (x == ("__debug__" : Str)) = false := by decide) (hd : (nc == ("__debug__" : Str)) = false := by decide) (hcd : (nc == ("__classdict__" : Str)) = false := by decide) (he : starEach [.Name nc pc, e1, e2, e3] X.env = (false, eval (.Name nc pc) X.env) :: starEach [e1, e2, e3] X.env := by rfl)
    (he1 : starEach [e1, e2, e3] X.env = (false, eval e1 X.env) :: starEach [e2, e3] X.env := by rfl) (he2 : starEach [e2, e3] X.env = (false, eval e2 X.env) :: starEach [e3] X.env := by rfl) (he3 : starEach [e3] X.env = (false, eval e3 X.env) :: starEach [] X.env := by rfl) (hpl : (backTo pos (starEach [e1, e2, e3] X.env)).any (·.1) = false := by rfl) :
    PE X (.Call (.Name x p) [.Name nc pc, e1, e2, e3] [] pos) (tM X.K A E ρ (m1 >>= fun a => m2 >>= fun b => m3 >>= fun c => f3 a b c)) := by
  rw [← seq3]
  exact ev_fnC (ms := [m1, m2, m3]) c hw hr hk hg hi (pe_var hN hv hd hcd) (ea_cons h1 (ea_cons h2 (ea_cons h3 ea_nil he3) he2) he1) hdb he hpl
theorem wp_of_nex {α : Type} {m : M α} {c : Cup} {Q : α → Cup → Prop} {Em E' : Exc → Cup → Prop} (h : Wp (nex m c) Q Em) : Wp (m c) Q E' := Wp_nex h
/-- what raises nothing, anywhere -/
theorem ev_nex (h : PE X e (tM X.K A EN ρ me)) : PE X e (tM X.K A E ρ (nex me)) := h.impM fun σ H Q ⟨c, F, B, w, s, q⟩ => ⟨c, F, B, w, s, (Wp_nex (E' := fun _ _ => False) q).mono (fun _ _ q => q) fun _ _ z => z.elim⟩
theorem et_nex (h : PT X e (tT X.K A EN ρ mt)) : PT X e (tT X.K A E ρ (nex mt)) := h.impM fun σ H Q ⟨c, F, B, w, s, q⟩ => ⟨c, F, B, w, s, (Wp_nex (E' := fun _ _ => False) q).mono (fun _ _ q => q) fun _ _ z => z.elim⟩
end
end Mir

set_option maxRecDepth 100000
/-! MirD2: x[::-1]. -/
namespace Mir
open PySem PySem.Spec PyProof.Rows L2
def strRev (z : Str) : Str := ⟨z.cps.toList.reverse.toArray⟩
def dRev : D → Option D
  | .str z => if z.length ≤ lim then some (.str (strRev z)) else none
  | .list xs => some (.list xs.reverse)
  | .tuple xs => some (.tuple xs.reverse)
  | _ => none
theorem rev_eq (z : Str) (u : Tok) : Txt.sliceBy z none none (-1, u) = strRev z := by
  have h := PyProof.Rows.step_rev_list z u
  have e : ∀ a b : Str, a.cps.toList = b.cps.toList → a = b := fun a b h => by
    cases a with
    | mk a =>
      cases b with
      | mk b =>
        have h' : a.toList = b.toList := h
        have : a = b := Array.toList_inj.mp h'
        rw [this]
  refine e _ _ (h.trans ?_)
  show _ = z.cps.toList.reverse
  apply List.ext_getElem
  · simp [Str.length]
  · intro i h1 h2
    have hz : z.length = z.cps.size := rfl
    have hi : i < z.cps.size := by simpa using h2
    rw [List.getElem_map, List.getElem_range, List.getElem_reverse, Array.getElem_toList, Array.getD_eq_getD_getElem?, hz, Array.getElem?_eq_getElem (by omega)]
    simp only [Option.getD_some, Array.length_toList]
theorem dl_rev {K : PySem.W.Frag} {F : Hp} : ∀ {vs : List V} {ds : List D}, DpAll K F vs ds → DpAll K F vs.reverse ds.reverse
  | _, _, .nil => .nil
  | _, _, .cons h t => by
    rw [List.reverse_cons, List.reverse_cons]
    exact (dl_rev t).appM (.cons h .nil)
section
variable {X : Cx} {A : Option Addr} {E : Exc → L2.St → Hp → Prop} {ρ : List Sl} {pos : Pos} {e : Expr} {me : M D}
/-! the items of a tuple backward -/
theorem back_part (n : Nat) : Builtin.Slice.sliceAdjust none none (-1) (n : Int) = ((n : Int) - 1, -1) := rfl
theorem back_many (n : Nat) : Builtin.Slice.slicePlaces ((n : Int) - 1) (-1) (-1) = n := by
  unfold Builtin.Slice.slicePlaces
  rw [if_neg (show ¬ ((-1 : Int) > 0) by decide)]
  by_cases h : (n : Int) - 1 > -1
  · rw [if_pos h, show (-(-1) : Int) = 1 from rfl, Int.ediv_one]
    omega
  · rw [if_neg h]
    show (0 : Int).toNat = n
    omega
theorem back_pick (xs : Array Value) : ((List.range xs.size).filterMap fun (k : Nat) => xs[(((xs.size : Int) - 1) + (k : Int) * (-1)).toNat]?).toArray = xs.toList.reverse.toArray := by
  congr 1
  have e1 : ((List.range xs.size).filterMap fun (k : Nat) => xs[(((xs.size : Int) - 1) + (k : Int) * (-1)).toNat]?) = ((List.range xs.size).map fun k => xs.size - 1 - k).filterMap fun j => xs[j]? := by
    rw [List.filterMap_map]
    congr 1
    funext k
    show xs[(((xs.size : Int) - 1) + (k : Int) * (-1)).toNat]? = xs[xs.size - 1 - k]?
    congr 1
    omega
  rw [e1, PySem.W.krv_range, List.filterMap_reverse, PySem.W.krv_all]
theorem back_slice {prog : Program} {w : World} {A : Around} {E : Value → Shared → Prop} {s : Shared} {sl : Addr} {t1 : Tok} {n : Nat} {Q : Int × Int × Nat → Shared → Prop} (hs : s.heap.IsSliceOf sl .none .none (.int (-1) t1)) (h : Q ((n : Int) - 1, -1, n) s) :
    wpAny (model prog w) A (Builtin.Slice.sliceApplied (.ref sl) (pure (n : Int))) Q E s := by
  obtain ⟨ob, h1, h2, h3⟩ := hs
  unfold Builtin.Slice.sliceApplied Builtin.Slice.sliceFields
  refine wpAny_bind (wpAny_bind (wpAny_field h1 h3 (x := Value.none) rfl (wpAny_bind (wpAny_field h1 h3 (x := Value.none) rfl (wpAny_bind (wpAny_field h1 h3 (x := .int (-1) t1) rfl (wpAny_pure ?_)))))))
  refine wpAny_bind (HT.slicePart_ (.int (-1) t1) ?_)
  show wpAny (model prog w) A (if ((-1 : Int) == 0) = true then _ else _) Q E s
  rw [if_neg (show ¬ (((-1 : Int) == 0) = true) by decide)]
  refine wpAny_bind (HT.slicePart_ .none (wpAny_bind (HT.slicePart_ .none (wpAny_bind (wpAny_pure ?_)))))
  show wpAny (model prog w) A (pure (((n : Int) - 1), (-1 : Int), Builtin.Slice.slicePlaces ((n : Int) - 1) (-1) (-1))) Q E s
  rw [back_many]
  exact wpAny_pure h
theorem getItem_back {prog : Program} {w : World} {A : Around} {E : Value → Shared → Prop} {s : Shared} {tp sl : Addr} {xs : Array Value} {t1 : Tok} {Q : Value → Shared → Prop} (ht : IsTup s.heap tp xs) (hs : s.heap.IsSliceOf sl .none .none (.int (-1) t1)) (hz : xs.size ≤ sizeLine)
    (h : Q (.ref s.heap.objs.size) { s with heap := s.heap.push { cls := .type "tuple", data := .seq xs.toList.reverse.toArray } }) : wpAny (model prog w) A (getItem (.ref tp) (.ref sl)) Q E s := by
  have fit : sizeOk (.seq xs.toList.reverse.toArray) := by
    show xs.toList.reverse.toArray.size ≤ sizeLine
    rw [List.size_toArray, List.length_reverse, Array.length_toList]
    exact hz
  have hTs : s.TypeIs (.ref sl) "slice" := by obtain ⟨ob, h1, h2, _⟩ := id hs; exact ⟨ob, h1, h2⟩
  unfold getItem
  (try with_reducible refine wpAny_holding ?_); (first | refine wpAny_bind (wpAny_pure ?_) | skip)
  refine wpAny_bind (wpAny_sequenceKey ht.typeIs (by decide) ?_); refine wpAny_bind (wpAny_callSpecial?_slot (name := Str.ofString "__getitem__") ht.typeIs PyProof.Rows.slot_tuple_getitem (wpAny_call_entry PyProof.Rows.slot_tuple_getitem ht.typeIs entry_tuple_getitem ?_ (args_tuple_getitem _ _)))
  show wpAny (model prog w) _ (Builtin.Tuple.tupleItemsOf (.ref tp) >>= _) _ _ s
  refine wpAny_bind (tupleItemsOf_ ht (wpAny_bind (wpAny_typeOf hTs ?_))); rw [if_pos (by decide)]
  refine wpAny_bind (back_slice hs ?_)
  show wpAny (model prog w) _ (if ((((xs.size : Int) - 1) == 0 && (-1 : Int) == 1 && xs.size == xs.size) = true) then _ else _) _ _ s
  rw [if_neg (by simp), back_pick]
  first
    | exact wpAny_bind (wpAny_bind (m := Builtin.Tuple.tupleExact _) (wpAny_newObj_type (wpAny_pure (wpAny_pure ⟨_, rfl, wpAny_pure h⟩)) fit))
    | exact wpAny_bind (wpAny_bind (m := Builtin.Tuple.tupleExact _) (wpAny_newObj_type (wpAny_pure ⟨_, rfl, wpAny_pure h⟩) fit))
    | exact wpAny_bind (m := Builtin.Tuple.tupleExact _) (wpAny_newObj_type (wpAny_pure ⟨_, rfl, wpAny_pure h⟩) fit)
    | exact wpAny_bind (m := Builtin.Tuple.tupleExact _) (wpAny_newObj_type (wpAny_bind (wpAny_pure (wpAny_pure ⟨_, rfl, wpAny_pure h⟩))) fit)
theorem pe_revD {te : TE} {k : Nat} {p1 p2 p3 pos : Pos} (he : PE X e te) : PE X (.Subscript e (.Slice none none (some (.UnaryOp .USub (.Constant (.int 1) k p1) p2)) p3) pos) (fun σ H Q => te σ H fun x H1 => (∃ z, x = .str z ∧ z.length ≤ sizeLine ∧ Q (.str (strRev z)) H1) ∨ (∃ a xs, x = .ref a ∧ SqL X.K H1 a xs ∧ ∀ p, H1 p = none → Q (.ref p) (upd H1 p (.lst xs.reverse))) ∨ (∃ a xs, x = .ref a ∧ SqT X.K H1 a xs ∧ ∀ p, H1 p = none → Q (.ref p) (upd H1 p (.tup xs.reverse)))) := by
  refine ⟨fun pins s σ H Q I h => ?_⟩
  refine Subscript_ (thn (he.run pins s σ H _ I h) fun v s1 ⟨x, H1, I1, r1, q1⟩ => ?_)
  have hst : PO X (some (.UnaryOp .USub (.Constant (.int 1) k p1) p2)) (tPart (tUn (rU fun i => .int (-i)) (tC (.int 1)))) := po_some (pe_un un_neg pe_int)
  refine wpAny_Slice (thn (po_none.run pins s1 σ H1 (fun o H2 => o = none ∧ H2 = H1) I1 ⟨rfl, rfl⟩) fun vl s2 ⟨l, H2, I2, pl, el, e2⟩ => ?_)
  subst el e2
  refine thn (po_none.run pins s2 σ H2 (fun o H3 => o = none ∧ H3 = H2) I2 ⟨rfl, rfl⟩) fun vu s3 ⟨u, H3, I3, pu, eu, e3⟩ => ?_
  subst eu e3
  refine thn (hst.run pins s3 σ H3 (fun o H4 => o = some (-1) ∧ H4 = H3) I3 ⟨1, rfl, -1, rfl, rfl, rfl⟩) fun vs s4 ⟨o, H4, I4, ps, eo, e4⟩ => ?_
  subst eo e4
  have I5 : Inv X pins σ H4 { s4 with heap := s4.heap.push { cls := .type "slice", data := .fields #[vl, vu, vs] } } := I4.kept (t' := s4.toks) fun b ob q => Heap.get?_push_of_some _ q
  rcases q1 with ⟨z, rfl, hz, q⟩ | ⟨a, xs, ex, hx, q⟩ | ⟨a, xs, ex, hx, q⟩
  · obtain ⟨t, rfl⟩ := r1
    obtain ⟨l, rfl, el⟩ := IsPart.raw pl
    obtain ⟨u, rfl, eu⟩ := IsPart.raw pu
    obtain ⟨st, rfl, es⟩ := IsPart.raw ps
    have hl : l = none := by cases l with | none => rfl | some _ => cases el
    have hu : u = none := by cases u with | none => rfl | some _ => cases eu
    subst hl hu
    obtain ⟨uk, rfl⟩ : ∃ uk, st = some (-1, uk) := by
      cases st with
      | none => cases es
      | some y =>
        obtain ⟨y1, y2⟩ := y
        have : (-1 : Int) = y1 := Option.some.inj (show some (-1 : Int) = some y1 from by first | exact es | exact es.symm)
        have : y1 = -1 := by omega
        exact ⟨y2, by rw [this]⟩
    show wpAny (model X.prog X.w) X.A (subscriptTail e (.Slice none none (some (.UnaryOp .USub (.Constant (.int 1) k p1) p2)) p3) (.str z t) (.ref s4.heap.objs.size)) (EP X pins σ Q) X.xe _
    refine tail_any (ops := [.ref s4.heap.objs.size, .str z t]) (typeIs_str _ _ _) (F.slot_str_getitem.lookup) ?_ (by with_unfolding_all rfl)
    refine wpAny_getItem_str_slice (l := none) (u := none) (st := some (-1, uk)) ⟨_, Heap.get?_push_size _ rfl, rfl, rfl⟩ (show ((-1 : Int) == 0) = false from by decide) ?_
    refine post_val_or_str ⟨Nat.le_trans (Txt.sliceBy_le z _ _ (-1, uk) (show (-1 : Int) ≠ 0 from by decide)) hz, fun t' c => ?_⟩
    have er := rev_eq z uk
    unfold Txt.sliceBy at er
    rw [er]
    exact ⟨.str _, _, I5.tok _, ⟨_, rfl⟩, q⟩
  · subst ex
    cases r1
    obtain ⟨its, r, ht, hz⟩ := I5.list hx
    have hlen := r.length
    show wpAny (model X.prog X.w) X.A (subscriptTail e (.Slice none none (some (.UnaryOp .USub (.Constant (.int 1) k p1) p2)) p3) (.ref a) (.ref s4.heap.objs.size)) (EP X pins σ Q) X.xe { s4 with heap := s4.heap.push { cls := .type "slice", data := .fields #[vl, vu, vs] } }
    refine tail_any (ops := [.ref a, .ref s4.heap.objs.size]) ht.isList.typeIs (PySem.slot_list_getitem.lookup) ?_ (by with_unfolding_all rfl)
    refine wpAny_getItem_list_slice ht.isList (Heap.IsSliceOf.new _ vl vu vs) pl pu ps (by decide) ?_ (by rw [List.size_toArray]; omega)
    rw [PySem.W.krv_pick]
    refine ⟨.ref _, _, I5.laid (t' := s4.toks) (o := .lst xs.reverse) (fun b ob q => Heap.get?_push_of_some _ q) (Nat.le_refl _) ?_, rfl, q _ (I5.hok.fresh (Nat.le_refl _))⟩
    exact ⟨by rw [List.length_reverse]; exact hz, _, 0, r.reverse, Heap.get?_push_size _ rfl⟩
  · subst ex
    cases r1
    obtain ⟨its, r, ht, hz⟩ := I5.tuple hx
    have hlen := r.length
    cases pl
    cases pu
    cases ps with
    | int _ t1 =>
    show wpAny (model X.prog X.w) X.A (subscriptTail e (.Slice none none (some (.UnaryOp .USub (.Constant (.int 1) k p1) p2)) p3) (.ref a) (.ref s4.heap.objs.size)) (EP X pins σ Q) X.xe { s4 with heap := s4.heap.push { cls := .type "slice", data := .fields #[.none, .none, .int (-1) t1] } }
    refine tail_any (ops := [.ref a, .ref s4.heap.objs.size]) ht.typeIs (PyProof.Rows.slot_tuple_getitem.lookup) ?_ (by with_unfolding_all rfl)
    refine getItem_back ht (Heap.IsSliceOf.new _ .none .none (.int (-1) t1)) (by rw [List.size_toArray]; omega) ?_
    refine ⟨.ref _, _, I5.laid (t' := s4.toks) (o := .tup xs.reverse) (fun b ob q => Heap.get?_push_of_some _ q) (Nat.le_refl _) ⟨by rw [List.length_reverse]; exact hz, its.reverse, r.reverse, ?_⟩, rfl, q _ (I5.hok.fresh (Nat.le_refl _))⟩
    exact ⟨_, Heap.get?_push_size _ rfl, rfl, _, rfl⟩
theorem ev_rev {k : Nat} {p1 p2 p3 pos : Pos} (he : PE X e (tM X.K A E ρ me)) : PE X (.Subscript e (.Slice none none (some (.UnaryOp .USub (.Constant (.int 1) k p1) p2)) p3) pos) (tM X.K A E ρ (un1 dRev me)) :=
  (pe_revD he).impM fun σ H Q h => by
    obtain ⟨c, F, B, h⟩ := one_ok h
    refine ⟨c, F, B, h.mono fun x H1 ⟨F2, d, r, z, pd, er, q⟩ => ?_⟩
    unfold dRev at er
    split at er
    · split at er
      · rename_i hz
        cases er; cases pd
        exact .inl ⟨_, rfl, by rw [← lim_eq]; exact hz, q _ F2 H1 .refl z (.str _)⟩
      · cases er
    · cases er
      cases pd with
      | lst h1 p1 => exact .inr (.inl ⟨_, _, rfl, SqL.sameM z.sub h1, fun p hp => lst_new' z (dl_rev p1) q p hp⟩)
    · cases er
      cases pd with
      | tup h1 p1 => exact .inr (.inr ⟨_, _, rfl, SqT.sameM z.sub h1, fun p hp => tup_new z (dl_rev p1) q p hp⟩)
    · cases er
end
end Mir

set_option maxRecDepth 100000
/-! MirE1: a, b = .., .. with data and new lists, names local or captured. -/
namespace Mir
open PySem PySem.Spec PyProof.Rows L2
/-- what is stored: data, a new list -/
inductive It where
  | d (d : D)
  | o (xs : List D)
def slOf : It → Sl
  | .d d => .val d
  | .o xs => .own xs
/-- a value at hand; Hs: the heap at the start of the row of values -/
def Pend (K : PySem.W.Frag) (Hs F H : Hp) (v : V) : It → Prop
  | .d d => Dp K F v d
  | .o xs => ∃ p us, v = .ref p ∧ Hs p = none ∧ F p = none ∧ H p = some (.lst us) ∧ DpAll K F us xs
def tI1 (K : PySem.W.Frag) (A : Option Addr) (E : Exc → L2.St → Hp → Prop) (ρ : List Sl) {α : Type} (m : M α) (it : α → It) : TE := fun σ H Q => ∃ c F B, Wd A c F H ∧ Slots K A B F H ρ σ ∧
  Wp (m c) (fun a c' => ∀ v F' H', Ext A F H F' H' → Wd A c' F' H' → Pend K H F' H' v (it a) → Q v H') (fun e c' => ∀ F' H', Ext A F H F' H' → Wd A c' F' H' → E e σ H')
section
variable {K : PySem.W.Frag} {A : Option Addr} {F0 B F H F' H' Hs : Hp} {c c' : Cup} {ρ ρ' : List Sl} {σ : L2.St} {v w : V} {it jt : It}
theorem Pend.ext (p : Pend K Hs F H v it) (hA : ∀ a, A = some a → Hs a ≠ none) (e : Ext A F H F' H') : Pend K Hs F' H' v it := by
  cases it with
  | d d => exact Dp.sameM e.f d v p
  | o xs =>
    obtain ⟨q, us, e1, e2, e3, e4, e5⟩ := p
    refine ⟨q, us, e1, e2, ?_, e.h q _ e4 (fun z => hA q z e2) (fun ps z => nomatch z), DpAll.sameM e.f xs us e5⟩
    cases z : F' q with
    | none => rfl
    | some o =>
      rcases e.n q o z with h | h
      · rw [e3] at h; cases h
      · rw [e4] at h; cases h
theorem Pend.start {Hs' : Hp} (p : Pend K Hs F H v it) (h : ∀ a, Hs a = none → Hs' a = none) : Pend K Hs' F H v it := by
  cases it with
  | d d => exact p
  | o xs => obtain ⟨q, us, e1, e2, r⟩ := p; exact ⟨q, us, e1, h q e2, r⟩
/-- it is stored at i -/
theorem Now.put (n : Now K A F0 B c F H ρ σ) (i : Nat) (p : Pend K Hs F H v it) (hA : ∀ a, A = some a → Hs a ≠ none) (hB : ∀ a, Hs a = none → B a = none) (av : ∀ (j : Nat) ys q, j ≠ i → ρ[j]? = some (.own ys) → σ[j]? = some (some (.ref q)) → (∃ xs, it = .o xs) → v ≠ .ref q) :
    Now K A F0 B c F H (ρ.set i (slOf it)) (σ.set i (some v)) := by
  cases it with
  | d d => exact n.set i p
  | o xs =>
    obtain ⟨q, us, rfl, e2, e3, e4, e5⟩ := p
    refine ⟨n.w, n.x, by simp [n.s.len], fun j sl o h1 h2 => ?_, fun j l xs' ys' r h1 h2 h3 h4 => ?_⟩
    · rcases set_get h1 with ⟨e, rfl⟩ | ⟨e, h1⟩
      · subst e
        rcases set_get h2 with ⟨_, rfl⟩ | ⟨e, _⟩
        · exact ⟨q, us, rfl, hB q e2, e3, fun z => hA q z e2, e4, e5⟩
        · exact absurd rfl e
      · rcases set_get h2 with ⟨e', _⟩ | ⟨_, h2⟩
        · exact absurd e' e
        · exact n.s.at_ j sl o h1 h2
    · rcases set_get h1 with ⟨e1, _⟩ | ⟨n1, h1⟩
      · rcases set_get h2 with ⟨e2', _⟩ | ⟨n2, h2⟩
        · exact e1.symm.trans e2'
        · subst e1
          rcases set_get h3 with ⟨_, z⟩ | ⟨z, _⟩
          · cases z
            rw [List.getElem?_set_ne n2] at h4
            exact absurd rfl (av l _ q (Ne.symm n2) h2 h4 ⟨xs, rfl⟩)
          · exact absurd rfl z
      · rcases set_get h2 with ⟨e2', _⟩ | ⟨n2, h2⟩
        · subst e2'
          rcases set_get h4 with ⟨_, z⟩ | ⟨z, _⟩
          · cases z
            rw [List.getElem?_set_ne n1] at h3
            exact absurd rfl (av j _ q (Ne.symm n1) h1 h3 ⟨xs, rfl⟩)
          · exact absurd rfl z
        · rw [List.getElem?_set_ne n1] at h3
          rw [List.getElem?_set_ne n2] at h4
          exact n.s.apart j l xs' ys' r h1 h2 h3 h4
/-- what is new is in no slot -/
theorem fresh_out (s : Slots K A B F H ρ σ) (p : Pend K Hs F' H' v it) (e : ∀ a, Hs a = none → H a = none) : ∀ (j : Nat) ys q, ρ[j]? = some (.own ys) → σ[j]? = some (some (.ref q)) → (∃ xs, it = .o xs) → v ≠ .ref q := fun j ys q h1 h2 ⟨xs, hx⟩ z => by
  subst hx z
  obtain ⟨r, us, er, e2, _⟩ := p
  cases er
  obtain ⟨r, ws, f1, _, _, _, f5, _⟩ := s.at_ j _ _ h1 h2
  cases f1
  rw [e _ e2] at f5
  cases f5
theorem Wd.cupAt (w : Wd A c F H) : ∀ a, A = some a → H a ≠ none := fun a h z => by rw [(w.cup a h).2] at z; cases z
end
section
variable {X : Cx} {A : Option Addr} {E : Exc → L2.St → Hp → Prop} {ρ : List Sl} {β γ : Type} {ρb : β → List Sl} {ρg : γ → List Sl} {pos : Pos} {e a b d : Expr} {rest : List Stmt} {i j l : Nat} {x y z : Str} {me : M D} {mo : M (List D)}
theorem sv (h : PE X e (tM X.K A E ρ me)) : PE X e (tI1 X.K A E ρ me .d) := h.impM fun σ H Q ⟨c, F, B, w, s, q⟩ => ⟨c, F, B, w, s, q⟩
theorem so (h : PE X e (tO X.K A E ρ mo)) : PE X e (tI1 X.K A E ρ mo .o) := h.impM fun σ H Q ⟨c, F, B, w, s, q⟩ => ⟨c, F, B, w, s, q.mono (fun ds c' q p vs F' H' e w' h1 h2 h3 h4 => q (.ref p) F' H' e w' ⟨p, vs, rfl, h1, h2, h3, h4⟩) fun _ _ q => q⟩
variable {α1 α2 α3 : Type} {m1 : M α1} {m2 : M α2} {m3 : M α3} {it1 : α1 → It} {it2 : α2 → It} {it3 : α3 → It}
/-- two values in a row -/
theorem two_it {σ : L2.St} {D' : Ends} {c : Cup} {F F0 B H : Hp} {k : α1 → α2 → M (Fl β γ)} {Q : V → V → Hp → Prop} (n : Now X.K A F0 B c F H ρ σ) (h : tBn X.K A E ρb ρg (m1 >>= fun x => m2 >>= fun y => k x y) D' c F0 B)
    (q : ∀ v w x y c' F' H', Now X.K A F0 B c' F' H' ρ σ → Pend X.K H F' H' v (it1 x) → Pend X.K H F' H' w (it2 y) → (∀ p xs ys, it1 x = .o xs → it2 y = .o ys → v = .ref p → w ≠ .ref p) → tBn X.K A E ρb ρg (k x y) D' c' F0 B → Q v w H') :
    tI1 X.K A E ρ m1 it1 σ H fun v H1 => tI1 X.K A E ρ m2 it2 σ H1 fun w H2 => Q v w H2 := by
  refine ⟨c, F, B, n.w, n.s, (Wp_bind.mp h).mono (fun x c1 q1 v F1 H1 e1 w1 p1 => ?_) fun ex c' z F' H' e w' => z σ F' H' w' (n.x.trans e)⟩
  have n1 := n.ext e1 w1
  refine ⟨c1, F1, B, w1, n1.s, (Wp_bind.mp q1).mono (fun y c2 q2 w F2 H2 e2 w2 p2 => ?_) fun ex c' z F' H' e w' => z σ F' H' w' (n1.x.trans e)⟩
  refine q v w x y c2 F2 H2 (n1.ext e2 w2) (p1.ext (A := A) n.w.cupAt e2) (p2.start e1.d) (fun p xs ys hx hy hv hw => ?_) q2
  rw [hx] at p1
  rw [hy] at p2
  obtain ⟨r, us, er, _, _, e4, _⟩ := p1
  obtain ⟨r', us', er', f2, _⟩ := p2
  rw [hv] at er
  rw [hw] at er'
  cases er
  cases er'
  rw [f2] at e4
  cases e4
theorem put2 {σ : L2.St} {c : Cup} {F F0 B H Hs : Hp} {v w : V} {p q : It} (n : Now X.K A F0 B c F H ρ σ) (hij : i ≠ j) (h1 : Pend X.K Hs F H v p) (h2 : Pend X.K Hs F H w q) (nd : ∀ r xs ys, p = .o xs → q = .o ys → v = .ref r → w ≠ .ref r)
    (hA : ∀ a, A = some a → Hs a ≠ none) (hB : ∀ a, Hs a = none → B a = none) (o1 : ∀ (j : Nat) ys r, ρ[j]? = some (.own ys) → σ[j]? = some (some (.ref r)) → (∃ xs, p = .o xs) → v ≠ .ref r) (o2 : ∀ (j : Nat) ys r, ρ[j]? = some (.own ys) → σ[j]? = some (some (.ref r)) → (∃ xs, q = .o xs) → w ≠ .ref r) :
    Now X.K A F0 B c F H ((ρ.set i (slOf p)).set j (slOf q)) ((σ.set i (some v)).set j (some w)) := by
  refine (n.put i h1 hA hB fun k ys r _ => o1 k ys r).put j h2 hA hB fun k ys r hk a1 a2 hq hw => ?_
  rcases set_get a1 with ⟨e, z⟩ | ⟨e, a1⟩
  · subst e
    rcases set_get a2 with ⟨_, z2⟩ | ⟨e, _⟩
    · cases p with
      | d d => cases z
      | o xs => cases z2; obtain ⟨ys', rfl⟩ := hq; exact nd r _ _ rfl rfl rfl hw
    · exact absurd rfl e
  · rcases set_get a2 with ⟨e', _⟩ | ⟨_, a2⟩
    · exact absurd e' e
    · exact o2 k ys r a1 a2 hq hw
/-- a, b = .., .. : plain locals -/
theorem b_par2 {mr : α1 → α2 → M (Fl β γ)} {px py pt : Pos} {kt k2 pt2} (hc : X.calm = true) (hN : X.N.Nodup) (hi : X.N[i]? = some x) (hj : X.N[j]? = some y) (hij : i ≠ j) (hx : X.env.scope.names.lookup x = some .local) (hy : X.env.scope.names.lookup y = some .local)
    (h1 : PE X a (tI1 X.K A E ρ m1 it1)) (h2 : PE X b (tI1 X.K A E ρ m2 it2)) (hr : ∀ d d2, PSs X rest (tB X.K A E ((ρ.set i (slOf (it1 d))).set j (slOf (it2 d2))) ρb ρg (mr d d2)))
    (hw : swappedStores [.Tuple [.Name x px, .Name y py] kt pt] (.Tuple [a, b] k2 pt2) X.env = pure (some [x, y])) (hs : swapsWithSole [.Tuple [.Name x px, .Name y py] kt pt] (.Tuple [a, b] k2 pt2) pos.line X.env = pure false := by rfl)
    (he : starEach [a, b] X.env = (false, eval a X.env) :: starEach [b] X.env := by rfl) (he2 : starEach [b] X.env = (false, eval b X.env) :: starEach [] X.env := by rfl) :
    PSs X (.Assign [.Tuple [.Name x px, .Name y py] kt pt] (.Tuple [a, b] k2 pt2) pos :: rest) (tB X.K A E ρ ρb ρg (m1 >>= fun d => m2 >>= fun d2 => mr d d2)) :=
  PSs.imp' (pss_cons (u := fun D σ H => ∃ d d2, tB X.K A E ((ρ.set i (slOf (it1 d))).set j (slOf (it2 d2))) ρb ρg (mr d d2) D σ H) (ps_par hc hN hi hj hij hx hy (pa_cons h1 (pa_cons h2 pa_nil he2) he) hw hs) ⟨fun pins s σ H D I ⟨d, d2, q⟩ => (hr d d2).run pins s σ H D I q⟩) fun D σ H ⟨c, F, F0, B, n, h⟩ =>
    two_it n h fun v w x y c' F' H' n' p1 p2 nd q => ⟨v, w, rfl, x, y, c', F', F0, B, put2 n' hij p1 p2 nd n.w.cupAt (fun a ha => n.x.d a ha) (fresh_out n.s p1 fun a ha => ha) (fresh_out n.s p2 fun a ha => ha), q⟩
/-- .. where a name is captured: by a tuple -/
theorem b_tup2 {mr : α1 → α2 → M (Fl β γ)} {px py pt : Pos} {kt k2 pt2} (hc : X.calm = true) (hN : X.N.Nodup) (hi : X.N[i]? = some x) (hj : X.N[j]? = some y) (hij : i ≠ j) (hx : Loc X.env.scope x) (hy : Loc X.env.scope y)
    (h1 : PE X a (tI1 X.K A E ρ m1 it1)) (h2 : PE X b (tI1 X.K A E ρ m2 it2)) (hr : ∀ d d2, PSs X rest (tB X.K A E ((ρ.set i (slOf (it1 d))).set j (slOf (it2 d2))) ρb ρg (mr d d2)))
    (hs : swapsWithSole [.Tuple [.Name x px, .Name y py] kt pt] (.Tuple [a, b] k2 pt2) pos.line X.env = pure false := by rfl) (hw : swappedStores [.Tuple [.Name x px, .Name y py] kt pt] (.Tuple [a, b] k2 pt2) X.env = pure none := by rfl)
    (h3 : (assignEach [.Tuple [.Name x px, .Name y py] kt pt] X.env).map (·.2) = [assign (.Tuple [.Name x px, .Name y py] kt pt) X.env] := by rfl)
    (he : starEach [a, b] X.env = (false, eval a X.env) :: starEach [b] X.env := by rfl) (he2 : starEach [b] X.env = (false, eval b X.env) :: starEach [] X.env := by rfl) (ht : PG X (.Tuple [.Name x px, .Name y py] kt pt) (gTup X.K 2 (gCons (gName i) (gCons (gName j) gNil)))) :
    PSs X (.Assign [.Tuple [.Name x px, .Name y py] kt pt] (.Tuple [a, b] k2 pt2) pos :: rest) (tB X.K A E ρ ρb ρg (m1 >>= fun d => m2 >>= fun d2 => mr d d2)) :=
  PSs.imp' (pss_cons (u := fun D σ H => ∃ d d2, tB X.K A E ((ρ.set i (slOf (it1 d))).set j (slOf (it2 d2))) ρb ρg (mr d d2) D σ H) (ps_asg (pe_tup (pa_cons h1 (pa_cons h2 pa_nil he2) he)) ht hs hw h3) ⟨fun pins s σ H D I ⟨d, d2, q⟩ => (hr d d2).run pins s σ H D I q⟩) fun D σ H ⟨c, F, F0, B, n, h⟩ =>
    two_it n h fun v w x y c' F' H' n' p1 p2 nd q => by
      refine ⟨?_, fun p hp => ⟨p, [v, w], rfl, .inl (.inl upd_same), rfl, v, [w], rfl, w, [], rfl, rfl, ?_⟩⟩
      · rw [sizeLine_eq]; show 2 ≤ 16777216; decide
      · have e1 : Ext A F' H' F' (upd H' p (.tup [v, w])) := (Ext.new' hp).to
        have n2 := n'.ext e1 (n'.w.ext (Ext.new' hp) (n'.w.frz.new' hp))
        exact ⟨x, y, c', F', F0, B, put2 n2 hij (p1.ext (A := A) n.w.cupAt e1) (p2.ext (A := A) n.w.cupAt e1) nd n.w.cupAt (fun a ha => n.x.d a ha) (fresh_out n.s p1 fun a ha => ha) (fresh_out n.s p2 fun a ha => ha), q⟩
end
end Mir

set_option maxRecDepth 100000
/-! MirE2: three names at once; is True; list(range), tuple(range); [..] * n; x.index, x.count of lists. -/
namespace Mir
open PySem PySem.Spec PyProof.Rows L2
def dIsB : O2
  | .bool a, .bool b => some (.bool (decide (a = b)))
  | _, _ => none
def dNotB : O2
  | .bool a, .bool b => some (.bool (!decide (a = b)))
  | _, _ => none
/-- xs * n, a new list -/
def dRepL : D → D → Option (List D)
  | .list xs, .int k => if decide (-(2 ^ 62) ≤ k) && decide (k < 2 ^ 62) && decide (xs.length * k.toNat ≤ lim) then some (List.replicate k.toNat xs).flatten else none
  | _, _ => none
def dCatL : D → D → Option (List D)
  | .list xs, .list ys => if xs.length + ys.length ≤ lim then some (xs ++ ys) else none
  | _, _ => none
section
variable {X : Cx} {A : Option Addr} {E : Exc → L2.St → Hp → Prop} {ρ : List Sl} {β γ : Type} {ρb : β → List Sl} {ρg : γ → List Sl} {pos p : Pos} {e a b d : Expr} {rest : List Stmt} {i j l : Nat} {x y z : Str} {me ma mb : M D} {mo : M (List D)}
theorem od_isB : OpR X (compareOp .Is) (rD2 X.K dIsB) := by
  intro pins s σ H x y v u Q I rx ry h
  obtain ⟨F, d, e, r, zf, pd, pe, er, q⟩ := h
  unfold dIsB at er
  split at er
  · cases er; cases pd; cases pe
    exact op_isBl pins s σ H _ _ v u Q I rx ry ⟨_, _, rfl, rfl, q _ F H .refl zf (.bl _)⟩
  · cases er
theorem od_notB : OpR X (compareOp .IsNot) (rD2 X.K dNotB) := by
  intro pins s σ H x y v u Q I rx ry h
  obtain ⟨F, d, e, r, zf, pd, pe, er, q⟩ := h
  unfold dNotB at er
  split at er
  · cases er; cases pd; cases pe
    exact op_notBl pins s σ H _ _ v u Q I rx ry ⟨_, _, rfl, rfl, q _ F H .refl zf (.bl _)⟩
  · cases er
theorem bo_isB : BoolO dIsB := fun d e r q => by
  unfold dIsB at q
  split at q
  · cases q; exact ⟨_, rfl⟩
  · cases q
theorem bo_notB : BoolO dNotB := fun d e r q => by
  unfold dNotB at q
  split at q
  · cases q; exact ⟨_, rfl⟩
  · cases q
/-- list(range(..)), tuple(range(..)) -/
theorem rg_dl {F : Hp} (lo hi : Int) : DpAll X.K F (rgV lo hi) (rng lo (hi - lo).toNat) := by
  unfold rgV rng
  generalize List.range (hi - lo).toNat = r
  induction r with
  | nil => exact .nil
  | cons i r ih => exact .cons (.int _) ih
theorem rg1 {d : D} {xs : List D} (h : dRange1 d = some xs) : ∃ j, d = .int j ∧ RgOk 0 j ∧ xs = rng 0 (j - 0).toNat := by
  unfold dRange1 at h
  split at h
  · split at h
    · rename_i hb
      cases h
      simp only [Bool.and_eq_true, decide_eq_true_eq] at hb
      obtain ⟨⟨b1, b2⟩, b3⟩ := hb
      refine ⟨_, rfl, ⟨by decide, by decide, b1, b2, ?_⟩, by rw [Int.sub_zero]⟩
      rw [Int.sub_zero]
      exact Nat.le_trans b3 (by decide)
    · cases h
  · cases h
theorem rg2 {d e : D} {xs : List D} (h : dRange2 d e = some xs) : ∃ i j, d = .int i ∧ e = .int j ∧ RgOk i j ∧ xs = rng i (j - i).toNat := by
  unfold dRange2 at h
  split at h
  · split at h
    · rename_i hb
      cases h
      simp only [Bool.and_eq_true, decide_eq_true_eq] at hb
      obtain ⟨⟨⟨⟨b1, b2⟩, b3⟩, b4⟩, b5⟩ := hb
      exact ⟨_, _, rfl, rfl, ⟨b1, b2, b3, b4, Nat.le_trans b5 (by decide)⟩, rfl⟩
    · cases h
  · cases h
variable {p2 pos2 : Pos}
theorem eo_listRg1 (hc : X.calm = true) (hg : Gl X "list") (hm : X.mg "list" = none) (hg2 : Gl X "range") (hm2 : X.mg "range" = none) (ha : PE X a (tM X.K A E ρ ma)) (na : starEach [a] X.env = (false, eval a X.env) :: starEach [] X.env := by rfl)
    (n2 : starEach [.Call (.Name "range" p2) [a] [] pos2] X.env = (false, eval (.Call (.Name "range" p2) [a] [] pos2) X.env) :: starEach [] X.env := by rfl) :
    PE X (.Call (.Name "list" p) [.Call (.Name "range" p2) [a] [] pos2] [] pos) (tO X.K A E ρ (ma >>= fun d => lft (dRange1 d))) :=
  (pe_listRg hc hg hm (prg_1 hg2 hm2 ha na) n2).impM fun σ H Q ⟨c, F, B, w, s, h⟩ => ⟨c, F, B, w, s, (Wp_bind.mp h).mono (fun d c1 q v F1 H1 x1 w1 r => by
    obtain ⟨xs, ex, q⟩ := Wp_lft q
    obtain ⟨j, rfl, ok, rfl⟩ := rg1 ex
    cases r
    exact ⟨j, rfl, ok, fun p hp => q p _ F1 _ (x1.trans (Ext.new' hp).to) (w1.ext (Ext.new' hp) (w1.frz.new' hp)) (x1.d p hp) (Same.free w1.frz.sub hp) upd_same (rg_dl 0 j)⟩) fun _ _ q => q⟩
theorem eo_listRg2 (hc : X.calm = true) (hg : Gl X "list") (hm : X.mg "list" = none) (hg2 : Gl X "range") (hm2 : X.mg "range" = none) (ha : PE X a (tM X.K A E ρ ma)) (hb : PE X b (tM X.K A E ρ mb)) (na : starEach [a, b] X.env = (false, eval a X.env) :: starEach [b] X.env := by rfl) (nb : starEach [b] X.env = (false, eval b X.env) :: starEach [] X.env := by rfl) (hpl : (backTo pos2 (starEach [b] X.env)).any (·.1) = false := by rfl)
    (n2 : starEach [.Call (.Name "range" p2) [a, b] [] pos2] X.env = (false, eval (.Call (.Name "range" p2) [a, b] [] pos2) X.env) :: starEach [] X.env := by rfl) :
    PE X (.Call (.Name "list" p) [.Call (.Name "range" p2) [a, b] [] pos2] [] pos) (tO X.K A E ρ (ma >>= fun d => mb >>= fun e => lft (dRange2 d e))) :=
  (pe_listRg hc hg hm (prg_2 hg2 hm2 ha hb na nb hpl) n2).impM fun σ H Q ⟨c, F, B, w, s, h⟩ => ⟨c, F, B, w, s, (Wp_bind.mp h).mono (fun d c1 q v F1 H1 x1 w1 r => ⟨c1, F1, B, w1, s.ext x1, (Wp_bind.mp q).mono (fun d2 c2 q2 v2 F2 H2 x2 w2 r2 => by
    obtain ⟨xs, ex, q⟩ := Wp_lft q2
    obtain ⟨i, j, rfl, rfl, ok, rfl⟩ := rg2 ex
    cases r; cases r2
    exact ⟨i, j, rfl, rfl, ok, fun p hp => q p _ F2 _ ((x1.trans x2).trans (Ext.new' hp).to) (w2.ext (Ext.new' hp) (w2.frz.new' hp)) (x1.d p (x2.d p hp)) (Same.free w2.frz.sub hp) upd_same (rg_dl i j)⟩) fun e c q F' H' x w => q F' H' (x1.trans x) w⟩) fun _ _ q => q⟩
theorem tup_fin {c1 : Cup} {F H F1 H1 : Hp} {Q : VK} {vs : List V} {ds : List D} (x1 : Ext A F H F1 H1) (w1 : Wd A c1 F1 H1) (q : ∀ v F' H', Ext A F H F' H' → Wd A c1 F' H' → Dp X.K F' v (.tuple ds) → Q v H') (pd : DpAll X.K F1 vs ds) (p : Addr) (hp : H1 p = none) : Q (.ref p) (upd H1 p (.tup vs)) := by
  have hs : Same F1 (upd F1 p (.tup vs)) := fun b u z => by rw [upd_ne (ne_of_none z (Same.free w1.frz.sub hp))]; exact z
  have e := Ext.new (o := .tup vs) w1.frz hp
  exact q _ (upd F1 p (.tup vs)) _ (x1.trans e.to) (w1.ext e (w1.frz.new fun ps z => nomatch z)) (.tup (.inl (.inl upd_same)) (DpAll.sameM hs _ _ pd))
theorem ev_tupRg1 (hc : X.calm = true) (hg : Gl X "tuple") (hm : X.mg "tuple" = none) (hg2 : Gl X "range") (hm2 : X.mg "range" = none) (ha : PE X a (tM X.K A E ρ ma)) (na : starEach [a] X.env = (false, eval a X.env) :: starEach [] X.env := by rfl)
    (n2 : starEach [.Call (.Name "range" p2) [a] [] pos2] X.env = (false, eval (.Call (.Name "range" p2) [a] [] pos2) X.env) :: starEach [] X.env := by rfl) :
    PE X (.Call (.Name "tuple" p) [.Call (.Name "range" p2) [a] [] pos2] [] pos) (tM X.K A E ρ (ma >>= fun d => lft (dRange1 d) >>= fun xs => pure (.tuple xs))) :=
  (pe_tupRg hc hg hm (prg_1 hg2 hm2 ha na) n2).impM fun σ H Q ⟨c, F, B, w, s, h⟩ => ⟨c, F, B, w, s, (Wp_bind.mp h).mono (fun d c1 q v F1 H1 x1 w1 r => by
    obtain ⟨xs, ex, q⟩ := Wp_lft (Wp_bind.mp q)
    obtain ⟨j, rfl, ok, rfl⟩ := rg1 ex
    cases r
    exact ⟨j, rfl, ok, fun p hp => tup_fin x1 w1 q (rg_dl 0 j) p hp⟩) fun _ _ q => q⟩
theorem ev_tupRg2 (hc : X.calm = true) (hg : Gl X "tuple") (hm : X.mg "tuple" = none) (hg2 : Gl X "range") (hm2 : X.mg "range" = none) (ha : PE X a (tM X.K A E ρ ma)) (hb : PE X b (tM X.K A E ρ mb)) (na : starEach [a, b] X.env = (false, eval a X.env) :: starEach [b] X.env := by rfl) (nb : starEach [b] X.env = (false, eval b X.env) :: starEach [] X.env := by rfl)
    (hpl : (backTo pos2 (starEach [b] X.env)).any (·.1) = false := by rfl) (n2 : starEach [.Call (.Name "range" p2) [a, b] [] pos2] X.env = (false, eval (.Call (.Name "range" p2) [a, b] [] pos2) X.env) :: starEach [] X.env := by rfl) :
    PE X (.Call (.Name "tuple" p) [.Call (.Name "range" p2) [a, b] [] pos2] [] pos) (tM X.K A E ρ (ma >>= fun d => mb >>= fun e => lft (dRange2 d e) >>= fun xs => pure (.tuple xs))) :=
  (pe_tupRg hc hg hm (prg_2 hg2 hm2 ha hb na nb hpl) n2).impM fun σ H Q ⟨c, F, B, w, s, h⟩ => ⟨c, F, B, w, s, (Wp_bind.mp h).mono (fun d c1 q v F1 H1 x1 w1 r => ⟨c1, F1, B, w1, s.ext x1, (Wp_bind.mp q).mono (fun d2 c2 q2 v2 F2 H2 x2 w2 r2 => by
    obtain ⟨xs, ex, q⟩ := Wp_lft (Wp_bind.mp q2)
    obtain ⟨i, j, rfl, rfl, ok, rfl⟩ := rg2 ex
    cases r; cases r2
    exact ⟨i, j, rfl, rfl, ok, fun p hp => tup_fin (x1.trans x2) w2 q (rg_dl i j) p hp⟩) fun e c q F' H' x w => q F' H' (x1.trans x) w⟩) fun _ _ q => q⟩
end
end Mir

set_option maxRecDepth 100000
/-! MirE3: list + list, [..] * n as new lists; x.index(y), x.count(y) of lists; text * n. -/
namespace Mir
open PySem PySem.Spec PyProof.Rows L2
def rCatO (K : PySem.W.Frag) : R2 := fun x y H Q => ∃ F ds es, Frz F H ∧ Dp K F x (.list ds) ∧ Dp K F y (.list es) ∧ ds.length + es.length ≤ lim ∧ ∀ p vs', H p = none → DpAll K F vs' (ds ++ es) → Q (.ref p) (upd H p (.lst vs'))
section
variable {X : Cx} {A : Option Addr} {E : Exc → L2.St → Hp → Prop} {ρ : List Sl} {pos p : Pos} {e a b d : Expr} {i j l : Nat} {x y z : Str} {me ma mb : M D} {mo : M (List D)}
theorem od_catO : OpR X (binaryOp .Add) (rCatO X.K) := by
  intro pins s σ H x y v u Q I rx ry h
  obtain ⟨F, ds, es, z, pd, pe, hz, q⟩ := h
  rw [lim_eq] at hz
  cases pd with
  | lst h1 p1 =>
    cases pe with
    | lst h2 p2 =>
      cases rx; cases ry
      obtain ⟨its, r1, ⟨o1, n1, g1, c1, dd1, e1⟩, _⟩ := I.list (SqL.sameM z.sub h1)
      obtain ⟨its2, r2, ⟨o2, n2, g2, c2, dd2, e2⟩, _⟩ := I.list (SqL.sameM z.sub h2)
      have l1 := r1.length
      have l2 := r2.length
      have m1 := p1.lenM
      have m2 := p2.lenM
      obtain ⟨cls1, dict1, data1, sl1⟩ := o1
      obtain ⟨cls2, dict2, data2, sl2⟩ := o2
      simp only at c1 dd1 e1 c2 dd2 e2
      subst c1 dd1 e1 c2 dd2 e2
      have ea : its.toArray ++ its2.toArray = (its ++ its2).toArray := by simp
      refine concat_meets ⟨_, g1, rfl⟩ ⟨_, g2, rfl⟩ noFill_list_add seq_list_add PySem.F.slot_list_add PySem.F.entry_list_add (PySem.F.args_list_add_2 _ _) (list_addW _ _ its.toArray its2.toArray n1 n2 none none sl1 sl2 (by rw [List.size_toArray, List.size_toArray]; omega)) ⟨g1, g2, ?_⟩
      rw [ea]
      exact ⟨.ref _, _, I.laid (t' := s.toks) (o := .lst _) (fun b o e => Heap.get?_push_of_some _ e) (Nat.le_refl _) ⟨by rw [List.length_append]; omega, _, 0, r1.append r2, Heap.get?_push_size _ rfl⟩, rfl, q _ _ (I.hok.fresh (Nat.le_refl _)) (p1.appM p2)⟩
/-- xs + ys, a new list -/
theorem eo_cat (ha : PE X a (tM X.K A E ρ ma)) (hb : PE X b (tM X.K A E ρ mb)) : PE X (.BinOp a .Add b pos) (tO X.K A E ρ (ma >>= fun d => mb >>= fun e => lft (dCatL d e))) :=
  (pe_op od_catO ha hb).impM fun σ H Q ⟨c, F, B, w, s, h⟩ => ⟨c, F, B, w, s, (Wp_bind.mp h).mono (fun d c1 q v F1 H1 x1 w1 r => ⟨c1, F1, B, w1, s.ext x1, (Wp_bind.mp q).mono (fun d2 c2 q2 v2 F2 H2 x2 w2 r2 => by
    obtain ⟨xs, ex, q⟩ := Wp_lft q2
    unfold dCatL at ex
    split at ex
    · split at ex
      · rename_i hz
        cases ex
        exact ⟨F2, _, _, w2.frz, Dp.sameM x2.f _ v r, r2, hz, fun p vs' hp dl => q p vs' F2 _ ((x1.trans x2).trans (Ext.new' hp).to) (w2.ext (Ext.new' hp) (w2.frz.new' hp)) (x1.d p (x2.d p hp)) (Same.free w2.frz.sub hp) upd_same dl⟩
      · cases ex
    · cases ex) fun e c q F' H' x w => q F' H' (x1.trans x) w⟩) fun _ _ q => q⟩
def repL (xs : List D) : D → Option (List D)
  | .int k => if decide (-(2 ^ 62) ≤ k) && decide (k < 2 ^ 62) && decide (xs.length * k.toNat ≤ lim) then some (List.replicate k.toNat xs).flatten else none
  | _ => none
/-- [..] * n -/
theorem eo_rep (ha : PE X a (tO X.K A E ρ mo)) (hb : PE X b (tM X.K A E ρ mb)) : PE X (.BinOp a .Mult b pos) (tO X.K A E ρ (mo >>= fun xs => mb >>= fun k => lft (repL xs k))) :=
  (pe_op op_rep ha hb).impM fun σ H Q ⟨c, F, B, w, s, h⟩ => ⟨c, F, B, w, s, (Wp_bind.mp h).mono (fun xs c1 q p vs F1 H1 x1 w1 hp fp hp1 dl => ⟨c1, F1, B, w1, s.ext x1, (Wp_bind.mp q).mono (fun k c2 q2 v2 F2 H2 x2 w2 r2 => by
    obtain ⟨ys, ey, q⟩ := Wp_lft q2
    unfold repL at ey
    split at ey
    · split at ey
      · rename_i hz
        cases ey
        cases r2
        simp only [Bool.and_eq_true, decide_eq_true_eq] at hz
        obtain ⟨⟨b1, b2⟩, b3⟩ := hz
        have hA : A ≠ some p := w.ne hp
        have h2 := x2.h p _ hp1 hA fun ps z => nomatch z
        have hl := dl.lenM
        refine ⟨p, _, vs, rfl, rfl, h2, by omega, by omega, by rw [hl, ← lim_eq]; exact b3, fun p' hp' => ?_⟩
        exact q p' _ F2 _ ((x1.trans x2).trans (Ext.new' hp').to) (w2.ext (Ext.new' hp') (w2.frz.new' hp')) (x1.d p' (x2.d p' hp')) (Same.free w2.frz.sub hp') upd_same (rep_dl (DpAll.sameM x2.f _ _ dl) _)
      · cases ey
    · cases ey) fun e c q F' H' x w => q F' H' (x1.trans x) w⟩) fun _ _ q => q⟩
end
end Mir

set_option maxRecDepth 100000
/-! MirE4: a, b, c = .., .., .. -/
namespace Mir
open PySem PySem.Spec PyProof.Rows L2
section
variable {X : Cx} {A : Option Addr} {E : Exc → L2.St → Hp → Prop} {ρ : List Sl} {β γ : Type} {ρb : β → List Sl} {ρg : γ → List Sl} {pos : Pos} {e a b d : Expr} {rest : List Stmt} {i j l : Nat} {x y z : Str}
variable {α1 α2 α3 : Type} {m1 : M α1} {m2 : M α2} {m3 : M α3} {it1 : α1 → It} {it2 : α2 → It} {it3 : α3 → It}
def Apart (v w : V) (p q : It) : Prop := ∀ r xs ys, p = .o xs → q = .o ys → v = .ref r → w ≠ .ref r
theorem apart_of {K : PySem.W.Frag} {Hs F H Hs2 F2 H2 : Hp} {v w : V} {p q : It} (p1 : Pend K Hs F H v p) (p2 : Pend K Hs2 F2 H2 w q) (h : ∀ a, Hs2 a = none → H a = none) : Apart v w p q := fun r xs ys hx hy hv hw => by
  rw [hx] at p1
  rw [hy] at p2
  obtain ⟨r1, us, er, _, _, e4, _⟩ := p1
  obtain ⟨r2, us', er', f2, _⟩ := p2
  rw [hv] at er
  rw [hw] at er'
  cases er
  cases er'
  rw [h _ f2] at e4
  cases e4
theorem three_it {σ : L2.St} {D' : Ends} {c : Cup} {F F0 B H : Hp} {k : α1 → α2 → α3 → M (Fl β γ)} {Q : V → V → V → Hp → Prop} (n : Now X.K A F0 B c F H ρ σ) (h : tBn X.K A E ρb ρg (m1 >>= fun x => m2 >>= fun y => m3 >>= fun z => k x y z) D' c F0 B)
    (q : ∀ u v w x y z c' F' H', Now X.K A F0 B c' F' H' ρ σ → Pend X.K H F' H' u (it1 x) → Pend X.K H F' H' v (it2 y) → Pend X.K H F' H' w (it3 z) → Apart u v (it1 x) (it2 y) → Apart u w (it1 x) (it3 z) → Apart v w (it2 y) (it3 z) → tBn X.K A E ρb ρg (k x y z) D' c' F0 B → Q u v w H') :
    tI1 X.K A E ρ m1 it1 σ H fun u H1 => tI1 X.K A E ρ m2 it2 σ H1 fun v H2 => tI1 X.K A E ρ m3 it3 σ H2 fun w H3 => Q u v w H3 := by
  refine ⟨c, F, B, n.w, n.s, (Wp_bind.mp h).mono (fun x c1 q1 u F1 H1 e1 w1 p1 => ?_) fun ex c' z F' H' e w' => z σ F' H' w' (n.x.trans e)⟩
  have n1 := n.ext e1 w1
  refine ⟨c1, F1, B, w1, n1.s, (Wp_bind.mp q1).mono (fun y c2 q2 v F2 H2 e2 w2 p2 => ?_) fun ex c' z F' H' e w' => z σ F' H' w' (n1.x.trans e)⟩
  have n2 := n1.ext e2 w2
  refine ⟨c2, F2, B, w2, n2.s, (Wp_bind.mp q2).mono (fun z c3 q3 w F3 H3 e3 w3 p3 => ?_) fun ex c' z F' H' e w' => z σ F' H' w' (n2.x.trans e)⟩
  have n3 := n2.ext e3 w3
  have a12 : Apart u v (it1 x) (it2 y) := apart_of p1 p2 fun a ha => ha
  have a13 : Apart u w (it1 x) (it3 z) := apart_of p1 p3 fun a ha => e2.d a ha
  have a23 : Apart v w (it2 y) (it3 z) := apart_of p2 p3 fun a ha => ha
  exact q u v w x y z c3 F3 H3 n3 ((p1.ext (A := A) n.w.cupAt e2).ext (A := A) n.w.cupAt e3) ((p2.ext (A := A) n1.w.cupAt e3).start e1.d) (p3.start fun a ha => e1.d a (e2.d a ha)) a12 a13 a23 q3
theorem put3 {σ : L2.St} {c : Cup} {F F0 B H Hs : Hp} {u v w : V} {p q r : It} (n : Now X.K A F0 B c F H ρ σ) (hij : i ≠ j) (hil : i ≠ l) (hjl : j ≠ l) (h1 : Pend X.K Hs F H u p) (h2 : Pend X.K Hs F H v q) (h3 : Pend X.K Hs F H w r) (a12 : Apart u v p q) (a13 : Apart u w p r) (a23 : Apart v w q r)
    (hA : ∀ a, A = some a → Hs a ≠ none) (hB : ∀ a, Hs a = none → B a = none) (out : ∀ {v : V} {it : It}, Pend X.K Hs F H v it → ∀ (j : Nat) ys r, ρ[j]? = some (.own ys) → σ[j]? = some (some (.ref r)) → (∃ xs, it = .o xs) → v ≠ .ref r) :
    Now X.K A F0 B c F H (((ρ.set i (slOf p)).set j (slOf q)).set l (slOf r)) (((σ.set i (some u)).set j (some v)).set l (some w)) := by
  refine (put2 n hij h1 h2 a12 hA hB (out h1) (out h2)).put l h3 hA hB fun k ys s hk b1 b2 hq hw => ?_
  obtain ⟨ys', rfl⟩ := hq
  rcases set_get b1 with ⟨e, z⟩ | ⟨e, b1⟩
  · subst e
    rcases set_get b2 with ⟨_, z2⟩ | ⟨e, _⟩
    · cases q with
      | d d => cases z
      | o xs => cases z2; exact a23 s _ _ rfl rfl rfl hw
    · exact absurd rfl e
  · rcases set_get b2 with ⟨e', _⟩ | ⟨_, b2⟩
    · exact absurd e' e
    · rcases set_get b1 with ⟨e, z⟩ | ⟨e, b1⟩
      · subst e
        rcases set_get b2 with ⟨_, z2⟩ | ⟨e, _⟩
        · cases p with
          | d d => cases z
          | o xs => cases z2; exact a13 s _ _ rfl rfl rfl hw
        · exact absurd rfl e
      · rcases set_get b2 with ⟨e', _⟩ | ⟨_, b2⟩
        · exact absurd e' e
        · exact out h3 k ys s b1 b2 ⟨_, rfl⟩ hw
variable {mr : α1 → α2 → α3 → M (Fl β γ)} {px py pz pt : Pos} {kt k2 pt2}
theorem b_par3 (hc : X.calm = true) (hN : X.N.Nodup) (hi : X.N[i]? = some x) (hj : X.N[j]? = some y) (hl : X.N[l]? = some z) (hij : i ≠ j) (hil : i ≠ l) (hjl : j ≠ l) (hx : X.env.scope.names.lookup x = some .local) (hy : X.env.scope.names.lookup y = some .local) (hz : X.env.scope.names.lookup z = some .local)
    (h1 : PE X a (tI1 X.K A E ρ m1 it1)) (h2 : PE X b (tI1 X.K A E ρ m2 it2)) (h3 : PE X d (tI1 X.K A E ρ m3 it3)) (hr : ∀ d1 d2 d3, PSs X rest (tB X.K A E (((ρ.set i (slOf (it1 d1))).set j (slOf (it2 d2))).set l (slOf (it3 d3))) ρb ρg (mr d1 d2 d3)))
    (hw : swappedStores [.Tuple [.Name x px, .Name y py, .Name z pz] kt pt] (.Tuple [a, b, d] k2 pt2) X.env = pure (some [x, y, z])) (hs : swapsWithSole [.Tuple [.Name x px, .Name y py, .Name z pz] kt pt] (.Tuple [a, b, d] k2 pt2) pos.line X.env = pure false := by rfl)
    (he : starEach [a, b, d] X.env = (false, eval a X.env) :: starEach [b, d] X.env := by rfl) (he2 : starEach [b, d] X.env = (false, eval b X.env) :: starEach [d] X.env := by rfl) (he3 : starEach [d] X.env = (false, eval d X.env) :: starEach [] X.env := by rfl) :
    PSs X (.Assign [.Tuple [.Name x px, .Name y py, .Name z pz] kt pt] (.Tuple [a, b, d] k2 pt2) pos :: rest) (tB X.K A E ρ ρb ρg (m1 >>= fun d1 => m2 >>= fun d2 => m3 >>= fun d3 => mr d1 d2 d3)) :=
  PSs.imp' (pss_cons (u := fun D σ H => ∃ d1 d2 d3, tB X.K A E (((ρ.set i (slOf (it1 d1))).set j (slOf (it2 d2))).set l (slOf (it3 d3))) ρb ρg (mr d1 d2 d3) D σ H) (ps_par3 hc hN hi hj hl hij hil hjl hx hy hz (pa_cons h1 (pa_cons h2 (pa_cons h3 pa_nil he3) he2) he) hw hs) ⟨fun pins s σ H D I ⟨d1, d2, d3, q⟩ => (hr d1 d2 d3).run pins s σ H D I q⟩) fun D σ H ⟨c, F, F0, B, n, h⟩ =>
    three_it n h fun u v w x y z c' F' H' n' p1 p2 p3 a12 a13 a23 q => ⟨u, v, w, rfl, x, y, z, c', F', F0, B, put3 n' hij hil hjl p1 p2 p3 a12 a13 a23 n.w.cupAt (fun a ha => n.x.d a ha) (fun p => fresh_out n.s p fun a ha => ha), q⟩
theorem b_tup3 (hc : X.calm = true) (hij : i ≠ j) (hil : i ≠ l) (hjl : j ≠ l)
    (h1 : PE X a (tI1 X.K A E ρ m1 it1)) (h2 : PE X b (tI1 X.K A E ρ m2 it2)) (h3 : PE X d (tI1 X.K A E ρ m3 it3)) (hr : ∀ d1 d2 d3, PSs X rest (tB X.K A E (((ρ.set i (slOf (it1 d1))).set j (slOf (it2 d2))).set l (slOf (it3 d3))) ρb ρg (mr d1 d2 d3)))
    (ht : PG X (.Tuple [.Name x px, .Name y py, .Name z pz] kt pt) (gTup X.K 3 (gCons (gName i) (gCons (gName j) (gCons (gName l) gNil)))))
    (hs : swapsWithSole [.Tuple [.Name x px, .Name y py, .Name z pz] kt pt] (.Tuple [a, b, d] k2 pt2) pos.line X.env = pure false := by rfl) (hw : swappedStores [.Tuple [.Name x px, .Name y py, .Name z pz] kt pt] (.Tuple [a, b, d] k2 pt2) X.env = pure none := by rfl)
    (h4 : (assignEach [.Tuple [.Name x px, .Name y py, .Name z pz] kt pt] X.env).map (·.2) = [assign (.Tuple [.Name x px, .Name y py, .Name z pz] kt pt) X.env] := by rfl)
    (he : starEach [a, b, d] X.env = (false, eval a X.env) :: starEach [b, d] X.env := by rfl) (he2 : starEach [b, d] X.env = (false, eval b X.env) :: starEach [d] X.env := by rfl) (he3 : starEach [d] X.env = (false, eval d X.env) :: starEach [] X.env := by rfl) :
    PSs X (.Assign [.Tuple [.Name x px, .Name y py, .Name z pz] kt pt] (.Tuple [a, b, d] k2 pt2) pos :: rest) (tB X.K A E ρ ρb ρg (m1 >>= fun d1 => m2 >>= fun d2 => m3 >>= fun d3 => mr d1 d2 d3)) :=
  PSs.imp' (pss_cons (u := fun D σ H => ∃ d1 d2 d3, tB X.K A E (((ρ.set i (slOf (it1 d1))).set j (slOf (it2 d2))).set l (slOf (it3 d3))) ρb ρg (mr d1 d2 d3) D σ H) (ps_asg (pe_tup (pa_cons h1 (pa_cons h2 (pa_cons h3 pa_nil he3) he2) he)) ht hs hw h4) ⟨fun pins s σ H D I ⟨d1, d2, d3, q⟩ => (hr d1 d2 d3).run pins s σ H D I q⟩) fun D σ H ⟨c, F, F0, B, n, h⟩ =>
    three_it n h fun u v w x y z c' F' H' n' p1 p2 p3 a12 a13 a23 q => by
      refine ⟨?_, fun p hp => ⟨p, [u, v, w], rfl, .inl (.inl upd_same), rfl, u, [v, w], rfl, v, [w], rfl, w, [], rfl, rfl, ?_⟩⟩
      · rw [sizeLine_eq]; show 3 ≤ 16777216; decide
      · have e1 : Ext A F' H' F' (upd H' p (.tup [u, v, w])) := (Ext.new' hp).to
        have n2 := n'.ext e1 (n'.w.ext (Ext.new' hp) (n'.w.frz.new' hp))
        exact ⟨x, y, z, c', F', F0, B, put3 n2 hij hil hjl (p1.ext (A := A) n.w.cupAt e1) (p2.ext (A := A) n.w.cupAt e1) (p3.ext (A := A) n.w.cupAt e1) a12 a13 a23 n.w.cupAt (fun a ha => n.x.d a ha) (fun p => fresh_out n.s p fun a ha => ha), q⟩
end
end Mir

set_option maxRecDepth 100000
/-! MirE5: range with a step. -/
namespace Mir
open PySem PySem.Spec PyProof.Rows L2
def rngC (lo c : Int) (n : Nat) : List D := (List.range n).map fun k => .int (lo + (k : Nat) * c)
def dRange3 : D → D → D → Option (List D)
  | .int i, .int j, .int c => if decide (c ≠ 0) && decide (c.natAbs < 1073741824) && Builtin.Range.small i j c && decide (0 ≤ Builtin.Range.rangeSize i j c) && decide ((Builtin.Range.rangeSize i j c).toNat ≤ lim) then some (rngC i c (Builtin.Range.rangeSize i j c).toNat) else none
  | _, _, _ => none
theorem rngC_len (lo c : Int) (n : Nat) : (rngC lo c n).length = n := by simp [rngC]
theorem rngC_get {lo c : Int} {n i : Nat} (h : i < n) : (rngC lo c n)[i]? = some (.int (lo + (i : Nat) * c)) := by
  unfold rngC
  rw [List.getElem?_map, List.getElem?_range h]
  rfl
section
variable {X : Cx} {A : Option Addr} {E : Exc → L2.St → Hp → Prop} {ρ : List Sl} {a b d : Expr} {ma mb md : M D} {pos p : Pos} {tg : Expr}
theorem stdy_rngC {F : Hp} {lo c : Int} {n : Nat} : Stdy X.K (Itc lo c n) (rngC lo c n) F := fun F2 H2 s zf => by
  rw [rngC_len]
  refine ⟨fun i hi => ⟨hi, fun x H3 ⟨e, h1⟩ => ?_⟩, Nat.le_refl _⟩
  subst e h1
  exact ⟨F2, _, .refl, zf, rngC_get hi, .int _⟩
theorem ei_rng3 (hg : Gl X "range") (hm : X.mg "range" = none) (ha : PE X a (tM X.K A E ρ ma)) (hb : PE X b (tM X.K A E ρ mb)) (hd : PE X d (tM X.K A E ρ md))
    (n1 : starEach [a, b, d] X.env = (false, eval a X.env) :: starEach [b, d] X.env := by rfl) (n2 : starEach [b, d] X.env = (false, eval b X.env) :: starEach [d] X.env := by rfl) (n3 : starEach [d] X.env = (false, eval d X.env) :: starEach [] X.env := by rfl)
    (hpl : (backTo pos (starEach [b, d] X.env)).any (·.1) = false := by rfl) :
    PI X tg (.Call (.Name "range" p) [a, b, d] [] pos) (tI X.K A E ρ (ma >>= fun d => mb >>= fun e => md >>= fun f => lft (dRange3 d e f))) :=
  (pi_range3 hg hm (pa_cons ha (pa_cons hb (pa_cons hd pa_nil n3) n2) n1) n1 hpl).impM fun σ H R ⟨c, F, B, h⟩ => ⟨c, F, B, (tG.bind (R := RD X.K) h).mono fun x H1 ⟨d, c1, F1, e1, r1, h1⟩ => ⟨c1, F1, B, (tG.bind (R := RD X.K) h1).mono fun y H2 ⟨d2, c2, F2, e2, r2, h2⟩ => ⟨c2, F2, B, (tG.bind (R := RD X.K) h2).mono fun z H3 ⟨d3, c3, F3, e3, r3, h3⟩ => by
    obtain ⟨ds, ed, q⟩ := h3.lft
    unfold dRange3 at ed
    split at ed
    · split at ed
      · rename_i hb
        cases ed; cases r1; cases r2; cases r3
        simp only [Bool.and_eq_true, decide_eq_true_eq] at hb
        obtain ⟨⟨⟨⟨b1, b2⟩, b3⟩, b4⟩, b5⟩ := hb
        exact ⟨_, _, _, _, rfl, ⟨b1, b2, b3, (Int.toNat_of_nonneg b4).symm⟩, q _ F3 H3 .refl h3.1.frz ⟨by rw [rngC_len, ← lim_eq]; exact b5, stdy_rngC⟩⟩
      · cases ed
    · cases ed⟩⟩⟩
end
end Mir

set_option maxRecDepth 100000
/-! MirE6: calls with no argument. -/
namespace Mir
open PySem PySem.Spec PyProof.Rows L2
def cstB (x : M (Fl Unit Unit)) : List D → M (Fl Unit Unit)
  | [] => x
  | _ => bad
theorem cstB_nil (x : M (Fl Unit Unit)) : cstB x [] = x := rfl
theorem arg0_nil (x : M D) : arg0 x [] = x := rfl
theorem len0 {α : Type} {ds : List α} (h : ds.length = 0) : ds = [] := List.eq_nil_of_length_eq_zero h
section
variable {X : Cx} {A : Option Addr} {E : Exc → L2.St → Hp → Prop} {ρ : List Sl} {CX : CXT} {k j : Nat} {f : Addr} {fd : FuncData} {ps : List Str} {sp : Sp} {x : Str} {p pos : Pos}
theorem pe_callS0 {E : L2.St → XK} (F : FnOk X.prog X.w X.K X.mg X.base CX k f fd ps sp) (hr : Room k X.A) (hg : Gl X x) (hm : X.mg x = some (.ref f)) (hk : PySem.W.keepIn X.K (.ref f) = true) (hb : Binds X.K fd ps []) (hx : ∀ σ, PassesAt CX X σ (E σ))
    (hdb : (x == ("__debug__" : Str)) = false := by decide) : PE X (.Call (.Name x p) [] [] pos) (fun σ H Q => sp [] H Q (E σ)) := by
  refine ⟨fun pins s σ H Q I h => ?_⟩
  refine wpAny_Call_Name_kw (ld_glob I hg hm ?_ hdb)
  refine PySem.W.callWith_K0 I.kIn hk ?_
  exact run_fnS F hr hb (hx σ) I .nil h
theorem ec0 {f0 : M D} (c : Cl X.prog X.w X.K X.mg X.base k x (spD X.K X.mg 0 (arg0 f0))) (hw : Wsh X E) (hr : Room j X.A) (hk : k ≤ j := by first | decide | omega) (hg : Gl X x := by rfl) (hdb : (x == ("__debug__" : Str)) = false := by decide) :
    PE X (.Call (.Name x p) [] [] pos) (tM X.K A E ρ f0) := by
  obtain ⟨f, fd, ps, F, hm, kp, bd⟩ := c.ex
  obtain ⟨W, tk, hW⟩ := hw.ex
  refine (pe_callS0 F (hr.mono hk) hg hm kp bd (passAt tk) hdb).impM fun σ H Q ⟨c, F, B, w, s, h⟩ => ?_
  exact ⟨rfl, A, c, F, [], w, .nil, h.mono (fun d c' q v F' H' e w' r => q v F' H' e w' r) fun e c' q F' H' x w' C hC => hW e σ H' (q F' H' x w') C hC⟩
end
end Mir

set_option maxRecDepth 100000
/-! MirE7: sorted(set(t)) of a tuple of numbers. -/
namespace Mir
open PySem PySem.Spec PyProof.Rows L2
def putI (k : Int) : List Int → List Int
  | [] => [k]
  | x :: r => if k < x then k :: x :: r else if k = x then x :: r else x :: putI k r
def setI : List Int → List Int
  | [] => []
  | k :: r => putI k (setI r)
theorem mem_putI {k j : Int} : ∀ {xs : List Int}, j ∈ putI k xs ↔ j = k ∨ j ∈ xs
  | [] => by simp [putI]
  | x :: r => by
    unfold putI
    by_cases h : k < x
    · rw [if_pos h]; simp
    · rw [if_neg h]
      by_cases h2 : k = x
      · rw [if_pos h2]; subst h2; simp
      · rw [if_neg h2, List.mem_cons, mem_putI, List.mem_cons]
        constructor
        · rintro (a | a | a)
          · exact .inr (.inl a)
          · exact .inl a
          · exact .inr (.inr a)
        · rintro (a | a | a)
          · exact .inr (.inl a)
          · exact .inl a
          · exact .inr (.inr a)
theorem up_putI {k : Int} : ∀ {xs : List Int}, xs.Pairwise (· < ·) → (putI k xs).Pairwise (· < ·)
  | [], _ => by simp [putI]
  | x :: r, h => by
    have hc := List.pairwise_cons.mp h
    unfold putI
    by_cases h1 : k < x
    · rw [if_pos h1]
      exact List.pairwise_cons.mpr ⟨fun y hy => by
        rcases List.mem_cons.mp hy with e | e
        · rw [e]; exact h1
        · exact Int.lt_trans h1 (hc.1 y e), h⟩
    · rw [if_neg h1]
      by_cases h2 : k = x
      · rw [if_pos h2]; exact h
      · rw [if_neg h2]
        exact List.pairwise_cons.mpr ⟨fun y hy => by
          rcases mem_putI.mp hy with e | e
          · rw [e]; omega
          · exact hc.1 y e, up_putI hc.2⟩
theorem mem_setI {j : Int} : ∀ {xs : List Int}, j ∈ setI xs ↔ j ∈ xs
  | [] => by simp [setI]
  | x :: r => by rw [setI, mem_putI, mem_setI, List.mem_cons]
theorem up_setI : ∀ xs : List Int, (setI xs).Pairwise (· < ·)
  | [] => .nil
  | x :: r => up_putI (up_setI r)
theorem up_eq : ∀ {xs ys : List Int}, xs.Pairwise (· < ·) → ys.Pairwise (· < ·) → (∀ i, i ∈ xs ↔ i ∈ ys) → xs = ys
  | [], [], _, _, _ => rfl
  | [], y :: ys, _, _, h => absurd ((h y).mpr List.mem_cons_self) (by simp)
  | x :: xs, [], _, _, h => absurd ((h x).mp List.mem_cons_self) (by simp)
  | x :: xs, y :: ys, hx, hy, h => by
    have cx := List.pairwise_cons.mp hx
    have cy := List.pairwise_cons.mp hy
    have e : x = y := by
      rcases List.mem_cons.mp ((h x).mp List.mem_cons_self) with e | hm
      · exact e
      · rcases List.mem_cons.mp ((h y).mpr List.mem_cons_self) with e | hm'
        · exact e.symm
        · have h1 := cy.1 x hm
          have h2 := cx.1 y hm'
          omega
    subst e
    rw [up_eq cx.2 cy.2 fun i => ?_]
    constructor
    · intro hi
      rcases List.mem_cons.mp ((h i).mp (List.mem_cons_of_mem _ hi)) with e | hm
      · have := cx.1 i hi; omega
      · exact hm
    · intro hi
      rcases List.mem_cons.mp ((h i).mpr (List.mem_cons_of_mem _ hi)) with e | hm
      · have := cy.1 i hi; omega
      · exact hm
def dSortSet : D → Option (List D)
  | .tuple xs => match intsOf xs with
    | some ns => if ns.length < 64 then some ((setI ns).map PyData.int) else none
    | none => none
  | _ => none
section
variable {X : Cx} {A : Option Addr} {E : Exc → L2.St → Hp → Prop} {ρ : List Sl} {e : Expr} {me : M D} {p p2 pos pos2 : Pos} {te : TE}
def tSetT (K : PySem.W.Frag) (w : World) (te : TE) : TE := fun σ H Q => te σ H fun x H1 => ∃ (q : Addr) (ns : List Int), x = .ref q ∧ SqT K H1 q (ns.map V.int) ∧ ns.length < 64 ∧ ∀ a n, H1 a = none → n ≤ ns.length → Q (.ref a) (upd H1 a (SetO w a (fun j => decide (j ∈ ns)) n))
theorem pe_setT (hc : X.calm = true) (hg : Gl X "set") (hm : X.mg "set" = none) (he : PE X e te) (na : starEach [e] X.env = (false, eval e X.env) :: starEach [] X.env := by rfl) : PE X (.Call (.Name "set" p) [e] [] pos) (tSetT X.K X.w te) := by
  refine ⟨fun pins s σ H Q I h => ?_⟩
  refine Call_ (ld_blt I hg hm PyProof.Rows.boot_set (PyProof.Rows.callWith_type1 (one_arg he I h (fun v s1 x H1 I1 r1 q1 => ?_) na) na))
  obtain ⟨q0, ns, rfl, hq, hb, q⟩ := q1
  cases r1
  obtain ⟨its, rv, pt, hz⟩ := I1.tuple hq
  refine call_set_tupI ns (I1.ok.hd hc) (show s1.heap.IsTuple q0 its.toArray from pt) (ints_of_vals rv) (by unfold scanBound; omega) fun h' tk c R1 hcn k => ?_
  exact ⟨.ref _, _, I1.laid (t' := tk) k (Nat.le_refl _) (setO_new R1), rfl, q _ c (I1.hok.fresh (Nat.le_refl _)) hcn⟩
theorem eo_sortSet (hc : X.calm = true) (hg : Gl X "sorted") (hm : X.mg "sorted" = none) (hg2 : Gl X "set") (hm2 : X.mg "set" = none) (he : PE X e (tM X.K A E ρ me)) (na : starEach [e] X.env = (false, eval e X.env) :: starEach [] X.env := by rfl)
    (n2 : starEach [.Call (.Name "set" p2) [e] [] pos2] X.env = (false, eval (.Call (.Name "set" p2) [e] [] pos2) X.env) :: starEach [] X.env := by rfl) :
    PE X (.Call (.Name "sorted" p) [.Call (.Name "set" p2) [e] [] pos2] [] pos) (tO X.K A E ρ (me >>= fun d => lft (dSortSet d))) :=
  (pe_callB (cr_sortedSet hc) hg hm rfl (pa_cons (pe_setT hc hg2 hm2 he na) pa_nil n2) (he := n2) (hpl := rfl)).impM fun σ H Q ⟨c, F, B, w, s, h⟩ => ⟨c, F, B, w, s, (Wp_bind.mp h).mono (fun d c1 q v F1 H1 x1 w1 r => by
    obtain ⟨ds, ed, q⟩ := Wp_lft q
    unfold dSortSet at ed
    split at ed
    · split at ed
      · rename_i ns en
        split at ed
        · rename_i hl
          cases ed
          cases r with
          | tup h2 p2 =>
            have h3 := SqT.sameM w1.frz.sub h2
            rw [ints_ok p2 en] at h3
            refine ⟨_, ns, rfl, h3, hl, fun a n ha hn => ⟨a, _, n, rfl, upd_same, by omega, fun ns' p' hp hmm hln hpn => ?_⟩⟩
            have e1 : ns' = setI ns := up_eq hp (up_setI ns) fun i => by rw [hmm i, decide_eq_true_eq, mem_setI]
            subst e1
            have hpn1 : H1 p' = none := by
              have hne : p' ≠ a := fun e => by rw [e, upd_same] at hpn; cases hpn
              rwa [upd_ne hne] at hpn
            have dl : DpAll X.K F1 ((setI ns).map V.int) ((setI ns).map PyData.int) := by
              generalize setI ns = zs
              induction zs with
              | nil => exact .nil
              | cons z zs ih => exact .cons (.int _) ih
            exact q p' _ F1 _ ((x1.trans (Ext.new' ha).to).trans (Ext.new' hpn).to) ((w1.ext (Ext.new' ha) (w1.frz.new' ha)).ext (Ext.new' hpn) ((w1.frz.new' ha).new' hpn)) (x1.d p' hpn1) (Same.free w1.frz.sub hpn1) upd_same dl
        · cases ed
      · cases ed
    · cases ed) fun _ _ q => q⟩
end
end Mir

set_option maxRecDepth 100000
/-! MirE8: zip over any two iterators while the pair that it gave out first is still held. -/
namespace Mir
open PySem PySem.Spec PyProof.Rows
section
variable {prog : Program} {w : World} {A : Around} {E : Value → Shared → Prop} {s : Shared} {z TI TO T i1 i2 : Addr} {fp1 fp2 : List Addr} {n1 n2 i : Nat} {P1 P2 : Nat → Value → Prop} {St1 St2 : Nat → Heap → Prop} {f : Bool} {oT : Obj}
theorem zipH_item {Q : Value → Shared → Prop} (S : ZipSep2 z TI TO i1 i2 fp1 fp2) (D1 : Draws prog w A i1 fp1 n1 P1 St1) (D2 : Draws prog w A i2 fp2 n2 P2 St2)
    (hz : IsZipHeld s.heap z TI TO T f) (hT : s.heap.get? T = some oT) (hTI : IsTupOf2 s.heap TI (.ref i1) (.ref i2)) (st1 : St1 i s.heap) (st2 : St2 i s.heap) (l1 : i < n1) (l2 : i < n2)
    (hQ : ∀ x1 x2 h' tk, P1 i x1 → P2 i x2 → IsZipHeld h' z TI TO T true → St1 (i + 1) h' → St2 (i + 1) h' → IsTupOf2 h' s.heap.objs.size x1 x2 → h'.objs.size = s.heap.objs.size + 1 →
      (∀ c o, c ≠ z → c ≠ i1 → c ≠ i2 → s.heap.get? c = some o → h'.get? c = some o) → Q (.ref s.heap.objs.size) { s with heap := h', toks := tk }) :
    wpAny (model prog w) A (Builtin.«zip.__next__» ⟨[.ref z], []⟩) (fun fin s' => ∃ v, fin = .done (.ret v) ∧ Q v s') E s := by
  obtain ⟨hp, g, dr, tk0, os⟩ := s
  show wpAny (model prog w) A (field (.ref z) 2 >>= _) _ E _
  refine wpAny_bind (wpAny_field hz rfl (x := .bool false) rfl ?_)
  show wpAny (model prog w) A (field (.ref z) 3 >>= _) _ E _
  refine wpAny_bind (wpAny_field hz rfl (x := .ref TI) rfl (wpAny_bind (wpAny_seqItems hTI rfl ?_)))
  show wpAny (model prog w) A (Builtin.SmallTypes.ownedTupleIsFree (.ref z) >>= _) _ E _
  refine wpAny_bind (wpAny_tupleHeld_zip hz hT fun g0 hz0 hs0 => ?_); simp only [Bool.false_eq_true, if_false]
  replace hs0 : Heap.SameBut z hp g0 := hs0
  refine wpAny_bind ?_
  rw [← Array.forIn_toList]; simp only [List.forIn_cons, List.forIn_nil]
  refine wpAny_bind (wpAny_bind (wpAny_holding ?_))
  show wpAny (model prog w) A (Builtin.SmallTypes.nextOf (.ref i1) >>= _) _ E ⟨g0, g, dr, tk0, os⟩
  refine wpAny_bind (D1.item i _ _ _ l1 (D1.over st1 hs0 S.zf1) fun x1 p1 tk1 hx1 sn1 hp1 => wpAny_pure (wpAny_pure ?_))
  replace hp1 : Heap.SameBut i1 g0 p1 := hp1
  refine wpAny_bind (wpAny_bind (wpAny_holding ?_))
  show wpAny (model prog w) A (Builtin.SmallTypes.nextOf (.ref i2) >>= _) _ E ⟨p1, g, dr, tk1, os⟩
  refine wpAny_bind (D2.item i _ _ _ l2 (D2.over (D2.over st2 hs0 S.zf2) hp1 S.sep1_2) fun x2 p2 tk2 hx2 sn2 hp2 => wpAny_pure (wpAny_pure (wpAny_pure ?_)))
  replace hp2 : Heap.SameBut i2 p1 p2 := hp2
  show wpAny (model prog w) A (newTuple [x1, x2] >>= _) _ E ⟨p2, g, dr, tk2, os⟩
  refine wpAny_bind (wpAny_newTuple ?_)
  have hsz : p2.objs.size = hp.objs.size := by rw [hp2.1, hp1.1, hs0.1]
  have hzz : IsZipHeld p2 z TI TO T true := hp2.extBut _ _ S.zi2 (hp1.extBut _ _ S.zi1 hz0)
  have kk : ∀ c o, c ≠ z → c ≠ i1 → c ≠ i2 → hp.get? c = some o → p2.get? c = some o := fun c o c1 c2 c3 e => hp2.extBut _ _ c3 (hp1.extBut _ _ c2 (hs0.extBut _ _ c1 e))
  refine wpAny_pure ⟨_, rfl, ?_⟩
  show Q (.ref p2.objs.size) ⟨p2.push { cls := .type "tuple", data := .seq #[x1, x2] }, g, dr, tk2, os⟩
  have hnew : IsTupOf2 (p2.push { cls := .type "tuple", data := .seq #[x1, x2] }) p2.objs.size x1 x2 := Heap.get?_push_size _ rfl
  have hlen : (p2.push { cls := .type "tuple", data := .seq #[x1, x2] }).objs.size = p2.objs.size + 1 := Heap.size_push ..
  have up : ∀ c o, p2.get? c = some o → (p2.push { cls := .type "tuple", data := .seq #[x1, x2] }).get? c = some o := fun c o e => Heap.get?_push_of_some _ e
  rw [hsz] at hnew hlen ⊢
  exact hQ x1 x2 _ tk2 hx1 hx2 (up _ _ hzz) (D1.frame _ _ _ (D1.over sn1 hp2 S.sep2_1) fun b _ o e => up b o e) (D2.frame _ _ _ sn2 fun b _ o e => up b o e) hnew hlen fun c o c1 c2 c3 e => up c o (kk c o c1 c2 c3 e)
theorem zipH_end {Q : PySem.Fin → Shared → Prop} (S : ZipSep2 z TI TO i1 i2 fp1 fp2) (D1 : Draws prog w A i1 fp1 n1 P1 St1) (D2 : Draws prog w A i2 fp2 n2 P2 St2)
    (hz : IsZipHeld s.heap z TI TO T f) (hT : s.heap.get? T = some oT) (hTI : IsTupOf2 s.heap TI (.ref i1) (.ref i2)) (st1 : St1 i s.heap) (st2 : St2 i s.heap) (l1 : i ≤ n1) (l2 : i ≤ n2) (hend : i = n1 ∨ i = n2)
    (hE : ∀ h' tk e, (∀ c o, c ≠ z → c ≠ i1 → c ≠ i2 → s.heap.get? c = some o → h'.get? c = some o) → (∃ o, h'.get? e = some o ∧ o.cls = .type "StopIteration") → E (.ref e) { s with heap := h', toks := tk }) :
    wpAny (model prog w) A (Builtin.«zip.__next__» ⟨[.ref z], []⟩) Q E s := by
  obtain ⟨hp, g, dr, tk0, os⟩ := s
  show wpAny (model prog w) A (field (.ref z) 2 >>= _) _ E _
  refine wpAny_bind (wpAny_field hz rfl (x := .bool false) rfl ?_)
  show wpAny (model prog w) A (field (.ref z) 3 >>= _) _ E _
  refine wpAny_bind (wpAny_field hz rfl (x := .ref TI) rfl (wpAny_bind (wpAny_seqItems hTI rfl ?_)))
  show wpAny (model prog w) A (Builtin.SmallTypes.ownedTupleIsFree (.ref z) >>= _) _ E _
  refine wpAny_bind (wpAny_tupleHeld_zip hz hT fun g0 hz0 hs0 => ?_); simp only [Bool.false_eq_true, if_false]
  replace hs0 : Heap.SameBut z hp g0 := hs0
  refine wpAny_bind ?_
  rw [← Array.forIn_toList]; simp only [List.forIn_cons, List.forIn_nil]
  refine wpAny_bind (wpAny_bind (wpAny_holding ?_))
  show wpAny (model prog w) A (Builtin.SmallTypes.nextOf (.ref i1) >>= _) _ E ⟨g0, g, dr, tk0, os⟩
  by_cases h1 : i = n1
  · subst h1
    refine wpAny_bind (D1.done _ _ _ (D1.over st1 hs0 S.zf1) fun h' e hk he => ?_)
    exact hE h' tk0 e (fun c o c1 c2 _ x => hk _ _ c2 (hs0.extBut _ _ c1 x)) he
  · have h2 : i = n2 := hend.resolve_left h1
    subst h2
    refine wpAny_bind (D1.item i _ _ _ (by omega) (D1.over st1 hs0 S.zf1) fun x1 p1 tk1 hx1 sn1 hp1 => wpAny_pure (wpAny_pure ?_))
    replace hp1 : Heap.SameBut i1 g0 p1 := hp1
    refine wpAny_bind (wpAny_bind (wpAny_holding ?_))
    show wpAny (model prog w) A (Builtin.SmallTypes.nextOf (.ref i2) >>= _) _ E ⟨p1, g, dr, tk1, os⟩
    refine wpAny_bind (D2.done _ _ _ (D2.over (D2.over st2 hs0 S.zf2) hp1 S.sep1_2) fun h' e hk he => ?_)
    exact hE h' tk1 e (fun c o c1 c2 c3 x => hk _ _ c3 (hp1.extBut _ _ c2 (hs0.extBut _ _ c1 x))) he
theorem nextH_item {Q : Option Value → Shared → Prop} (S : ZipSep2 z TI TO i1 i2 fp1 fp2) (D1 : Draws prog w A.in1 i1 fp1 n1 P1 St1) (D2 : Draws prog w A.in1 i2 fp2 n2 P2 St2)
    (hz : IsZipHeld s.heap z TI TO T f) (hT : s.heap.get? T = some oT) (hTI : IsTupOf2 s.heap TI (.ref i1) (.ref i2)) (st1 : St1 i s.heap) (st2 : St2 i s.heap) (l1 : i < n1) (l2 : i < n2)
    (hQ : ∀ x1 x2 h' tk, P1 i x1 → P2 i x2 → IsZipHeld h' z TI TO T true → St1 (i + 1) h' → St2 (i + 1) h' → IsTupOf2 h' s.heap.objs.size x1 x2 → h'.objs.size = s.heap.objs.size + 1 →
      (∀ c o, c ≠ z → c ≠ i1 → c ≠ i2 → s.heap.get? c = some o → h'.get? c = some o) → Q (some (.ref s.heap.objs.size)) { s with heap := h', toks := tk }) :
    wpAny (model prog w) A (pyNext (.ref z)) Q E s := by
  have ty : s.TypeIs (.ref z) "zip" := ⟨_, hz, rfl⟩
  unfold pyNext
  exact wpAny_bind (wpAny_attempt (wpAny_callSpecial?_slot (name := Str.ofString "__next__") ty F.slot_zip_next (wpAny_call_entry F.slot_zip_next ty F.entry_zip_next
    (zipH_item S D1 D2 hz hT hTI st1 st2 l1 l2 fun x1 x2 h' tk y1 y2 b1 b2 b3 b4 b5 b6 => wpAny_pure (hQ x1 x2 h' tk y1 y2 b1 b2 b3 b4 b5 b6)) (F.args_zip_next_1 _))))
theorem nextH_end {Q : Option Value → Shared → Prop} (S : ZipSep2 z TI TO i1 i2 fp1 fp2) (D1 : Draws prog w A.in1 i1 fp1 n1 P1 St1) (D2 : Draws prog w A.in1 i2 fp2 n2 P2 St2)
    (hz : IsZipHeld s.heap z TI TO T f) (hT : s.heap.get? T = some oT) (hTI : IsTupOf2 s.heap TI (.ref i1) (.ref i2)) (st1 : St1 i s.heap) (st2 : St2 i s.heap) (l1 : i ≤ n1) (l2 : i ≤ n2) (hend : i = n1 ∨ i = n2)
    (hQ : ∀ h' tk, (∀ c o, c ≠ z → c ≠ i1 → c ≠ i2 → s.heap.get? c = some o → h'.get? c = some o) → Q none { s with heap := h', toks := tk }) : wpAny (model prog w) A (pyNext (.ref z)) Q E s := by
  have ty : s.TypeIs (.ref z) "zip" := ⟨_, hz, rfl⟩
  unfold pyNext
  refine wpAny_bind (wpAny_attempt (wpAny_callSpecial?_slot (name := Str.ofString "__next__") ty F.slot_zip_next (wpAny_call_entry F.slot_zip_next ty F.entry_zip_next
    (zipH_end S D1 D2 hz hT hTI st1 st2 l1 l2 hend fun h' tk e hk he => ?_) (F.args_zip_next_1 _))))
  obtain ⟨o, ho, hc⟩ := he
  exact wpAny_bind (wpAny_isInstance (T := "StopIteration") (b := true) ⟨o, ho, hc⟩ isSubtype_stop (wpAny_pure (hQ _ _ hk)))
end
end Mir

set_option maxRecDepth 100000
/-! MirE9: list(zip(a, b)). -/
namespace Mir
open PySem PySem.Spec PyProof.Rows L2
section
variable {X : Cx} {pins : List (Addr × Obj)} {σ : L2.St} {H : Hp} {s : Shared}
theorem zip_no_len : typeLookup (.type "zip") "__len__" = pure none := by rw [typeLookup_type, builtinLookup_eq_fast]; kernel_rfl
theorem zip_no_hint : typeLookup (.type "zip") "__length_hint__" = pure none := by rw [typeLookup_type, builtinLookup_eq_fast]; kernel_rfl
/-- what an iterator of a source draws, under any surroundings in which no exception is handled -/
theorem draws_at {A : Around} {k : Kd} {x : V} {xs : List V} {it : Addr} {i : Nat} (hA : A.handled = none) (I : Inv X pins σ H s) (sv : SrcV X.K H k x xs) (st : SubSt k x it i s.heap) (f : FpOk X pins H it) :
    ∃ fp P St, Draws X.prog X.w A it fp xs.length P St ∧ it ∈ fp ∧ (∀ i, SubSt k x it i s.heap → St i s.heap) ∧ (∀ i h, St i h → SubSt k x it i h) ∧ (∀ i v, P i v → ∃ w, xs[i]? = some w ∧ RelV w v) ∧ ∀ b, b ∈ fp → b = it ∨ ∃ a, b = a ∧ (SqL X.K H a xs ∨ SqT X.K H a xs) := by
  cases k with
  | l =>
    obtain ⟨a, rfl, hq⟩ := sv
    obtain ⟨its, rv, pl, hz⟩ := I.list hq
    have hn : its.toArray.size = xs.length := by rw [List.size_toArray, rv.length]
    refine ⟨[it, a], fun i v => its.toArray[i]? = some v, fun i h => h.IsListIter it a i ∧ h.IsList a its.toArray, by rw [← hn]; exact Draws.list hA it a (src_ne I (.inl hq) f) its.toArray, by simp, fun j q => ?_, fun j h q => ⟨a, rfl, q.1⟩, fun j v q => ?_, fun b hb => ?_⟩
    · obtain ⟨a', e, r⟩ := q
      cases e
      exact ⟨r, pl.isList⟩
    · have hj : j < its.length := by simpa using (Array.getElem?_eq_some_iff.mp q).1
      have hx : xs[j]? = some (xs[j]'(by rw [rv.length]; exact hj)) := List.getElem?_eq_getElem _
      obtain ⟨u, e, r⟩ := rv.get hx
      rw [show its[j]? = some v by simpa using q] at e
      cases e
      exact ⟨_, hx, r⟩
    · exact (List.mem_cons.mp hb).elim .inl fun e => .inr ⟨b, rfl, .inl (by rw [List.mem_singleton.mp e]; exact hq)⟩
  | t =>
    obtain ⟨a, rfl, hq⟩ := sv
    obtain ⟨its, rv, pl, hz⟩ := I.tuple hq
    have hn : its.toArray.size = xs.length := by rw [List.size_toArray, rv.length]
    refine ⟨[it, a], fun i v => its.toArray[i]? = some v, fun i h => h.IsTupleIter it a i ∧ h.IsTuple a its.toArray, by rw [← hn]; exact Draws.tuple hA it a (src_ne I (.inr hq) f) its.toArray, by simp, fun j q => ?_, fun j h q => ⟨a, rfl, q.1⟩, fun j v q => ?_, fun b hb => ?_⟩
    · obtain ⟨a', e, r⟩ := q
      cases e
      exact ⟨r, pl⟩
    · have hj : j < its.length := by simpa using (Array.getElem?_eq_some_iff.mp q).1
      have hx : xs[j]? = some (xs[j]'(by rw [rv.length]; exact hj)) := List.getElem?_eq_getElem _
      obtain ⟨u, e, r⟩ := rv.get hx
      rw [show its[j]? = some v by simpa using q] at e
      cases e
      exact ⟨_, hx, r⟩
    · exact (List.mem_cons.mp hb).elim .inl fun e => .inr ⟨b, rfl, .inr (by rw [List.mem_singleton.mp e]; exact hq)⟩
  | s =>
    obtain ⟨z, rfl, rfl⟩ := sv
    obtain ⟨z', t, e, st⟩ := st
    cases e
    have hn : z.cps.size = (z.cps.toList.map fun c => V.str ⟨#[c]⟩).length := by simp
    refine ⟨[it], fun i v => ∃ c u, z.cps[i]? = some c ∧ v = .str ⟨#[c]⟩ u, fun i h => h.IsStrIter it (strIterType z) z t i, by rw [← hn]; exact Draws.text hA it z t, by simp, fun j q => ?_, fun j h q => ⟨z, t, rfl, q⟩, fun j v q => ?_, fun b hb => .inl (List.mem_singleton.mp hb)⟩
    · obtain ⟨z2, t2, e2, q⟩ := q
      cases e2
      obtain ⟨o1, a1, b1, c1⟩ := st
      obtain ⟨o2, a2, b2, c2⟩ := q
      rw [a1] at a2
      cases a2
      rw [c1] at c2
      have e3 : t = t2 := by
        injection c2 with c2
        have q0 := congrArg (fun a : Array Value => a[0]?) c2
        simp at q0
        exact q0
      subst e3
      exact ⟨_, a1, b1, by rw [c1, c2]⟩
    · obtain ⟨c, u, hc, rfl⟩ := q
      exact ⟨.str ⟨#[c]⟩, by rw [List.getElem?_map, Array.getElem?_toList, hc]; rfl, ⟨u, rfl⟩⟩
/-- what is gathered: pairs of what the two hold -/
def Prs (H0 H : Hp) (vs xs ys : List V) (n : Nat) : Prop := vs.length = n ∧ ∀ j, j < n → ∃ T a b, vs[j]? = some (.ref T) ∧ xs[j]? = some a ∧ ys[j]? = some b ∧ H T = some (.tup [a, b]) ∧ H0 T = none
/-- a zip ahead of turn i; D: where its pairs are gathered -/
def ZS (k1 k2 : Kd) (x y : V) (z TI TO i1 i2 D : Addr) (i : Nat) (h : Heap) : Prop := IsTupOf2 h TI (.ref i1) (.ref i2) ∧ SubSt k1 x i1 i h ∧ SubSt k2 y i2 i h ∧ TO < h.objs.size ∧
  ((IsZip h z TI TO .none ∧ ∃ a b, IsTupOf2 h TO a b) ∨ ∃ T f oT, IsZipHeld h z TI TO T f ∧ h.get? T = some oT ∧ T ∉ [z, TI, TO, i1, i2] ∧ T ≠ D)
theorem ZS.keep {k1 k2 : Kd} {x y : V} {z TI TO i1 i2 D : Addr} {i : Nat} {h h' : Heap} (hD : D ∉ [z, TI, TO, i1, i2]) (st : ZS k1 k2 x y z TI TO i1 i2 D i h) (sb : Heap.SameBut D h h') : ZS k1 k2 x y z TI TO i1 i2 D i h' := by
  have ne : ∀ b, b ∈ [z, TI, TO, i1, i2] → b ≠ D := fun b hb q => hD (q ▸ hb)
  obtain ⟨a1, a2, a3, a4, a5⟩ := st
  refine ⟨(sb.2 _ (ne TI (by simp))).trans a1, a2.keep fun o q => (sb.2 _ (ne i1 (by simp))).trans q, a3.keep fun o q => (sb.2 _ (ne i2 (by simp))).trans q, by rw [sb.1]; exact a4, ?_⟩
  rcases a5 with ⟨hz, a, b, hTO⟩ | ⟨T, f, oT, hz, hT, hTn, hTD⟩
  · exact .inl ⟨(sb.2 _ (ne z (by simp))).trans hz, a, b, (sb.2 _ (ne TO (by simp))).trans hTO⟩
  · exact .inr ⟨T, f, oT, (sb.2 _ (ne z (by simp))).trans hz, (sb.2 _ hTD).trans hT, hTn, hTD⟩
theorem zloop {A : Around} (hA : A.handled = none) {k1 k2 : Kd} {x y : V} {xs ys : List V} {z TI TO i1 i2 D : Addr} {res : Value} {R : Result → Shared → Prop} (D5 : Apart5 z TI TO i1 i2) (hD : D ∉ [z, TI, TO, i1, i2]) (hsz : min xs.length ys.length < sizeLine) {H0 : Hp} (sx : SrcV X.K H0 k1 x xs) (sy : SrcV X.K H0 k2 y ys) (hD0 : H0 D = none) :
    ∀ (k i : Nat) (s : Shared) (H : Hp) (vs : List V), min xs.length ys.length - i = k → i ≤ min xs.length ys.length → Inv X pins σ H s → (∀ b ∈ [z, TI, TO, i1, i2], FpOk X pins H b) → ZS k1 k2 x y z TI TO i1 i2 D i s.heap → Same H0 H → H D = some (.lst vs) → Prs H0 H vs xs ys i →
    (∀ s' H' vs', Inv X pins σ H' s' → H' D = some (.lst vs') → Prs H0 H' vs' xs ys (min xs.length ys.length) → Same H0 H' → (∀ b, H' b = none → H b = none) → R (.ok (.ret res)) s') →
    codeAny (model X.prog X.w) A (.builtin "list.extend.loop" ⟨[.ref D, .ref z, res], []⟩) R s := by
  have sep : ∀ {s : Shared} {H : Hp} {fp1 fp2 : List Addr}, Inv X pins σ H s → Same H0 H → (∀ b ∈ [z, TI, TO, i1, i2], FpOk X pins H b) → i1 ∈ fp1 → i2 ∈ fp2 → (∀ b, b ∈ fp1 → b = i1 ∨ ∃ a, b = a ∧ (SqL X.K H a xs ∨ SqT X.K H a xs)) → (∀ b, b ∈ fp2 → b = i2 ∨ ∃ a, b = a ∧ (SqL X.K H a ys ∨ SqT X.K H a ys)) → ZipSep2 z TI TO i1 i2 fp1 fp2 := fun I sm hf e1 e2 m1 m2 => by
    have o1 : ∀ b, b ∈ [z, TI, TO, i1, i2] → b ≠ i1 → b ∉ _ := fun b hb ne hm => by
      rcases m1 b hm with e | ⟨a, e, q⟩
      · exact ne e
      · exact src_ne I q (hf b hb) e.symm
    have o2 : ∀ b, b ∈ [z, TI, TO, i1, i2] → b ≠ i2 → b ∉ _ := fun b hb ne hm => by
      rcases m2 b hm with e | ⟨a, e, q⟩
      · exact ne e
      · exact src_ne I q (hf b hb) e.symm
    exact ⟨D5.TIz, D5.TOz, D5.TITO, D5.TIi1, e1, o1 z (by simp) D5.zi1, o1 TO (by simp) D5.TOi1, D5.TIi2, e2, o2 z (by simp) D5.zi2, o2 TO (by simp) D5.TOi2, o2 i1 (by simp) D5.i12, o1 i2 (by simp) (Ne.symm D5.i12)⟩
  intro k
  induction k with
  | zero =>
    intro i s H vs hk hi I hf st sm hl hp hR
    have hin : i = min xs.length ys.length := by omega
    obtain ⟨hTI, s1, s2, tol, hzz⟩ := st
    have hA2 : A.in1.in1.handled = none := hA
    obtain ⟨fp1, P1, St1, D1, e1, t1, b1, v1, m1⟩ := draws_at hA2 I (SrcV.same sm sx) s1 (hf i1 (by simp))
    obtain ⟨fp2, P2, St2, D2, e2, t2, b2, v2, m2⟩ := draws_at hA2 I (SrcV.same sm sy) s2 (hf i2 (by simp))
    have S := sep I sm hf e1 e2 m1 m2
    have hend : i = xs.length ∨ i = ys.length := by omega
    have fin : ∀ h' tk, (∀ c o, c ≠ z → c ≠ TO → c ≠ i1 → c ≠ i2 → s.heap.get? c = some o → h'.get? c = some o) → R (.ok (.ret res)) { s with heap := h', toks := tk } := fun h' tk hk =>
      hR _ H vs (I.turnedL (t' := tk) (ch := [z, TI, TO, i1, i2]) (fun c o hb q => hk c o (fun q' => hb (by simp [q'])) (fun q' => hb (by simp [q'])) (fun q' => hb (by simp [q'])) (fun q' => hb (by simp [q'])) q) hf) hl (hin ▸ hp) sm fun b e => e
    refine codeAny_builtin F.entry_extend_loop ?_
    rw [Around.under_plainId F.plain_extend_loop _]
    show wpAny (model X.prog X.w) A.in1 (pyNext (.ref z) >>= _) _ _ s
    rcases hzz with ⟨hz, a, b, hTO⟩ | ⟨T, f, oT, hz, hT, hTn, hTD⟩
    · exact wpAny_bind (wpAny_pyNext_zipD2_end S D1 D2 hz hTI hTO (t1 i s1) (t2 i s2) (by omega) (by omega) hend fun h' tk hk => wpAny_pure (fin h' tk hk))
    · exact wpAny_bind (nextH_end S D1 D2 hz hT hTI (t1 i s1) (t2 i s2) (by omega) (by omega) hend fun h' tk hk => wpAny_pure (fin h' tk fun c o c1 _ c3 c4 q => hk c o c1 c3 c4 q))
  | succ k ih =>
    intro i s H vs hk hi I hf st sm hl hp hR
    have hlt : i < min xs.length ys.length := by omega
    obtain ⟨hTI, s1, s2, tol, hzz⟩ := st
    have hA2 : A.in1.in1.handled = none := hA
    obtain ⟨fp1, P1, St1, D1, e1, t1, b1, v1, m1⟩ := draws_at hA2 I (SrcV.same sm sx) s1 (hf i1 (by simp))
    obtain ⟨fp2, P2, St2, D2, e2, t2, b2, v2, m2⟩ := draws_at hA2 I (SrcV.same sm sy) s2 (hf i2 (by simp))
    have S := sep I sm hf e1 e2 m1 m2
    have lo : ∀ c ∈ [z, TI, TO, i1, i2], c < s.heap.objs.size := fun c hc => by
      have e' : c = z ∨ c = TI ∨ c = TO ∨ c = i1 ∨ c = i2 := by simpa using hc
      rcases e' with q | q | q | q | q
      · rw [q]
        rcases hzz with ⟨hz, _⟩ | ⟨_, _, _, hz, _⟩ <;> exact Heap.lt_size hz
      · rw [q]; exact Heap.lt_size hTI
      · rw [q]; exact tol
      · obtain ⟨o, ho, _⟩ := s1.obj
        rw [q]; exact Heap.lt_size ho
      · obtain ⟨o, ho, _⟩ := s2.obj
        rw [q]; exact Heap.lt_size ho
    have hDlt : D < s.heap.objs.size := by
      obtain ⟨_, its, n, _, e⟩ := I.hok D _ hl
      exact Heap.lt_size e
    have go : ∀ u1 u2 h' tk, P1 i u1 → P2 i u2 → IsTupOf2 h' s.heap.objs.size u1 u2 → (∀ c o, c ≠ z → c ≠ TO → c ≠ i1 → c ≠ i2 → s.heap.get? c = some o → h'.get? c = some o) → ZS k1 k2 x y z TI TO i1 i2 D (i + 1) h' →
        wpAny (model X.prog X.w) A.in1 (updateSeq D (·.push (.ref s.heap.objs.size)) >>= fun _ => again (.builtin "list.extend.loop" ⟨[.ref D, .ref z, res], []⟩)) (fun fin s' => match fin with | .done f => R (.ok f) s' | .again c' => c'.quiet = true ∧ codeAny (model X.prog X.w) A c' R s') (fun e s' => R (.error e) s') { s with heap := h', toks := tk } := fun u1 u2 h' tk p1 p2 hT hk st' => by
      obtain ⟨w1, x1, r1⟩ := v1 i u1 p1
      obtain ⟨w2, x2, r2⟩ := v2 i u2 p2
      have hNn : H s.heap.objs.size = none := I.hok.fresh (Nat.le_refl _)
      have new : ObjOk X.prog X.w (upd H s.heap.objs.size (.tup [w1, w2])) h' s.heap.objs.size (.tup [w1, w2]) :=
        ⟨by show 2 ≤ sizeLine; decide, [u1, u2], .cons r1 (.cons r2 .nil), ⟨_, hT, rfl, _, rfl⟩⟩
      have I1 : Inv X pins σ (upd H s.heap.objs.size (.tup [w1, w2])) { s with heap := h', toks := tk } :=
        I.turnedNew (t' := tk) (ch := [z, TI, TO, i1, i2]) (fun c o hb q => hk c o (fun q' => hb (by simp [q'])) (fun q' => hb (by simp [q'])) (fun q' => hb (by simp [q'])) (fun q' => hb (by simp [q'])) q) hf (Nat.le_refl _) new
      have hD1 : upd H s.heap.objs.size (.tup [w1, w2]) D = some (.lst vs) := by rw [upd_ne (Nat.ne_of_lt hDlt)]; exact hl
      obtain ⟨hvz, its, n, ri, e⟩ := I1.hok D _ hD1
      have hvl : vs.length = i := hp.1
      have hil := ri.length
      have hmin : i < xs.length := Nat.lt_of_lt_of_le hlt (Nat.min_le_left _ _)
      have hisz : its.toArray.size < sizeLine := by rw [List.size_toArray]; omega
      refine wpAny_bind (wpAny_updateSeq (hz := Nat.le_of_lt hisz) (_hz' := by rw [Array.size_push]; omega) e rfl (wpAny_pure ⟨plainId_quiet F.plain_extend_loop _, ?_⟩))
      have sb : Heap.SameBut D h' (h'.update D (Obj.mapSeq (·.push (.ref s.heap.objs.size)))) := Heap.SameBut.update ..
      have ho' : (h'.update D (Obj.mapSeq (·.push (.ref s.heap.objs.size)))).get? D = some { cls := .type "list", data := .seq (its.toArray.push (.ref s.heap.objs.size)) (n + 1) } := by
        rw [Heap.get?_update_self _ e (by rw [mapSeq_push]; rfl), mapSeq_push]
      have I2 : Inv X pins σ (upd (upd H s.heap.objs.size (.tup [w1, w2])) D (.lst (vs ++ [.ref s.heap.objs.size]))) { s with heap := h'.update D (Obj.mapSeq (·.push (.ref s.heap.objs.size))), toks := tk } :=
        I1.write (t' := tk) (by rw [hD1]; trivial) (.inl rfl) (fun b u hb q => (sb.2 b hb).trans q) ⟨_, ho'⟩ ⟨by rw [List.length_append, hvl]; show i + 1 ≤ sizeLine; omega, its ++ [.ref s.heap.objs.size], n + 1, ri.append (.cons (show RelV (.ref s.heap.objs.size) (.ref s.heap.objs.size) from rfl) .nil), by rw [ho']; simp⟩
      have hN' : s.heap.objs.size ≠ D := Nat.ne_of_gt hDlt
      refine ih (i + 1) _ _ (vs ++ [.ref s.heap.objs.size]) (by omega) (by omega) I2 (fun b hb => ?_) ?_ (fun b o q => ?_) (upd_same ..) ⟨by rw [List.length_append, hvl]; rfl, fun j hj => ?_⟩ ?_
      · have q := hf b hb
        refine ⟨?_, q.2⟩
        rw [upd_ne (show b ≠ D from fun q2 => hD (q2 ▸ hb)), upd_ne (Nat.ne_of_lt (lo b hb))]
        exact q.1
      · exact st'.keep hD sb
      · have nb : b ≠ D := fun z => by rw [z, hD0] at q; cases q
        have q2 := sm b o q
        rw [upd_ne nb, upd_ne (ne_of_none q2 hNn)]
        exact q2
      · by_cases hji : j < i
        · obtain ⟨T, a, b, q1, q2, q3, q4, q5⟩ := hp.2 j hji
          refine ⟨T, a, b, by rw [List.getElem?_append_left (by omega)]; exact q1, q2, q3, ?_, q5⟩
          rw [upd_ne (fun z => by rw [z, hl] at q4; cases q4), upd_ne (ne_of_none q4 hNn)]
          exact q4
        · have hj2 : j = i := by omega
          subst hj2
          exact ⟨_, w1, w2, by rw [List.getElem?_append_right (by omega), hvl, Nat.sub_self]; rfl, x1, x2, by rw [upd_ne hN', upd_same], Same.free sm hNn⟩
      · intro s' H' vs' I' hl' hp' sm' fr
        refine hR s' H' vs' I' hl' hp' sm' fun b hb => ?_
        have q := fr b hb
        have b1 : b ≠ D := fun z => by rw [z, upd_same] at q; cases q
        rw [upd_ne b1] at q
        have b2 : b ≠ s.heap.objs.size := fun z => by rw [z, upd_same] at q; cases q
        rwa [upd_ne b2] at q
    refine codeAny_builtin F.entry_extend_loop ?_
    rw [Around.under_plainId F.plain_extend_loop _]
    show wpAny (model X.prog X.w) A.in1 (pyNext (.ref z) >>= _) _ _ s
    rcases hzz with ⟨hz, a, b, hTO⟩ | ⟨T, f, oT, hz, hT, hTn, hTD⟩
    · refine wpAny_bind (wpAny_pyNext_zipD2_item S D1 D2 hz hTI hTO (t1 i s1) (t2 i s2) (by omega) (by omega) fun u1 u2 h' tk p1 p2 z' TO' a1 a2 hN hs2 hk => ?_)
      refine go u1 u2 h' tk p1 p2 hN hk ⟨hk _ _ D5.TIz D5.TITO D5.TIi1 D5.TIi2 hTI, b1 _ _ a1, b2 _ _ a2, by rw [hs2]; exact Nat.lt_succ_of_lt tol, .inr ⟨_, false, _, z', hN, fun hm => Nat.lt_irrefl _ (lo _ hm), Nat.ne_of_gt hDlt⟩⟩
    · refine wpAny_bind (nextH_item S D1 D2 hz hT hTI (t1 i s1) (t2 i s2) (by omega) (by omega) fun u1 u2 h' tk p1 p2 z' a1 a2 hN hs2 hk => ?_)
      refine go u1 u2 h' tk p1 p2 hN (fun c o c1 _ c3 c4 q => hk c o c1 c3 c4 q) ⟨hk _ _ D5.TIz D5.TIi1 D5.TIi2 hTI, b1 _ _ a1, b2 _ _ a2, by rw [hs2]; exact Nat.lt_succ_of_lt tol, .inr ⟨T, true, oT, z', hk _ _ (fun e => hTn (by simp [e])) (fun e => hTn (by simp [e])) (fun e => hTn (by simp [e])) hT, hTn, hTD⟩⟩
/-- list(z) of a new zip -/
theorem call_list_zip {A : Around} {E : Value → Shared → Prop} {Q : Value → Shared → Prop} (hA : A.handled = none) {k1 k2 : Kd} {x y : V} {xs ys : List V} {z TI TO i1 i2 : Addr} (D5 : Apart5 z TI TO i1 i2) (hsz : min xs.length ys.length < sizeLine)
    (I : Inv X pins σ H s) (sx : SrcV X.K H k1 x xs) (sy : SrcV X.K H k2 y ys) (hf : ∀ b ∈ [z, TI, TO, i1, i2], FpOk X pins H b) (hz : IsZip s.heap z TI TO .none) (hTI : IsTupOf2 s.heap TI (.ref i1) (.ref i2)) (hTO : ∃ a b, IsTupOf2 s.heap TO a b) (s1 : SubSt k1 x i1 0 s.heap) (s2 : SubSt k2 y i2 0 s.heap)
    (hQ : ∀ s' H' vs', Inv X pins σ H' s' → H' s.heap.objs.size = some (.lst vs') → Prs H H' vs' xs ys (min xs.length ys.length) → Same H H' → (∀ b, H' b = none → H b = none) → Q (.ref s.heap.objs.size) s') :
    wpAny (model X.prog X.w) A (call (.type "list") [.ref z]) Q E s := by
  have lo : ∀ c ∈ [z, TI, TO, i1, i2], c < s.heap.objs.size := fun c hc => by
    obtain ⟨a, b, hTO⟩ := hTO
    have e' : c = z ∨ c = TI ∨ c = TO ∨ c = i1 ∨ c = i2 := by simpa using hc
    rcases e' with q | q | q | q | q
    · rw [q]; exact Heap.lt_size hz
    · rw [q]; exact Heap.lt_size hTI
    · rw [q]; exact Heap.lt_size hTO
    · obtain ⟨o, ho, _⟩ := s1.obj
      rw [q]; exact Heap.lt_size ho
    · obtain ⟨o, ho, _⟩ := s2.obj
      rw [q]; exact Heap.lt_size ho
  have hD : s.heap.objs.size ∉ [z, TI, TO, i1, i2] := fun hm => Nat.lt_irrefl _ (lo _ hm)
  have hn : H s.heap.objs.size = none := I.hok.fresh (Nat.le_refl _)
  refine callType_codes (Q₁ := fun v t => v = .ref s.heap.objs.size ∧ t = { s with heap := s.heap.push { cls := .type "list", data := .seq #[] } }) F.called_list (F.typeCall_list_1 _) F.entry_list_init (code_list_new _ ⟨rfl, rfl⟩) fun v t hvt => ?_
  obtain ⟨rfl, rfl⟩ := hvt
  have e1 : (s.heap.push { cls := .type "list", data := .seq #[] }).get? s.heap.objs.size = some { cls := .type "list", data := .seq #[] } := Heap.get?_push_size _ rfl
  have k1 : ∀ b o, b ≠ s.heap.objs.size → s.heap.get? b = some o → (s.heap.push { cls := .type "list", data := .seq #[] }).get? b = some o := fun b o _ q => Heap.get?_push_of_some _ q
  refine ⟨⟨_, e1, rfl⟩, F.args_list_init_2 _ _, ?_⟩
  refine wpAny_bind ?_
  unfold Builtin.List.listItems
  refine wpAny_bind (wpAny_seqItems e1 rfl (wpAny_pure ?_))
  refine wpAny_bind ?_
  unfold Builtin.List.listUpdate
  refine wpAny_updateSeq e1 rfl ?_
  have e2 := Heap.get?_update_self (Obj.mapSeq (fun _ => (#[] : Array Value))) e1 rfl
  have b2 : Heap.SameBut s.heap.objs.size _ _ := Heap.SameBut.update (s.heap.push { cls := .type "list", data := .seq #[] }) s.heap.objs.size (Obj.mapSeq (fun _ => (#[] : Array Value)))
  refine wpAny_bind (wpAny_letGo ?_)
  have hz2 := (b2.2 z (fun q => hD (by rw [← q]; simp))).trans (k1 _ _ (fun q => hD (by rw [← q]; simp)) hz)
  unfold Builtin.List.listExtendWith
  refine wpAny_bind (wpAny_typeOf (T := "zip") ⟨_, hz2, rfl⟩ ?_)
  have t1 : Builtin.List.listSameRef (.ref s.heap.objs.size) (.ref z) = false := by
    have ne : s.heap.objs.size ≠ z := fun q => hD (by rw [q]; simp)
    simp [Builtin.List.listSameRef, ne]
  have t2 : (Value.type "zip" == Value.type "list") = false := by decide
  have t3 : (Value.type "zip" == Value.type "tuple") = false := by decide
  simp only [t1, t2, t3, Bool.or_false, Bool.false_eq_true, if_false]
  refine wpAny_bind (wpAny_pyIter_zip hz2 (wpAny_bind (wpAny_holding ?_)))
  unfold Builtin.List.listLengthHint
  refine wpAny_bind (wpAny_specialOf (T := "zip") ⟨_, hz2, rfl⟩ zip_no_len ?_)
  refine wpAny_bind (wpAny_specialOf (T := "zip") ⟨_, hz2, rfl⟩ zip_no_hint ?_)
  refine wpAny_pure (wpAny_bind (wpAny_rule (wpAny_bind ?_)))
  unfold Builtin.List.listTouch
  refine wpAny_bind (wpAny_updateSeq e2 rfl ?_)
  have e3 := Heap.get?_update_self (Obj.mapSeq (·.push Value.none)) e2 rfl
  refine wpAny_updateSeq (hz := by seq_fits) e3 rfl ?_
  have e4 := Heap.get?_update_self (Obj.mapSeq (·.pop)) e3 rfl
  have b3 := b2.trans ((Heap.SameBut.update _ s.heap.objs.size (Obj.mapSeq (·.push Value.none))).trans (Heap.SameBut.update _ s.heap.objs.size (Obj.mapSeq (·.pop))))
  refine wpAny_pure ⟨plainId_quiet F.plain_extend_loop _, ?_⟩
  generalize hh : ((((s.heap.push { cls := .type "list", data := .seq #[] }).update s.heap.objs.size (Obj.mapSeq (fun _ => (#[] : Array Value)))).update s.heap.objs.size (Obj.mapSeq (·.push Value.none))).update s.heap.objs.size (Obj.mapSeq (·.pop))) = h4 at *
  have k4 : ∀ b o, s.heap.get? b = some o → h4.get? b = some o := fun b o q => by
    have ne : b ≠ s.heap.objs.size := Nat.ne_of_lt (Heap.lt_size q)
    exact (b3.2 b ne).trans (k1 b o ne q)
  have I4 : Inv X pins σ (upd H s.heap.objs.size (.lst [])) { s with heap := h4 } := I.laid (t' := s.toks) k4 (Nat.le_refl _) ⟨Nat.zero_le _, [], _, .nil, e4⟩
  refine zloop (A := A.in1) (H0 := H) (s := { s with heap := h4 }) hA D5 hD hsz sx sy hn _ 0 _ [] rfl (Nat.zero_le _) I4 (fun b hb => ?_) ⟨k4 _ _ hTI, s1.keep fun o q => k4 _ _ q, s2.keep fun o q => k4 _ _ q, ?_, .inl ⟨k4 _ _ hz, ?_⟩⟩ (fun b o q => ?_) (upd_same ..) ⟨rfl, fun j hj => absurd hj (Nat.not_lt_zero _)⟩ fun s' H' vs' I' hl hp sm fr => ⟨rfl, hQ s' H' vs' I' hl hp sm fun b hb => ?_⟩
  · have q := hf b hb
    refine ⟨?_, q.2⟩
    rw [upd_ne (Nat.ne_of_lt (lo b hb))]
    exact q.1
  · have q := lo TO (by simp)
    rw [b3.1, Heap.size_push]
    exact Nat.lt_succ_of_lt q
  · obtain ⟨a, b, hTO⟩ := hTO
    exact ⟨a, b, k4 _ _ hTO⟩
  · rw [upd_ne (ne_of_none q hn)]
    exact q
  · have q := fr b hb
    by_cases hb2 : b = s.heap.objs.size
    · rw [hb2]; exact hn
    · rwa [upd_ne hb2] at q
end
section
variable {X : Cx} {A : Option Addr} {E : Exc → L2.St → Hp → Prop} {ρ : List Sl} {a b : Expr} {ma mb : M D} {p p2 pos pos2 : Pos}
def tZipL (K : PySem.W.Frag) (ta : TA) : TE := fun σ H Q => ta σ H fun vs H1 => ∃ k1 k2 x y xs ys, vs = [x, y] ∧ SrcV K H1 k1 x xs ∧ SrcV K H1 k2 y ys ∧ min xs.length ys.length < sizeLine ∧
  ∀ p H2 vs', H1 p = none → H2 p = some (.lst vs') → Prs H1 H2 vs' xs ys (min xs.length ys.length) → Same H1 H2 → (∀ b, H2 b = none → H1 b = none) → Q (.ref p) H2
theorem pe_listZip {ta : TA} (hc : X.calm = true) (hg : Gl X "list") (hm : X.mg "list" = none) (hg2 : Gl X "zip") (hm2 : X.mg "zip" = none) (ha : PA X [a, b] ta) (hs : starEach [a, b] X.env = (false, eval a X.env) :: starEach [b] X.env := by rfl) (hpl : (backTo pos2 (starEach [b] X.env)).any (·.1) = false := by rfl)
    (na : starEach [.Call (.Name "zip" p2) [a, b] [] pos2] X.env = (false, eval (.Call (.Name "zip" p2) [a, b] [] pos2) X.env) :: starEach [] X.env := by rfl) :
    PE X (.Call (.Name "list" p) [.Call (.Name "zip" p2) [a, b] [] pos2] [] pos) (tZipL X.K ta) := by
  refine ⟨fun pins s σ H Q I h => ?_⟩
  refine Call_ (ld_blt I hg hm PyProof.Rows.boot_list (PyProof.Rows.callWith_type1 (args_cons ?_ na) na))
  refine Call_ (ld_blt I hg2 hm2 PyProof.Rows.boot_zip (PyProof.Rows.callWith_type1 (thn (ha.run pos2 pins s σ H _ I h) fun us t ⟨vs, H1, I1, r1, q1⟩ => ?_) hs hpl))
  obtain ⟨k1, k2, x, y, xs, ys, rfl, sx, sy, hl, q⟩ := q1
  obtain ⟨u1, u2, rfl, r1, r2⟩ := vals2 r1
  obtain ⟨o1, H1', B1, b1, t1⟩ := src_begins I1 sx r1
  obtain ⟨o2, H2', B2, b2, t2⟩ := src_begins I1 sy r2
  refine zip_begins2 B1 B2 b1 b2 fun h' hz hTI hTO g1 g2 hsz hk => args_nil ?_
  have I2 : Inv X pins σ H1 { t with heap := h' } := I1.kept (t' := t.toks) hk
  generalize hN : t.heap.objs.size = N at *
  have lo : ∀ c, c ∈ [N + 4, N + 2, N + 3, N, N + 1] → t.heap.objs.size ≤ c := fun c hc => by
    rw [hN]
    have e' : c = N + 4 ∨ c = N + 2 ∨ c = N + 3 ∨ c = N ∨ c = N + 1 := by simpa using hc
    rcases e' with z | z | z | z | z <;> subst z <;> omega
  refine call_list_zip (X := X) (s := { t with heap := h' }) (I1.ok.hd hc) (z := N + 4) (TI := N + 2) (TO := N + 3) (i1 := N) (i2 := N + 1) ⟨?_, ?_, ?_, ?_, ?_, ?_, ?_, ?_, ?_, ?_⟩ hl I2 sx sy (fun c hc => I1.fpOk (lo c hc) (I1.hok.fresh (lo c hc))) hz hTI ⟨_, _, hTO⟩ (t1 _ _ g1) (t2 _ _ g2) fun s' H' vs' I' hp pr sm fr => ?_
  all_goals first
    | exact (show (_ : Nat) ≠ _ by omega)
    | skip
  exact ⟨.ref _, H', I', rfl, q _ H' vs' (I2.hok.fresh (Nat.le_refl _)) hp pr sm fr⟩
theorem dpAll_get {K : PySem.W.Frag} {F : Hp} : ∀ {vs : List V} {ds : List D}, vs.length = ds.length → (∀ (j : Nat) v d, vs[j]? = some v → ds[j]? = some d → Dp K F v d) → DpAll K F vs ds
  | [], [], _, _ => .nil
  | [], _ :: _, h, _ => by simp at h
  | _ :: _, [], h, _ => by simp at h
  | v :: vs, d :: ds, h, g => .cons (g 0 v d rfl rfl) (dpAll_get (by simpa using h) fun j v' d' e1 e2 => g (j + 1) v' d' (by simpa using e1) (by simpa using e2))
def dZipL (x y : D) : Option (List D) := (dZip x y).bind fitL
theorem eo_listZip (hc : X.calm = true) (hg : Gl X "list") (hm : X.mg "list" = none) (hg2 : Gl X "zip") (hm2 : X.mg "zip" = none) (ha : PE X a (tM X.K A E ρ ma)) (hb : PE X b (tM X.K A E ρ mb)) (hs : starEach [a, b] X.env = (false, eval a X.env) :: starEach [b] X.env := by rfl) (hs2 : starEach [b] X.env = (false, eval b X.env) :: starEach [] X.env := by rfl) (hpl : (backTo pos2 (starEach [b] X.env)).any (·.1) = false := by rfl)
    (na : starEach [.Call (.Name "zip" p2) [a, b] [] pos2] X.env = (false, eval (.Call (.Name "zip" p2) [a, b] [] pos2) X.env) :: starEach [] X.env := by rfl) :
    PE X (.Call (.Name "list" p) [.Call (.Name "zip" p2) [a, b] [] pos2] [] pos) (tO X.K A E ρ (ma >>= fun d => mb >>= fun e => lft (dZipL d e))) :=
  (pe_listZip hc hg hm hg2 hm2 (pa_cons ha (pa_cons hb pa_nil hs2) hs) hs hpl na).impM fun σ H Q ⟨c, F, B, w, s, h⟩ => ⟨c, F, B, w, s, (Wp_bind.mp h).mono (fun d c1 q x F1 H1 x1 w1 r1 => ⟨c1, F1, B, w1, s.ext x1, (Wp_bind.mp q).mono (fun d2 c2 q2 y F2 H2 x2 w2 r2 => by
    obtain ⟨zs, ed, q3⟩ := Wp_lft q2
    unfold dZipL dZip at ed
    split at ed
    · rename_i xs ys hx hy
      have z := w2.frz
      obtain ⟨k1, vs, s1, p1, n1⟩ := src_of z (Dp.sameM x2.f _ _ r1) hx
      obtain ⟨k2, ws, s2, p2, _⟩ := src_of z r2 hy
      have l1 := p1.lenM
      have l2 := p2.lenM
      change fitL (zip2 xs ys) = some zs at ed
      unfold fitL at ed
      split at ed
      · rename_i hl
        cases ed
        rw [zip2_len, lim_eq] at hl
        refine ⟨k1, k2, x, y, vs, ws, rfl, SrcV.same z.sub s1, SrcV.same z.sub s2, by rw [l1, l2]; exact hl, fun p H3 vs' hp0 hp pr sm fr => ?_⟩
        rw [l1, l2] at pr
        have nw : ∀ b, V.ref b ∈ vs' → ∃ a1 a2, H3 b = some (.tup [a1, a2]) ∧ H2 b = none := fun b hb => by
          obtain ⟨j, hj, e⟩ := List.getElem_of_mem hb
          obtain ⟨T, a1, a2, e1, _, _, e4, e5⟩ := pr.2 j (by rw [← pr.1]; exact hj)
          rw [List.getElem?_eq_getElem hj, e] at e1
          cases e1
          exact ⟨a1, a2, e4, e5⟩
        have ⟨F3, hF3⟩ : ∃ F3 : Hp, ∀ b, (V.ref b ∈ vs' → F3 b = H3 b) ∧ (V.ref b ∉ vs' → F3 b = F2 b) := by
          classical
          exact ⟨fun b => if V.ref b ∈ vs' then H3 b else F2 b, fun b => ⟨fun hb => if_pos hb, fun hb => if_neg hb⟩⟩
        have fs : Same F2 F3 := fun b o e => by
          by_cases hb : V.ref b ∈ vs'
          · obtain ⟨_, _, _, e5⟩ := nw b hb
            rw [z.sub b o e] at e5
            cases e5
          · rw [(hF3 b).2 hb]; exact e
        have np : V.ref p ∉ vs' := fun hb => by
          obtain ⟨_, _, e4, _⟩ := nw p hb
          rw [hp] at e4
          cases e4
        have z3 : Frz F3 H3 := by
          refine ⟨fun b o e => ?_, fun b ps e => ?_⟩
          · by_cases hb : V.ref b ∈ vs'
            · rw [(hF3 b).1 hb] at e; exact e
            · rw [(hF3 b).2 hb] at e; exact sm b o (z.sub b o e)
          · by_cases hb : V.ref b ∈ vs'
            · obtain ⟨_, _, e4, _⟩ := nw b hb
              rw [(hF3 b).1 hb, e4] at e
              cases e
            · rw [(hF3 b).2 hb] at e; exact z.nt b ps e
        have x3 : Ext none F2 H2 F3 H3 := by
          refine ⟨fs, fun b o e _ _ => sm b o e, fun b o e => ?_, fr⟩
          by_cases hb : V.ref b ∈ vs'
          · obtain ⟨_, _, _, e5⟩ := nw b hb
            exact .inr e5
          · rw [(hF3 b).2 hb] at e; exact .inl e
        refine q3 p vs' F3 H3 ((x1.trans x2).trans x3.to) (w2.ext x3 z3) ((x1.trans x2).d p hp0) (by rw [(hF3 p).2 np]; exact Same.free z.sub hp0) hp (dpAll_get (by rw [pr.1, zip2_len]) fun j v dd ev ed => ?_)
        have hj : j < min xs.length ys.length := by
          have := (List.getElem?_eq_some_iff.mp ed).1
          rwa [zip2_len] at this
        obtain ⟨T, a1, a2, e1, e2, e3, e4, _⟩ := pr.2 j hj
        rw [ev] at e1
        cases e1
        obtain ⟨d1, f1, g1⟩ := p1.getM e2
        obtain ⟨d2', f2, g2⟩ := p2.getM e3
        unfold zip2 at ed
        rw [List.getElem?_zipWith, f1, f2] at ed
        cases ed
        exact .tup (.inl (.inl (by rw [(hF3 T).1 (List.mem_of_getElem? ev)]; exact e4))) (.cons (Dp.sameM fs _ _ g1) (.cons (Dp.sameM fs _ _ g2) .nil))
      · cases ed
    · cases ed) fun e c2 q2 F2 H2 x2 w2 => q2 F2 H2 (x1.trans x2) w2⟩) fun _ _ q => q⟩
end
end Mir

set_option maxRecDepth 100000
/-! MirE9a: dict(zip(t, u)) of two tuples, read only. -/
namespace Mir
open PySem PySem.Spec PyProof.Rows L2
section
variable {prog : Program} {w : World}
theorem pairs_zipT {z TI TO i1 i2 l1 l2 : Addr} (D5 : Apart5 z TI TO i1 i2) (n1 : l1 ∉ [z, TI, TO, i1, i2]) (n2 : l2 ∉ [z, TI, TO, i1, i2]) (xs ys : Array Value) :
    PairArg prog w "zip" z [z, TI, TO, i1, i2, l1, l2] [z, TO, i1, i2] (min xs.size ys.size) (fun m k v => xs[m]? = some k ∧ ys[m]? = some v) (fun h => IsZip h z TI TO .none ∧ IsTupOf2 h TI (.ref i1) (.ref i2) ∧ (∃ a b, IsTupOf2 h TO a b) ∧ h.IsTupleIter i1 l1 0 ∧ h.IsTupleIter i2 l2 0 ∧ h.IsTuple l1 xs ∧ h.IsTuple l2 ys) := by
  have e1 : l1 ≠ i1 := fun e => n1 (by simp [e])
  have e2 : l2 ≠ i2 := fun e => n2 (by simp [e])
  have S : ZipSep2 z TI TO i1 i2 [i1, l1] [i2, l2] := by
    have a1 : z ≠ l1 := fun e => n1 (by simp [e])
    have a2 : z ≠ l2 := fun e => n2 (by simp [e])
    have a3 : TO ≠ l1 := fun e => n1 (by simp [e])
    have a4 : TO ≠ l2 := fun e => n2 (by simp [e])
    have a5 : i1 ≠ l2 := fun e => n2 (by simp [e])
    have a6 : i2 ≠ l1 := fun e => n1 (by simp [e])
    exact ⟨D5.TIz, D5.TOz, D5.TITO, D5.TIi1, by simp, by simp [D5.zi1, a1], by simp [D5.TOi1, a3], D5.TIi2, by simp, by simp [D5.zi2, a2], by simp [D5.TOi2, a4], by simp [D5.i12, a5], by simp [Ne.symm D5.i12, a6]⟩
  refine ⟨fun s ok => ⟨_, ok.1, rfl⟩, by decide, fun h h' ok hk => ?_, fun h ok b hb => ?_, fun b hb => ?_, fun A s Q E hA ok h => getAttrOr_miss_zip ok.1 rfl rfl rfl zip_no_keys (by decide +kernel) hA h, fun A s d Q E hA ok hd hdf h => ?_⟩
  · obtain ⟨hz, kTI, ⟨a, b, kTO⟩, h1, h2, g1, g2⟩ := ok
    exact ⟨hk _ _ hz, hk _ _ kTI, ⟨a, b, hk _ _ kTO⟩, h1.at fun o e => hk _ o e, h2.at fun o e => hk _ o e, g1.at fun o e => hk _ o e, g2.at fun o e => hk _ o e⟩
  · obtain ⟨hz, kTI, ⟨a, c, kTO⟩, ⟨o1, h1, _⟩, ⟨o2, h2, _⟩, ⟨o3, g1, _⟩, ⟨o4, g2, _⟩⟩ := ok
    simp only [List.mem_cons, List.not_mem_nil, or_false] at hb
    rcases hb with e | e | e | e | e | e | e <;> subst e
    · exact ⟨_, hz⟩
    · exact ⟨_, kTI⟩
    · exact ⟨_, kTO⟩
    · exact ⟨_, h1⟩
    · exact ⟨_, h2⟩
    · exact ⟨_, g1⟩
    · exact ⟨_, g2⟩
  · simp only [List.mem_cons, List.not_mem_nil, or_false] at hb ⊢
    rcases hb with e | e | e | e <;> subst e <;> simp
  · obtain ⟨hz, kTI, ⟨a, b, kTO⟩, h1, h2, g1, g2⟩ := ok
    simp only [List.mem_cons, List.not_mem_nil, or_false, not_or] at hdf
    obtain ⟨ne1, ne2, ne3, ne4, ne5, ne6, ne7⟩ := hdf
    have hA2 : A.in1.handled = none := hA
    have D1 : Draws prog w A.in1 i1 [i1, l1] xs.size (fun i v => xs[i]? = some v) (fun i h => h.IsTupleIter i1 l1 i ∧ h.IsTuple l1 xs) := Draws.tuple hA2 i1 l1 e1 xs
    have D2 : Draws prog w A.in1 i2 [i2, l2] ys.size (fun i v => ys[i]? = some v) (fun i h => h.IsTupleIter i2 l2 i ∧ h.IsTuple l2 ys) := Draws.tuple hA2 i2 l2 e2 ys
    refine wpAny_pyIter_zip hz (h z [z, TO, i1, i2] (fun i g => IsTupOf2 g TI (.ref i1) (.ref i2) ∧ (g.IsTupleIter i1 l1 i ∧ g.IsTuple l1 xs) ∧ (g.IsTupleIter i2 l2 i ∧ g.IsTuple l2 ys) ∧
      ((IsZip g z TI TO .none ∧ ∃ a b, IsTupOf2 g TO a b) ∨ ∃ T f obT, IsZipHeld g z TI TO T f ∧ g.get? T = some obT ∧ T ≠ z ∧ T ≠ i1 ∧ T ≠ i2 ∧ T ≠ d)) s.heap s.toks ?_
      ⟨kTI, ⟨h1, g1⟩, ⟨h2, g2⟩, .inl ⟨hz, a, b, kTO⟩⟩ (fun _ _ e => e) fun b hb => .inl hb)
    refine ⟨fun hm => ?_, fun i p q st hk => ?_, fun i s1 Q1 E1 hi st hds hQ => ?_, fun s1 Q1 E1 st hQ => ?_⟩
    · simp only [List.mem_cons, List.not_mem_nil, or_false] at hm
      rcases hm with e | e | e | e
      · exact ne1 e
      · exact ne3 e
      · exact ne4 e
      · exact ne5 e
    · obtain ⟨kTI, ⟨h1, g1⟩, ⟨h2, g2⟩, hz⟩ := st
      refine ⟨hk _ _ (Ne.symm ne2) kTI, ⟨h1.at fun o e => hk _ o (Ne.symm ne4) e, g1.at fun o e => hk _ o (Ne.symm ne6) e⟩, ⟨h2.at fun o e => hk _ o (Ne.symm ne5) e, g2.at fun o e => hk _ o (Ne.symm ne7) e⟩, ?_⟩
      rcases hz with ⟨hz, c1, c2, kTO⟩ | ⟨T, f, obT, hz, hT, r1, r2, r3, r4⟩
      · exact .inl ⟨hk _ _ (Ne.symm ne1) hz, c1, c2, hk _ _ (Ne.symm ne3) kTO⟩
      · exact .inr ⟨T, f, obT, hk _ _ (Ne.symm ne1) hz, hk _ _ r4 hT, r1, r2, r3, r4⟩
    · obtain ⟨kTI, st1, st2, hz⟩ := st
      have lt : ∀ {c o}, s1.heap.get? c = some o → s1.heap.objs.size ≠ c := fun e => Nat.ne_of_gt (Heap.lt_size e)
      have m1 : s1.heap.objs.size ≠ i1 := by obtain ⟨_, e⟩ := D1.live _ _ st1; exact lt e
      have m2 : s1.heap.objs.size ≠ i2 := by obtain ⟨_, e⟩ := D2.live _ _ st2; exact lt e
      rcases hz with ⟨hz, c1, c2, kTO⟩ | ⟨T, f, obT, hz, hT, r1, r2, r3, r4⟩
      · refine wpAny_pyNext_zipD2_item S D1 D2 hz kTI kTO st1 st2 (by omega) (by omega) fun u1 u2 h' tk p1 p2 z' TO' a1 a2 hN hs2 hk => ?_
        exact hQ s1.heap.objs.size _ _ h' tk ⟨p1, p2⟩ (.inl ⟨_, hN, rfl, _, rfl⟩)
          ⟨hk _ _ D5.TIz D5.TITO D5.TIi1 D5.TIi2 kTI, a1, a2, .inr ⟨s1.heap.objs.size, false, _, z', hN, lt hz, m1, m2, Nat.ne_of_gt hds⟩⟩
          fun c o hc e => hk c o (fun z0 => hc (by simp [z0])) (fun z0 => hc (by simp [z0])) (fun z0 => hc (by simp [z0])) (fun z0 => hc (by simp [z0])) e
      · refine nextH_item S D1 D2 hz hT kTI st1 st2 (by omega) (by omega) fun u1 u2 h' tk p1 p2 z' a1 a2 hN hs2 hk => ?_
        exact hQ s1.heap.objs.size _ _ h' tk ⟨p1, p2⟩ (.inl ⟨_, hN, rfl, _, rfl⟩)
          ⟨hk _ _ D5.TIz D5.TIi1 D5.TIi2 kTI, a1, a2, .inr ⟨T, true, obT, z', hk _ _ r1 r2 r3 hT, r1, r2, r3, r4⟩⟩
          fun c o hc e => hk c o (fun z0 => hc (by simp [z0])) (fun z0 => hc (by simp [z0])) (fun z0 => hc (by simp [z0])) e
    · obtain ⟨kTI, st1, st2, hz⟩ := st
      have hend : min xs.size ys.size = xs.size ∨ min xs.size ys.size = ys.size := by omega
      rcases hz with ⟨hz, c1, c2, kTO⟩ | ⟨T, f, obT, hz, hT, r1, r2, r3, r4⟩
      · exact wpAny_pyNext_zipD2_end S D1 D2 hz kTI kTO st1 st2 (Nat.min_le_left _ _) (Nat.min_le_right _ _) hend fun h' tk hk => hQ h' tk fun c o hc e => hk c o (fun z0 => hc (by simp [z0])) (fun z0 => hc (by simp [z0])) (fun z0 => hc (by simp [z0])) (fun z0 => hc (by simp [z0])) e
      · exact nextH_end S D1 D2 hz hT kTI st1 st2 (Nat.min_le_left _ _) (Nat.min_le_right _ _) hend fun h' tk hk => hQ h' tk fun c o hc e => hk c o (fun z0 => hc (by simp [z0])) (fun z0 => hc (by simp [z0])) (fun z0 => hc (by simp [z0])) e
end
/-! ### data -/
def keyD : D → Option Key
  | .int i => some (.inl i)
  | .str s => some (.inr s)
  | _ => none
def keysD : List D → Option (List Key)
  | [] => some []
  | d :: ds => match keyD d, keysD ds with
    | some k, some ks => some (k :: ks)
    | _, _ => none
def dDictZip (x y : D) : Option (List (Key × D)) := match x, y with
  | .tuple xs, .tuple ys => match keysD xs with
    | some ks => if ks.Nodup ∧ xs.length ≤ lim ∧ xs.length = ys.length then some (ks.zip ys) else none
    | none => none
  | _, _ => none
def dGet (kvs : List (Key × D)) (d : D) : Option D := match keyD d with
  | some k => (kvs.find? fun kv => decide (kv.1 = k)).map (·.2)
  | none => none
def dicK (K : PySem.W.Frag) (kvs : List (Key × D)) (F : Hp) (v : V) : Prop := ∃ p ws, v = .ref p ∧ F p = some (.dK ws) ∧ Paired (fun (a : Key × V) (b : Key × D) => a.1 = b.1 ∧ Dp K F a.2 b.2) ws kvs
theorem merged_nodup {α : Type} [DecidableEq α] : ∀ {more acc : List (α × Value)}, ((acc ++ more).map (·.1)).Nodup → merged acc more = acc ++ more
  | [], acc, _ => by simp [merged]
  | (k, v) :: more, acc, h => by
    have e : stored acc k v = acc ++ [(k, v)] := by
      unfold stored
      rw [if_neg]
      intro hz
      obtain ⟨q, hq, e⟩ := List.any_eq_true.mp hz
      have e' : q.1 = k := by simpa using e
      rw [List.map_append, List.nodup_append] at h
      exact h.2.2 q.1 (List.mem_map_of_mem hq) k (by simp) e'
    show merged (stored acc k v) more = _
    rw [e, merged_nodup (by rw [List.append_assoc]; exact h), List.append_assoc]
    rfl
theorem zip_keys {α β : Type} {ks : List α} {ys : List β} (h : ks.length = ys.length) : (ks.zip ys).map (·.1) = ks := List.map_fst_zip (Nat.le_of_eq h)
section
variable {X : Cx} {A : Option Addr} {E : Exc → L2.St → Hp → Prop} {ρ : List Sl} {a b : Expr} {ma mb : M D} {p p2 pos pos2 : Pos}
def tDictZ (K : PySem.W.Frag) (ta : TA) : TE := fun σ H Q => ta σ H fun vs H1 => ∃ (p q : Addr) (ks : List Key) (ys : List V), vs = [.ref p, .ref q] ∧ SqT K H1 p (ks.map kV) ∧ SqT K H1 q ys ∧ ks.Nodup ∧ ks.length = ys.length ∧ ks.length ≤ sizeLine ∧
  ∀ r, H1 r = none → Q (.ref r) (upd H1 r (.dK (ks.zip ys)))
theorem kv_zip {ks : List Key} {ys : List V} {us : List Value} (r : Vals ys us) : KV (ks.zip ys) (ks.zip us) := by
  induction r generalizing ks with
  | nil => cases ks <;> exact .nil
  | cons h r ih =>
    cases ks with
    | nil => exact .nil
    | cons k ks => exact .cons ⟨rfl, h⟩ ih
theorem pe_dictZip {ta : TA} (hc : X.calm = true) (hg : Gl X "dict") (hm : X.mg "dict" = none) (hg2 : Gl X "zip") (hm2 : X.mg "zip" = none) (ha : PA X [a, b] ta) (hs : starEach [a, b] X.env = (false, eval a X.env) :: starEach [b] X.env := by rfl) (hpl : (backTo pos2 (starEach [b] X.env)).any (·.1) = false := by rfl)
    (na : starEach [.Call (.Name "zip" p2) [a, b] [] pos2] X.env = (false, eval (.Call (.Name "zip" p2) [a, b] [] pos2) X.env) :: starEach [] X.env := by rfl) :
    PE X (.Call (.Name "dict" p) [.Call (.Name "zip" p2) [a, b] [] pos2] [] pos) (tDictZ X.K ta) := by
  refine ⟨fun pins s σ H Q I h => ?_⟩
  refine Call_ (ld_blt I hg hm PyProof.Rows.boot_dict (PyProof.Rows.callWith_type1 (args_cons ?_ na) na))
  refine Call_ (ld_blt I hg2 hm2 PyProof.Rows.boot_zip (PyProof.Rows.callWith_type1 (thn (ha.run pos2 pins s σ H _ I h) fun us t ⟨vs, H1, I1, r1, q1⟩ => ?_) hs hpl))
  obtain ⟨l1, l2, ks, ys, rfl, sx, sy, hnd, hl, hz, q⟩ := q1
  obtain ⟨u1, u2, rfl, r1, r2⟩ := vals2 r1
  have sx' : SrcV X.K H1 .t (.ref l1) (ks.map kV) := ⟨_, rfl, sx⟩
  have sy' : SrcV X.K H1 .t (.ref l2) ys := ⟨_, rfl, sy⟩
  obtain ⟨o1, H1', B1, b1, t1⟩ := src_begins I1 sx' r1
  obtain ⟨o2, H2', B2, b2, t2⟩ := src_begins I1 sy' r2
  obtain ⟨its1, rv1, pt1, hz1⟩ := I1.tuple sx
  obtain ⟨its2, rv2, pt2, hz2⟩ := I1.tuple sy
  refine zip_begins2 B1 B2 b1 b2 fun h' hz hTI hTO g1 g2 hsz hk => args_nil ?_
  have lt1 : l1 < t.heap.objs.size := by obtain ⟨o, ho, _⟩ := id pt1; exact Heap.lt_size ho
  have lt2 : l2 < t.heap.objs.size := by obtain ⟨o, ho, _⟩ := id pt2; exact Heap.lt_size ho
  obtain ⟨_, e1, f1⟩ := t1 _ _ g1
  obtain ⟨_, e2, f2⟩ := t2 _ _ g2
  cases e1
  cases e2
  have big := I1.big
  generalize hN : t.heap.objs.size = N at *
  have lo : ∀ c, c ∈ [N + 4, N + 2, N + 3, N, N + 1] → N ≤ c := fun c hc => by
    have e' : c = N + 4 ∨ c = N + 2 ∨ c = N + 3 ∨ c = N ∨ c = N + 1 := by simpa using hc
    rcases e' with z | z | z | z | z <;> subst z <;> omega
  have D5 : Apart5 (N + 4) (N + 2) (N + 3) N (N + 1) := by
    refine ⟨?_, ?_, ?_, ?_, ?_, ?_, ?_, ?_, ?_, ?_⟩ <;> exact (show (_ : Nat) ≠ _ by omega)
  have len1 : its1.length = ks.length := by rw [← rv1.length, List.length_map]
  have len2 : its2.length = ks.length := by rw [← rv2.length, hl]
  refine PySem.call_dict_pairs (knd := mixKind X.prog X.w) (kvs := ks.zip its2) (s := { t with heap := h' }) (pairs_zipT D5 (fun hm => absurd (lo _ hm) (Nat.not_le_of_lt lt1)) (fun hm => absurd (lo _ hm) (Nat.not_le_of_lt lt2)) its1.toArray its2.toArray) (I1.ok.hd hc)
    ⟨hz, hTI, ⟨_, _, hTO⟩, f1, f2, (show t.heap.IsTuple l1 its1.toArray from pt1).at fun o e => hk _ o e, (show t.heap.IsTuple l2 its2.toArray from pt2).at fun o e => hk _ o e⟩ ⟨?_, fun i key v hr => ?_⟩ ?_ fun h2 tk hd hk2 => ?_
  · rw [List.length_zip, List.size_toArray, List.size_toArray, len1, len2]
  · obtain ⟨c1, c2⟩ := hr
    have c1' : its1[i]? = some key := by simpa using c1
    have c2' : its2[i]? = some v := by simpa using c2
    have hi : i < ks.length := by rw [← len1]; exact (List.getElem?_eq_some_iff.mp c1').1
    have ek : (ks.map kV)[i]? = some (kV ks[i]) := by rw [List.getElem?_map, List.getElem?_eq_getElem hi]; rfl
    obtain ⟨u, eu, ru⟩ := rv1.get ek
    rw [c1'] at eu
    cases eu
    refine ⟨ks[i], ?_, kV_is ru⟩
    rw [List.getElem?_zip_eq_some]
    exact ⟨List.getElem?_eq_getElem hi, c2'⟩
  · rw [List.size_toArray, List.size_toArray, len1, len2, Nat.min_self]; assumption
  · have em : merged [] (ks.zip its2) = ks.zip its2 := merged_nodup (by rw [List.nil_append, zip_keys len2.symm]; exact hnd)
    rw [em] at hd
    have hsz' : h'.objs.size = N + 5 := by rw [hsz]
    have hd : h2.DictOf (mixKind X.prog X.w) h'.objs.size (ks.zip its2) := hd
    have up : ∀ b u, t.heap.get? b = some u → h2.get? b = some u := fun b u e => hk2 b u (fun hm => by
      have := Heap.lt_size e
      rw [hN] at this
      simp only [List.mem_cons, List.not_mem_nil, or_false] at hm
      have hle := lo b (by simp only [List.mem_cons, List.not_mem_nil, or_false]; rcases hm with z | z | z | z <;> simp [z])
      exact absurd this (Nat.not_lt_of_le hle)) (hk b u e)
    have I2 : Inv X pins σ (upd H1 h'.objs.size (.dK (ks.zip ys))) { t with heap := h2, toks := tk } := I1.laid (t' := tk) up (by rw [hN, hsz']; omega)
      (dk_new (by rw [List.length_zip, hl, Nat.min_self, ← hl]; assumption) (by rw [hsz', beq_eq_false_iff_ne]; exact Nat.ne_of_gt (Nat.lt_of_lt_of_le big (Nat.le_add_right _ _))) (kv_zip rv2) hd)
    exact ⟨.ref _, _, I2, rfl, q _ (I1.hok.fresh (by rw [hN, hsz']; omega))⟩
theorem keys_dp {F : Hp} : ∀ {vs : List V} {ds : List D} {ks : List Key}, DpAll X.K F vs ds → keysD ds = some ks → vs = ks.map kV
  | [], _, ks, .nil, h => by cases h; rfl
  | v :: vs, d :: ds, ks, .cons h1 h2, h => by
    unfold keysD at h
    split at h
    · rename_i k ks' e1 e2
      cases h
      rw [List.map_cons, ← keys_dp h2 e2]
      congr 1
      unfold keyD at e1
      split at e1
      · cases e1; cases h1; rfl
      · cases e1; cases h1; rfl
      · cases e1
    · cases h
theorem paired_zip {F : Hp} : ∀ {ks : List Key} {ys : List V} {es : List D}, DpAll X.K F ys es → Paired (fun (a : Key × V) (b : Key × D) => a.1 = b.1 ∧ Dp X.K F a.2 b.2) (ks.zip ys) (ks.zip es)
  | [], _, _, _ => .nil
  | _ :: _, _, _, .nil => .nil
  | _ :: _, _, _, .cons h t => .cons ⟨rfl, h⟩ (paired_zip t)
/-- dict(zip(t, u)) -/
theorem ek_dictZip (hc : X.calm = true) (hg : Gl X "dict") (hm : X.mg "dict" = none) (hg2 : Gl X "zip") (hm2 : X.mg "zip" = none) (ha : PE X a (tM X.K A E ρ ma)) (hb : PE X b (tM X.K A E ρ mb)) (hs : starEach [a, b] X.env = (false, eval a X.env) :: starEach [b] X.env := by rfl) (hs2 : starEach [b] X.env = (false, eval b X.env) :: starEach [] X.env := by rfl) (hpl : (backTo pos2 (starEach [b] X.env)).any (·.1) = false := by rfl)
    (na : starEach [.Call (.Name "zip" p2) [a, b] [] pos2] X.env = (false, eval (.Call (.Name "zip" p2) [a, b] [] pos2) X.env) :: starEach [] X.env := by rfl) :
    PE X (.Call (.Name "dict" p) [.Call (.Name "zip" p2) [a, b] [] pos2] [] pos) (tR X.K A E ρ (fun F k v => ∀ F', Same F F' → dicK X.K k F' v) (ma >>= fun d => mb >>= fun e => lft (dDictZip d e))) :=
  (pe_dictZip hc hg hm hg2 hm2 (pa_cons ha (pa_cons hb pa_nil hs2) hs) hs hpl na).impM fun σ H Q ⟨c, F, B, h⟩ => ⟨c, F, B, (tG.bind (R := RD X.K) h).mono fun x H1 ⟨d, c1, F1, e1, r1, h1⟩ => ⟨c1, F1, B, (tG.bind (R := RD X.K) h1).mono fun y H2 ⟨d2, c2, F2, e2, r2, h2⟩ => by
    obtain ⟨kvs, ed, q⟩ := h2.lft
    have z := h2.1.frz
    unfold dDictZip at ed
    split at ed
    · rename_i xs ys _
      split at ed
      · rename_i ks ek
        split at ed
        · rename_i hcnd
          obtain ⟨n1, n2, n3⟩ := hcnd
          cases ed
          have r1' := Dp.sameM e2.f _ _ r1
          cases r1' with
          | @tup p1 vs1 _ s1 d1 =>
            cases r2 with
            | @tup p2 vs2 _ s2 d2 =>
              have ev := keys_dp d1 ek
              subst ev
              have lk : ks.length = xs.length := by have := d1.lenM; rwa [List.length_map] at this
              have l2 := d2.lenM
              refine ⟨p1, p2, ks, vs2, rfl, SqT.sameM z.sub s1, SqT.sameM z.sub s2, n1, by omega, by rw [lk, ← lim_eq]; exact n2, fun r hr => ?_⟩
              have hF : F2 r = none := Same.free z.sub hr
              refine q _ _ _ (Ext.new z hr) (Frz.new z fun ps z => nomatch z) fun F' sm => ⟨r, ks.zip vs2, rfl, sm _ _ upd_same, ?_⟩
              have sm2 : Same F2 F' := fun b u e => sm b u (by rw [upd_ne (ne_of_none e hF)]; exact e)
              exact paired_zip (DpAll.sameM sm2 _ _ d2)
        · cases ed
      · cases ed
    · cases ed⟩⟩
theorem val_paired {F : Hp} {k : Key} {d : D} : ∀ {ws : List (Key × V)} {kvs : List (Key × D)}, Paired (fun (a : Key × V) (b : Key × D) => a.1 = b.1 ∧ Dp X.K F a.2 b.2) ws kvs → (kvs.find? fun kv => decide (kv.1 = k)).map (·.2) = some d → ∃ v, valV ws k = some v ∧ Dp X.K F v d
  | [], [], .nil, h => by simp at h
  | a :: ws, b :: kvs, .cons ⟨h1, h2⟩ t, h => by
    by_cases e : b.1 = k
    · rw [List.find?_cons_of_pos (by simpa using e)] at h
      cases h
      exact ⟨a.2, valV_pos (h1.trans e), h2⟩
    · rw [List.find?_cons_of_neg (by simpa using e)] at h
      obtain ⟨v, q1, q2⟩ := val_paired t h
      exact ⟨v, by rw [valV_neg (by rw [h1]; exact e)]; exact q1, q2⟩
/-- d[e] of a frozen dict -/
theorem ev_dget {kvs : List (Key × D)} {x : Str} {i : Nat} {j : Nat} {me : M D} {e : Expr} (hr : Room j X.A) (he : PE X e (tM X.K A E ρ me)) (hi : ρ[i]? = some (.kn (dicK X.K kvs))) (hv : PE X (.Name x p) (tVar i)) (hs : NoSl e) :
    PE X (.Subscript (.Name x p) e pos) (tM X.K A E ρ (me >>= fun d => lft (dGet kvs d))) :=
  (pe_dget (by have := hr.un; omega) hv he hs).impM fun σ H Q ⟨c, F, B, h⟩ => by
    obtain ⟨o, ho, v, ev, kn⟩ := h.2.1.get hi
    obtain ⟨p0, ws, rfl, _, _⟩ := kn F (Same.refl F)
    refine ⟨_, by rw [ho, ev], c, F, B, (tG.bind (R := RD X.K) h).mono fun y H1 ⟨d, c1, F1, e1, r1, h1⟩ => ?_⟩
    obtain ⟨dd, ed, q⟩ := h1.lft
    obtain ⟨p1, ws1, e2, fp, pr⟩ := kn F1 e1.f
    cases e2
    unfold dGet at ed
    split at ed
    · rename_i k ek
      obtain ⟨v, q1, q2⟩ := val_paired (X := X) pr ed
      have ey : y = kV k := by
        unfold keyD at ek
        split at ek
        · cases ek; cases r1; rfl
        · cases ek; cases r1; rfl
        · cases ek
      subst ey
      exact ⟨p0, v, rfl, by rw [← q1]; exact DGet.k (h1.1.frz.sub _ _ fp), q v F1 H1 .refl h1.1.frz q2⟩
    · cases ed
end
section
variable {X : Cx} {A : Option Addr} {E : Exc → L2.St → Hp → Prop} {ρ : List Sl} {β γ : Type} {ρb : β → List Sl} {ρg : γ → List Sl} {pos pos' : Pos} {e : Expr} {rest : List Stmt} {i : Nat} {x : Str}
theorem Slots.setKn {K : PySem.W.Frag} {B F H : Hp} {σ : L2.St} {φ : Hp → V → Prop} (s : Slots K A B F H ρ σ) (i : Nat) {v : V} (p : ∀ F', Same F F' → φ F' v) : Slots K A B F H (ρ.set i (.kn φ)) (σ.set i (some v)) := by
  refine ⟨by simp [s.len], fun j sl o h1 h2 => ?_, fun j l xs ys q h1 h2 h3 h4 => ?_⟩
  · rcases set_get h1 with ⟨e, rfl⟩ | ⟨e, h1⟩
    · subst e
      rcases set_get h2 with ⟨_, rfl⟩ | ⟨e, _⟩
      · exact ⟨v, rfl, p⟩
      · exact absurd rfl e
    · rcases set_get h2 with ⟨e', _⟩ | ⟨_, h2⟩
      · exact absurd e' e
      · exact s.at_ j sl o h1 h2
  · rcases set_get h1 with ⟨_, z⟩ | ⟨n1, h1⟩
    · cases z
    · rcases set_get h2 with ⟨_, z⟩ | ⟨n2, h2⟩
      · cases z
      · rw [List.getElem?_set_ne n1] at h3
        rw [List.getElem?_set_ne n2] at h4
        exact s.apart j l xs ys q h1 h2 h3 h4
/-- x = a frozen thing -/
theorem b_kn {κ : Type} {φ : κ → Hp → V → Prop} {mo : M κ} {mr : κ → M (Fl β γ)} (hN : X.N.Nodup) (hi : X.N[i]? = some x) (hx : Loc X.env.scope x) (he : PE X e (tR X.K A E ρ (fun F k v => ∀ F', Same F F' → φ k F' v) mo)) (hr : ∀ k, PSs X rest (tB X.K A E (ρ.set i (.kn (φ k))) ρb ρg (mr k)))
    (hs : swapsWith e (some (.Name x pos')) pos.line X.env = pure false := by rfl) (hf : X.fn x = true ∨ X.env.scope.names.lookup x = some .local := by first | exact .inl rfl | exact .inr rfl | assumption) :
    PSs X (.Assign [.Name x pos'] e pos :: rest) (tB X.K A E ρ ρb ρg (mo >>= mr)) :=
  PSs.imp' (pss_cons (u := fun D σ H => ∃ k, tB X.K A E (ρ.set i (.kn (φ k))) ρb ρg (mr k) D σ H) (ps_set hN hi hx he hs hf) ⟨fun pins s σ H D I ⟨d, q⟩ => (hr d).run pins s σ H D I q⟩) fun D σ H ⟨c, F, F0, B, n, h⟩ =>
    ⟨c, F, B, (tBn.ex (R := fun F k v => ∀ F', Same F F' → φ k F' v) n h).mono fun v H1 ⟨d, c1, F1, r, n1, h1⟩ => ⟨d, c1, F1, F0, B, ⟨n1.w, n1.x, n1.s.setKn i r⟩, h1⟩⟩
theorem b_kn2 {κ : Type} {φ : κ → Hp → V → Prop} {m1 m2 : M D} {o : D → D → Option κ} {mr : κ → M (Fl β γ)} (hN : X.N.Nodup) (hi : X.N[i]? = some x) (hx : Loc X.env.scope x) (he : PE X e (tR X.K A E ρ (fun F k v => ∀ F', Same F F' → φ k F' v) (m1 >>= fun d => m2 >>= fun e => lft (o d e)))) (hr : ∀ k, PSs X rest (tB X.K A E (ρ.set i (.kn (φ k))) ρb ρg (mr k)))
    (hs : swapsWith e (some (.Name x pos')) pos.line X.env = pure false := by rfl) (hf : X.fn x = true ∨ X.env.scope.names.lookup x = some .local := by first | exact .inl rfl | exact .inr rfl | assumption) :
    PSs X (.Assign [.Name x pos'] e pos :: rest) (tB X.K A E ρ ρb ρg (m1 >>= fun d => m2 >>= fun e => lft (o d e) >>= mr)) := by
  have q := b_kn (pos' := pos') (pos := pos) (rest := rest) hN hi hx he hr hs hf
  have e2 : ((m1 >>= fun d => m2 >>= fun e => lft (o d e)) >>= mr) = (m1 >>= fun d => m2 >>= fun e => lft (o d e) >>= mr) := by
    rw [bind_assoc]
    congr 1
    funext d
    rw [bind_assoc]
  rw [e2] at q
  exact q
end
end Mir

set_option maxRecDepth 100000
/-! MirE9b: x[a], x[b] = e, f of an own list. -/
namespace Mir
open PySem PySem.Spec PyProof.Rows L2
section
variable {X : Cx} {A : Option Addr} {E : Exc → L2.St → Hp → Prop} {ρ : List Sl} {β γ : Type} {ρb : β → List Sl} {ρg : γ → List Sl} {pos : Pos} {rest : List Stmt} {i : Nat} {x : Str}
theorem tBn.exS {α δ : Type} {R : Hp → α → δ → Prop} {m : M α} {k : α → M (Fl β γ)} {D : Ends} {c : Cup} {F F0 B H : Hp} {σ : L2.St} (n : Now X.K A F0 B c F H ρ σ) (h : tBn X.K A E ρb ρg (m >>= k) D c F0 B) :
    tG X.K A E ρ R m c F B σ H fun v H1 => ∃ a c' F', Same F F' ∧ R F' a v ∧ Now X.K A F0 B c' F' H1 ρ σ ∧ tBn X.K A E ρb ρg (k a) D c' F0 B :=
  ⟨n.w, n.s, (Wp_bind.mp h).mono (fun d c' q v F' H' e w' r => ⟨d, c', F', e.f, r, n.ext e w', q⟩) fun x c' q F' H' e w' => q σ F' H' w' (n.x.trans e)⟩
/-- one store into an own list, within a target -/
theorem set_own {xs : List D} {ma : M D} {k : List D → M (Fl β γ)} {c : Cup} {F F0 B H : Hp} {σ : L2.St} {d : D} {v : V} {D0 : Ends} {Q : L2.St → Hp → Prop} (hi : ρ[i]? = some (.own xs)) (n : Now X.K A F0 B c F H ρ σ) (r : Dp X.K F v d)
    (h : tBn X.K A E ρb ρg (ma >>= fun a => lft (setAt xs a d) >>= k) D0 c F0 B)
    (hQ : ∀ ys c' F' H', Same F F' → Now X.K A F0 B c' F' H' (ρ.set i (.own ys)) σ → tBn X.K A E ρb ρg (k ys) D0 c' F0 B → Q σ H') :
    gSub (tVar i) (tM X.K A E ρ ma) rSetL v σ H Q := by
  obtain ⟨p, vs, e1, e2, e3, e4, e5, e6⟩ := n.s.own hi
  refine ⟨.ref p, e1, c, F, B, n.w, n.s, (Wp_bind.mp h).mono (fun a c2 q av F2 H2 x2 w2 ra => ?_) fun x c' q F' H' e w' => q σ F' H' w' (n.x.trans e)⟩
  have n2 := n.ext x2 w2
  obtain ⟨ys, ey, h2⟩ := Wp_lft (Wp_bind.mp q)
  unfold setAt at ey
  split at ey
  · rename_i j
    obtain ⟨m, em, rfl⟩ := Option.map_eq_some_iff.mp ey
    cases ra
    obtain ⟨p', vs', f1, f2, f3, f4, f5, f6⟩ := n2.s.own hi
    rw [e1] at f1
    cases f1
    refine ⟨p, vs', j, m, rfl, rfl, f5, ?_, hQ (xs.set m d) c2 F2 _ x2.f (n2.mut hi e1 f5 (DpAll.setM m f6 (Dp.sameM x2.f d v r))) h2⟩
    rw [ixN_eq, f6.lenM]; exact em
  · cases ey
theorem b_swap {xs : List D} {a b e1 e2 : Expr} {m1 m2 ma mb : M D} {mr : List D → M (Fl β γ)} {p1 p2 p3 p4 pt pt2 : Pos} {kt k2} (hc : X.calm = true) (hi : ρ[i]? = some (.own xs)) (hv : PE X (.Name x p1) (tVar i)) (hv2 : PE X (.Name x p3) (tVar i))
    (h1 : PE X e1 (tM X.K A E ρ m1)) (h2 : PE X e2 (tM X.K A E ρ m2)) (ha : PE X a (tM X.K A E ρ ma)) (hb : ∀ ds, PE X b (tM X.K A E (ρ.set i (.own ds)) mb)) (hr : ∀ ds, PSs X rest (tB X.K A E (ρ.set i (.own ds)) ρb ρg (mr ds)))
    (hs : swapsWithSole [.Tuple [.Subscript (.Name x p1) a p2, .Subscript (.Name x p3) b p4] kt pt] (.Tuple [e1, e2] k2 pt2) pos.line X.env = pure false := by rfl)
    (hw : swappedStores [.Tuple [.Subscript (.Name x p1) a p2, .Subscript (.Name x p3) b p4] kt pt] (.Tuple [e1, e2] k2 pt2) X.env = pure none := by rfl)
    (h3 : (assignEach [.Tuple [.Subscript (.Name x p1) a p2, .Subscript (.Name x p3) b p4] kt pt] X.env).map (·.2) = [assign (.Tuple [.Subscript (.Name x p1) a p2, .Subscript (.Name x p3) b p4] kt pt) X.env] := by rfl)
    (he : starEach [e1, e2] X.env = (false, eval e1 X.env) :: starEach [e2] X.env := by rfl) (he2 : starEach [e2] X.env = (false, eval e2 X.env) :: starEach [] X.env := by rfl)
    (hn : (assignEach [.Subscript (.Name x p1) a p2, .Subscript (.Name x p3) b p4] X.env).length = 2 := by rfl) (hst : (assignEach [.Subscript (.Name x p1) a p2, .Subscript (.Name x p3) b p4] X.env).findIdx? (·.1) = none := by rfl)
    (hs1 : (assignEach [.Subscript (.Name x p1) a p2, .Subscript (.Name x p3) b p4] X.env).map (·.2) = assign (.Subscript (.Name x p1) a p2) X.env :: (assignEach [.Subscript (.Name x p3) b p4] X.env).map (·.2) := by rfl)
    (hs2 : (assignEach [.Subscript (.Name x p3) b p4] X.env).map (·.2) = assign (.Subscript (.Name x p3) b p4) X.env :: (assignEach [] X.env).map (·.2) := by rfl)
    (has : ∀ v, assign (.Subscript (.Name x p1) a p2) X.env v = (do
      let ov ← holding [v] (eval (.Name x p1) X.env)
      let iv ← holding [v, ov] (eval a X.env)
      standAt p2
      holding [v, ov, iv] (setItem ov iv v)
      release [v, ov, iv] []) := by intro _; rfl)
    (has2 : ∀ v, assign (.Subscript (.Name x p3) b p4) X.env v = (do
      let ov ← holding [v] (eval (.Name x p3) X.env)
      let iv ← holding [v, ov] (eval b X.env)
      standAt p4
      holding [v, ov, iv] (setItem ov iv v)
      release [v, ov, iv] []) := by intro _; rfl) :
    PSs X (.Assign [.Tuple [.Subscript (.Name x p1) a p2, .Subscript (.Name x p3) b p4] kt pt] (.Tuple [e1, e2] k2 pt2) pos :: rest)
      (tB X.K A E ρ ρb ρg (m1 >>= fun v1 => m2 >>= fun v2 => ma >>= fun k1 => lft (setAt xs k1 v1) >>= fun ys => mb >>= fun k2 => lft (setAt ys k2 v2) >>= mr)) := by
  have lt : i < ρ.length := (List.getElem?_eq_some_iff.mp hi).1
  refine PSs.imp' (pss_cons (u := fun D σ H => ∃ d, tB X.K A E (ρ.set i (.own d)) ρb ρg (mr d) D σ H) (ps_asg (pe_tup (pa_cons h1 (pa_cons h2 pa_nil he2) he))
    (pg_tup hc (pgs_cons (pg_sub hv ha set_list has) (pgs_cons (t := fun v σ H Q => ∃ ds, gSub (tVar i) (tM X.K A E (ρ.set i (.own ds)) mb) rSetL v σ H Q) ⟨fun pins s σ H v u Q I r ⟨ds, q⟩ => (pg_sub hv2 (hb ds) set_list has2).run pins s σ H v u Q I r q⟩ pgs_nil hs2) hs1) hn hst) hs hw h3)
    ⟨fun pins s σ H D I ⟨d, q⟩ => (hr d).run pins s σ H D I q⟩) fun D σ H ⟨c, F, F0, B, n, h⟩ =>
    ⟨c, F, B, (tBn.ex (R := RD X.K) n h).mono fun v H1 ⟨d1, c1, F1, r1, n1, g1⟩ => ⟨c1, F1, B, (tBn.exS (R := RD X.K) n1 g1).mono fun w H2 ⟨d2, c2, F2, sm, r2, n2, g2⟩ => ?_⟩⟩
  refine ⟨?_, fun p hp => ⟨p, [v, w], rfl, .inl (.inl upd_same), rfl, v, [w], rfl, ?_⟩⟩
  · rw [sizeLine_eq]; show 2 ≤ 16777216; decide
  · have x3 : Ext A F2 H2 F2 (upd H2 p (.tup [v, w])) := (Ext.new' hp).to
    have n3 := n2.ext x3 (n2.w.ext (Ext.new' hp) (n2.w.frz.new' hp))
    refine set_own hi n3 (Dp.sameM sm _ _ r1) g2 fun ys c3 F3 H3 sm3 n4 g3 => ⟨w, [], rfl, ys, ?_⟩
    refine set_own (List.getElem?_set_self lt) n4 (Dp.sameM sm3 _ _ r2) g3 fun zs c4 F4 H4 _ n5 g4 => ⟨rfl, zs, c4, F4, F0, B, ?_, g4⟩
    rw [List.set_set] at n5
    exact n5
end
end Mir

set_option maxRecDepth 100000
/-! MirE9c: s.count(t) of texts, xs.count(d) of a list. -/
namespace Mir
open PySem PySem.Spec PyProof.Rows L2
def scntM (ma mb : M D) : M D := do
  let x ← ma
  match x with
  | .str a => do
    let y ← mb
    match y with
    | .str b => pure (.int (Txt.count a b))
    | _ => bad
  | _ => bad
def cntL (xs : List D) (d : D) : Option D := if PyData.depthAll xs ≤ 60 then some (.int ((xs.countP fun y => PyData.eqv y d : Nat) : Int)) else none
def lcntM (ma mb : M D) : M D := do
  let x ← ma
  match x with
  | .list xs => do
    let y ← mb
    lft (cntL xs y)
  | _ => bad
section
variable {X : Cx} {A : Option Addr} {E : Exc → L2.St → Hp → Prop} {ρ : List Sl} {a b : Expr} {ma mb : M D} {pos : Pos}
theorem ev_scount {apos : Pos} (ha : PE X a (tM X.K A E ρ ma)) (hb : PE X b (tM X.K A E ρ mb)) (hs : starEach [b] X.env = [(false, eval b X.env)] := by rfl) (hbase : attributeBase a "count" X.env (eval a X.env) = eval a X.env := by rfl) (hline : (apos.endLine == pos.line) = true := by rfl) :
    PE X (.Call (.Attribute a "count" apos) [b] [] pos) (tM X.K A E ρ (scntM ma mb)) := (pe_m1 PySem.F.slot_str_count PySem.F.type_str_count mt_count ha hb hs hbase hline).impM fun σ H Q ⟨c, F, B, h⟩ => by
  refine ⟨c, F, B, (tG.bind (R := RD X.K) h).mono fun x H1 ⟨d, c1, F1, e1, r1, h1⟩ => ?_⟩
  split at h1
  · rename_i sx
    cases r1
    refine ⟨⟨_, rfl⟩, c1, F1, B, (tG.bind (R := RD X.K) h1).mono fun y H2 ⟨d2, c2, F2, e2, r2, h2⟩ => ?_⟩
    split at h2
    · rename_i sy
      cases r2
      exact ⟨sx, sy, rfl, rfl, h2.pure (.int _)⟩
    · exact h2.2.2.elim
  · exact h1.2.2.elim
theorem mt_lcntD {kk : Nat} (hr : Room kk X.A) : MtR X "list.count" (fun x xs H Q => ∃ p ds y d F vs, x = .ref p ∧ xs = [y] ∧ Frz F H ∧ SqL X.K F p vs ∧ DpAll X.K F vs ds ∧ Dp X.K F y d ∧ PyData.depthAll ds ≤ 60 ∧ Q (.int ((ds.countP fun y => PyData.eqv y d : Nat) : Int)) H) := by
  intro pins s σ H x xs v us Q I rx rxs h
  obtain ⟨p, ds, y, d, F, vs, rfl, rfl, z, hs, pa, pd, hdp, q⟩ := h
  cases rx
  obtain ⟨u, rfl, ry⟩ := vals1 rxs
  obtain ⟨its, rv, ⟨o, n, ho, hc, hdn, hd⟩, hlen⟩ := I.list (SqL.sameM z.sub hs)
  obtain ⟨as, rs⟩ := Dp.readsAll I _ _ its (DpAll.sameM z.sub _ _ pa) rv
  obtain ⟨bs, rx⟩ := Dp.reads I d y u (Dp.sameM z.sub d y pd) ry
  have hu := hr.un
  exact PySem.SeqAt.count_list_data (vs := its.toArray) ⟨o, ho, hc, n, hd⟩ (by simpa using rs) rx (DpAll.plainM _ _ pa) (Dp.plainM _ _ pd) (by have : min (PyData.depthAll ds) d.depth ≤ 60 := Nat.le_trans (Nat.min_le_left _ _) hdp; omega)
    ⟨.int _, H, I.tok _, ⟨_, rfl⟩, q⟩
theorem ev_lcount {kk : Nat} {apos : Pos} (hr : Room kk X.A) (ha : PE X a (tM X.K A E ρ ma)) (hb : PE X b (tM X.K A E ρ mb)) (hs : starEach [b] X.env = (false, eval b X.env) :: starEach [] X.env := by rfl) (hbase : attributeBase a "count" X.env (eval a X.env) = eval a X.env := by rfl) (hline : (apos.endLine == pos.line) = true := by rfl) :
    PE X (.Call (.Attribute a "count" apos) [b] [] pos) (tM X.K A E ρ (lcntM ma mb)) := by
  refine (pe_bm PySem.F.plainAttrs_list PySem.F.slot_list_count PySem.F.type_list_count (mt_lcntD hr) ha (pa_cons hb pa_nil hs) hbase (by rw [hs] <;> rfl) hline hs).impM fun σ H Q ⟨c, F, B, h⟩ => ?_
  refine ⟨c, F, B, (tG.bind (R := RD X.K) h).mono fun x H1 ⟨d, c1, F1, e1, r1, h1⟩ => ?_⟩
  split at h1
  · rename_i xs
    cases r1 with
    | lst h3 p3 =>
      refine ⟨.inl ⟨rfl, _, SqL.sameM h1.1.frz.sub h3⟩, c1, F1, B, (tG.bind (R := RD X.K) h1).mono fun y H2 ⟨d2, c2, F2, e2, r2, h2⟩ => ?_⟩
      obtain ⟨r, er, q2⟩ := h2.lft
      unfold cntL at er
      split at er
      · rename_i hdp
        cases er
        exact ⟨_, xs, y, d2, F2, _, rfl, rfl, h2.1.frz, SqL.sameM e2.f h3, DpAll.sameM e2.f _ _ p3, r2, hdp, q2 _ F2 H2 .refl h2.1.frz (.int _)⟩
      · cases er
  · exact h1.2.2.elim
end
end Mir

set_option maxRecDepth 100000
/-! MirE9d: y.append(x.pop(e)) of two own lists; len(set(ints)). -/
namespace Mir
open PySem PySem.Spec PyProof.Rows L2
def popI (xs : List D) : D → Option (D × List D)
  | .int i => if 0 ≤ i ∧ i < xs.length ∧ xs.length ≤ lim then (xs[i.toNat]?).map fun d => (d, xs.eraseIdx i.toNat) else none
  | _ => none
section
variable {X : Cx} {A : Option Addr} {E : Exc → L2.St → Hp → Prop} {ρ : List Sl} {β γ : Type} {ρb : β → List Sl} {ρg : γ → List Sl} {pos : Pos} {rest : List Stmt} {i j : Nat} {x y : Str} {e : Expr}
theorem b_appPop {xs ys : List D} {me : M D} {mr : List D → List D → M (Fl β γ)} {p1 p2 p3 q1 q2 q3 : Pos} (hij : i ≠ j) (hi : ρ[i]? = some (.own xs)) (hj : ρ[j]? = some (.own ys)) (hv : PE X (.Name x p1) (tVar i)) (hw : PE X (.Name y q1) (tVar j)) (he : PE X e (tM X.K A E ρ me))
    (hr : ∀ d1 d2, PSs X rest (tB X.K A E ((ρ.set i (.own d1)).set j (.own d2)) ρb ρg (mr d1 d2)))
    (hs : swapsWith (.Call (.Attribute (.Name y q1) "append" q2) [.Call (.Attribute (.Name x p1) "pop" p2) [e] [] p3] [] q3) none pos.line X.env = pure false := by rfl)
    (hst : starEach [.Call (.Attribute (.Name x p1) "pop" p2) [e] [] p3] X.env = (false, eval (.Call (.Attribute (.Name x p1) "pop" p2) [e] [] p3) X.env) :: starEach [] X.env := by rfl)
    (hst2 : starEach [e] X.env = (false, eval e X.env) :: starEach [] X.env := by rfl)
    (hbase : attributeBase (.Name y q1) "append" X.env (eval (.Name y q1) X.env) = eval (.Name y q1) X.env := by rfl) (hline : (q2.endLine == q3.line) = true := by rfl)
    (hbase2 : attributeBase (.Name x p1) "pop" X.env (eval (.Name x p1) X.env) = eval (.Name x p1) X.env := by rfl) (hline2 : (p2.endLine == p3.line) = true := by rfl) :
    PSs X (.Expr (.Call (.Attribute (.Name y q1) "append" q2) [.Call (.Attribute (.Name x p1) "pop" p2) [e] [] p3] [] q3) pos :: rest) (tB X.K A E ρ ρb ρg (me >>= fun d => lft (popI xs d) >>= fun r => lft (fitL ys) >>= fun zs => mr r.2 (zs ++ [r.1]))) :=
  PSs.imp' (pss_cons (u := fun D σ H => ∃ d1 d2, tB X.K A E ((ρ.set i (.own d1)).set j (.own d2)) ρb ρg (mr d1 d2) D σ H)
    (ps_expr (pe_bm PySem.F.plainAttrs_list PySem.F.slot_list_append PySem.F.type_list_append mt_append hw
      (pa_cons (pe_bm PySem.F.plainAttrs_list PySem.F.slot_list_pop PySem.F.type_list_pop mt_popAt hv (pa_cons he pa_nil hst2) hbase2 (by rw [hst2] <;> rfl) hline2 hst2) pa_nil hst) hbase (by rw [hst] <;> rfl) hline hst) hs)
    ⟨fun pins s σ H D I ⟨d1, d2, q⟩ => (hr d1 d2).run pins s σ H D I q⟩) fun D σ H ⟨c, F, F0, B, n, h⟩ => by
    obtain ⟨q, us, g1, g2, g3, g4, g5, g6⟩ := n.s.own hj
    obtain ⟨p, vs, e1, e2, e3, e4, e5, e6⟩ := n.s.own hi
    refine ⟨.ref q, g1, .inl ⟨rfl, us, .inl (.inl g5)⟩, .ref p, e1, .inl ⟨rfl, vs, .inl (.inl e5)⟩, c, F, B, (tBn.ex (R := RD X.K) n h).mono fun v H1 ⟨d, c1, F1, r, n1, h1⟩ => ?_⟩
    obtain ⟨pr, ep, h1⟩ := Wp_lft (Wp_bind.mp h1)
    unfold popI at ep
    split at ep
    · rename_i z
      split at ep
      · rename_i hz
        obtain ⟨z0, z1, z2⟩ := hz
        obtain ⟨dd, ed, rfl⟩ := Option.map_eq_some_iff.mp ep
        cases r
        obtain ⟨p', vs', f1, f2, f3, f4, f5, f6⟩ := n1.s.own hi
        rw [e1] at f1
        cases f1
        obtain ⟨w, ew, pw⟩ := f6.getDM ed
        have hlen : vs'.length = xs.length := f6.lenM
        have hlim : lim = 16777216 := rfl
        have dl : DpAll X.K F1 (vs'.eraseIdx z.toNat) (xs.eraseIdx z.toNat) := by
          rw [List.eraseIdx_eq_take_drop_succ, List.eraseIdx_eq_take_drop_succ]
          exact (f6.takeM _).appM (f6.dropM _)
        have n2 := n1.mut hi e1 f5 dl
        have hj2 : (ρ.set i (.own (xs.eraseIdx z.toNat)))[j]? = some (.own ys) := by rw [List.getElem?_set_ne hij]; exact hj
        obtain ⟨zs, ez, h2⟩ := Wp_lft (Wp_bind.mp h1)
        unfold fitL at ez
        split at ez
        · rename_i hfit
          cases ez
          obtain ⟨q', us', k1, k2, k3, k4, k5, k6⟩ := n2.s.own hj2
          rw [g1] at k1
          cases k1
          refine ⟨p, vs', z, z.toNat, w, rfl, rfl, f5, by omega, by omega, ?_, ew, q, us', w, rfl, rfl, k5, ?_, _, _, c1, F1, F0, B, n2.mut hj2 g1 k5 (k6.appM (.cons pw .nil)), h2⟩
          · rw [hlen]
            have hn0 : ¬ z < 0 := by omega
            show (if (decide (0 ≤ (if z < 0 then z + (xs.length : Int) else z)) && decide ((if z < 0 then z + (xs.length : Int) else z) < (xs.length : Int))) = true then some (if z < 0 then z + (xs.length : Int) else z).toNat else none) = _
            rw [if_neg hn0, decide_eq_true z0, decide_eq_true z1]
            rfl
          · rw [k6.lenM, ← lim_eq]; exact hfit
        · cases ez
      · cases ep
    · cases ep
end
/-! ### len(set(ints)) -/
def ddI (ns : List Int) : List Int := PyProof.Rows.firstMet (fun i => ns.getD i 0) ns.length
theorem first_mem (val : Nat → Int) : ∀ i, (PyProof.Rows.firstMet val i).Nodup ∧ ∀ k, k ∈ PyProof.Rows.firstMet val i ↔ ∃ j, j < i ∧ val j = k
  | 0 => ⟨List.nodup_nil, fun k => Iff.intro (fun h => nomatch h) (fun ⟨j, h, _⟩ => absurd h (Nat.not_lt_zero j))⟩
  | i + 1 => by
    obtain ⟨h1, h2⟩ := first_mem val i
    rw [PyProof.Rows.firstMet_succ]
    generalize PyProof.Rows.firstMet val i = L at h1 h2
    show (if L.any (· == val i) = true then L else L ++ [val i]).Nodup ∧ ∀ k, k ∈ (if L.any (· == val i) = true then L else L ++ [val i]) ↔ _
    have hmem : L.any (· == val i) = true ↔ val i ∈ L := by
      rw [List.any_eq_true]
      exact ⟨fun ⟨x, hx, e⟩ => by rw [← eq_of_beq e]; exact hx, fun h => ⟨_, h, beq_self_eq_true _⟩⟩
    by_cases ha : L.any (· == val i) = true
    · rw [if_pos ha]
      refine ⟨h1, fun k => (h2 k).trans ⟨fun ⟨j, hj, e⟩ => ⟨j, by omega, e⟩, fun ⟨j, hj, e⟩ => ?_⟩⟩
      by_cases he : j = i
      · subst he
        rw [← e]
        exact (h2 _).mp (hmem.mp ha)
      · exact ⟨j, by omega, e⟩
    · rw [if_neg ha]
      have hn : val i ∉ L := fun z => ha (hmem.mpr z)
      refine ⟨List.nodup_append.mpr ⟨h1, by simp, fun a ha b hb => ?_⟩, fun k => ?_⟩
      · rw [List.mem_singleton.mp hb]
        exact fun e => hn (e ▸ ha)
      · rw [List.mem_append, List.mem_singleton, h2 k]
        constructor
        · intro h
          rcases h with ⟨j, hj, e⟩ | e
          · exact ⟨j, by omega, e⟩
          · exact ⟨i, by omega, e.symm⟩
        · intro ⟨j, hj, e⟩
          by_cases he : j = i
          · subst he; exact .inr e.symm
          · exact .inl ⟨j, by omega, e⟩
theorem ddI_mem (ns : List Int) (k : Int) : k ∈ ddI ns ↔ k ∈ ns := by
  unfold ddI
  rw [(first_mem _ _).2 k]
  constructor
  · intro ⟨j, hj, e⟩
    rw [← e, List.getD_eq_getElem?_getD, List.getElem?_eq_getElem hj]
    exact List.getElem_mem hj
  · intro h
    obtain ⟨j, hj, e⟩ := List.getElem_of_mem h
    refine ⟨j, hj, ?_⟩
    rw [List.getD_eq_getElem?_getD, List.getElem?_eq_getElem hj]
    exact e
theorem ddI_nodup (ns : List Int) : (ddI ns).Nodup := (first_mem _ _).1
theorem card_eq {a b : List Int} (ha : a.Nodup) (hb : b.Nodup) (h : ∀ k, k ∈ a ↔ k ∈ b) : a.length = b.length :=
  Nat.le_antisymm (List.Nodup.length_le_of_subset ha fun k hk => (h k).mp hk) (List.Nodup.length_le_of_subset hb fun k hk => (h k).mpr hk)
def dLenSet : O1
  | .list xs => match intsOf xs with
    | some ns => if ns.length ≤ 4000 then some (.int ((ddI ns).length : Nat)) else none
    | none => none
  | .tuple xs => match intsOf xs with
    | some ns => if ns.length ≤ 4000 then some (.int ((ddI ns).length : Nat)) else none
    | none => none
  | _ => none
section
variable {X : Cx} {A : Option Addr} {E : Exc → L2.St → Hp → Prop} {ρ : List Sl} {e : Expr} {me : M D} {p p2 pos pos2 : Pos} {te : TE}
def tLenSetD (K : PySem.W.Frag) (te : TE) : TE := fun σ H Q => te σ H fun x H1 => ∃ (l : Addr) (ns : List Int), x = .ref l ∧ (SqL K H1 l (ns.map V.int) ∨ SqT K H1 l (ns.map V.int)) ∧ ns.length ≤ 4000 ∧ Q (.int ((ddI ns).length : Nat)) H1
theorem pe_lenSetD (hc : X.calm = true) (hg : Gl X "len") (hm : X.mg "len" = none) (hg2 : Gl X "set") (hm2 : X.mg "set" = none) (he : PE X e te) (na : starEach [e] X.env = (false, eval e X.env) :: starEach [] X.env := by rfl) :
    PE X (.Call (.Name "len" p) [.Call (.Name "set" p2) [e] [] pos2] [] pos) (tLenSetD X.K te) := by
  refine ⟨fun pins s σ H Q I h => Call_ (ld_blt I hg hm PySem.boot_len (PyProof.Rows.callWith_builtin1 (PyProof.Rows.args_cons (Call_ (ld_blt I hg2 hm2 PyProof.Rows.boot_set (PyProof.Rows.callWith_type1 (PyProof.Rows.args_cons (thn (he.run pins s σ H _ I h) fun v s1 ⟨x, H1, I1, r1, q1⟩ => PyProof.Rows.args_nil ?_) na) na rfl))) rfl) rfl rfl))⟩
  obtain ⟨l, ns, rfl, hq, hl, q1⟩ := q1
  cases r1
  rcases hq with hq | hq
  · obtain ⟨its, rv, pl, hz⟩ := I1.list hq
    have hlen : its.toArray.size = ns.length := by rw [List.size_toArray, ← rv.length, List.length_map]
    refine call_set_list (ns := ns) (I1.ok.hd hc) pl.isList (by simpa using RZ.intsAre_vals rv) (by rw [hlen]; unfold scanBound; omega) fun h' tk hS hk => PyProof.Rows.args_nil ?_
    rw [hlen] at hS
    obtain ⟨o, es, ep, t, ho, hex, hd, _, _, hsb, hf, hn⟩ := hS
    have I2 : Inv X pins σ H1 { s1 with heap := h', toks := tk } := I1.kept fun b o e => hk b o (Heap.lt_size e) e
    exact call_len_set ho hex hd hf (by unfold scanBound at hsb; omega) ⟨.int _, H1, I2.tok _, ⟨_, rfl⟩, by rw [hn]; exact q1⟩
  · obtain ⟨its, rv, pt, hz⟩ := I1.tuple hq
    refine call_set_tupI ns (I1.ok.hd hc) (show s1.heap.IsTuple l its.toArray from pt) (ints_of_vals rv) (by unfold scanBound; omega) fun h' tk c R1 hcn k => PyProof.Rows.args_nil ?_
    obtain ⟨o, es, ep, t, ho, hex, hd, _, nd, hmem, hsb, hf, hn, _⟩ := R1
    have I2 : Inv X pins σ H1 { s1 with heap := h', toks := tk } := I1.kept k
    have hcard : es.size = (ddI ns).length := by
      have := card_eq nd (ddI_nodup ns) fun j => by rw [← hmem j, decide_eq_true_eq, ddI_mem]
      rw [← this, List.length_map, Array.length_toList]
    exact call_len_set ho hex hd hf (by unfold scanBound at hsb; omega) ⟨.int _, H1, I2.tok _, ⟨_, rfl⟩, by rw [hcard]; exact q1⟩
theorem ev_lenSet (hc : X.calm = true) (hg : Gl X "len") (hm : X.mg "len" = none) (hg2 : Gl X "set") (hm2 : X.mg "set" = none) (he : PE X e (tM X.K A E ρ me)) (na : starEach [e] X.env = (false, eval e X.env) :: starEach [] X.env := by rfl) :
    PE X (.Call (.Name "len" p) [.Call (.Name "set" p2) [e] [] pos2] [] pos) (tM X.K A E ρ (me >>= fun d => lft (dLenSet d))) :=
  (pe_lenSetD hc hg hm hg2 hm2 he na).impM fun σ H Q ⟨c, F, B, h⟩ => ⟨c, F, B, (tG.bind (R := RD X.K) h).mono fun v H1 ⟨d, c1, F1, e1, r1, h1⟩ => by
    obtain ⟨r, er, q⟩ := h1.lft
    unfold dLenSet at er
    split at er
    · split at er
      · rename_i ns en
        split at er
        · rename_i hl
          cases er
          cases r1 with
          | lst h2 p2 =>
            have h3 := SqL.sameM h1.1.frz.sub h2
            rw [ints_ok p2 en] at h3
            exact ⟨_, ns, rfl, .inl h3, hl, q _ F1 H1 .refl h1.1.frz (.int _)⟩
        · cases er
      · cases er
    · split at er
      · rename_i ns en
        split at er
        · rename_i hl
          cases er
          cases r1 with
          | tup h2 p2 =>
            have h3 := SqT.sameM h1.1.frz.sub h2
            rw [ints_ok p2 en] at h3
            exact ⟨_, ns, rfl, .inr h3, hl, q _ F1 H1 .refl h1.1.frz (.int _)⟩
        · cases er
      · cases er
    · cases er⟩
end
end Mir

set_option maxRecDepth 100000
/-! MirE9e: dict(t) of a tuple of pairs, .get(k, e) of it. -/
namespace Mir
open PySem PySem.Spec PyProof.Rows L2
def pairsD : List D → Option (List (Key × D))
  | [] => some []
  | .tuple [k, v] :: r => match keyD k, pairsD r with
    | some q, some l => some ((q, v) :: l)
    | _, _ => none
  | _ :: _ => none
def dDictPairs : D → Option (List (Key × D))
  | .tuple xs => match pairsD xs with
    | some kvs => if (kvs.map (·.1)).Nodup ∧ xs.length ≤ lim then some kvs else none
    | none => none
  | _ => none
def dGetOr (kvs : List (Key × D)) (d e : D) : Option D := match keyD d with
  | some k => some (((kvs.find? fun kv => decide (kv.1 = k)).map (·.2)).getD e)
  | none => none
section
variable {X : Cx} {A : Option Addr} {E : Exc → L2.St → Hp → Prop} {ρ : List Sl} {a b : Expr} {ma mb : M D} {p p2 pos pos2 : Pos} {te : TE}
theorem pairs_of {pins : List (Addr × Obj)} {σ : L2.St} {H : Hp} {s : Shared} (I : Inv X pins σ H s) : ∀ (L : List (Addr × Key × V)), (∀ x ∈ L, SqT X.K H x.1 [kV x.2.1, x.2.2]) →
    ∃ ps : List (Value × Value), ps.length = L.length ∧ (∀ (j : Nat) x, L[j]? = some x → ∃ k v, ps[j]? = some (k, v) ∧ s.heap.IsTuple x.1 #[k, v] ∧ RelV (kV x.2.1) k) ∧ KV (L.map (·.2)) ((L.map (·.2.1)).zip (ps.map (·.2)))
  | [], _ => ⟨[], rfl, fun j x h => by simp at h, .nil⟩
  | x :: L, h => by
    obtain ⟨ps, h1, h2, h3⟩ := pairs_of I L fun y hy => h y (List.mem_cons_of_mem _ hy)
    obtain ⟨its, rv, pt, hz⟩ := I.tuple (h x List.mem_cons_self)
    obtain ⟨k, v, rfl, rk, rw⟩ := vals2 rv
    refine ⟨(k, v) :: ps, by rw [List.length_cons, List.length_cons, h1], fun j y hy => ?_, .cons ⟨rfl, rw⟩ h3⟩
    match j, hy with
    | 0, hy => cases hy; exact ⟨k, v, rfl, pt, rk⟩
    | j + 1, hy => exact h2 j y hy
def tDictP (K : PySem.W.Frag) (te : TE) : TE := fun σ H Q => te σ H fun x H1 => ∃ (q : Addr) (L : List (Addr × Key × V)), x = .ref q ∧ tyV K "tuple" (.ref q) H1 ∧ SqT K H1 q (L.map fun x => .ref x.1) ∧ (∀ x ∈ L, SqT K H1 x.1 [kV x.2.1, x.2.2]) ∧ (L.map (·.2.1)).Nodup ∧ L.length ≤ sizeLine ∧
  ∀ r, H1 r = none → Q (.ref r) (upd H1 r (.dK (L.map (·.2))))
theorem pe_dictP (hc : X.calm = true) (hg : Gl X "dict") (hm : X.mg "dict" = none) (ha : PE X a te) (na : starEach [a] X.env = (false, eval a X.env) :: starEach [] X.env := by rfl) : PE X (.Call (.Name "dict" p) [a] [] pos) (tDictP X.K te) := by
  refine ⟨fun pins s σ H Q I h => Call_ (ld_blt I hg hm PyProof.Rows.boot_dict (PyProof.Rows.callWith_type1 (args_cons (thn (ha.run pins s σ H _ I h) fun v t ⟨x, H1, I1, r1, q1⟩ => args_nil ?_) na) na))⟩
  obtain ⟨q, L, rfl, ty, sq, hL, hnd, hz, fin⟩ := q1
  obtain ⟨ob, gb, nb⟩ := (tyV_is I1 r1 ty).2 q r1
  cases r1
  obtain ⟨its, rv, pt, hz2⟩ := I1.tuple sq
  obtain ⟨ps, p1, p2, p3⟩ := pairs_of I1 L hL
  have li : its.length = L.length := by rw [← rv.length, List.length_map]
  have hget : ∀ (j : Nat) k v, ps[j]? = some (k, v) → ∃ x, L[j]? = some x ∧ t.heap.IsTuple x.1 #[k, v] ∧ RelV (kV x.2.1) k := fun j k v e => by
    have hj : j < L.length := by rw [← p1]; exact (List.getElem?_eq_some_iff.mp e).1
    obtain ⟨k2, v2, e2, t2, r2⟩ := p2 j L[j] (List.getElem?_eq_getElem hj)
    rw [e] at e2
    cases e2
    exact ⟨_, List.getElem?_eq_getElem hj, t2, r2⟩
  have big := I1.big
  generalize hN : t.heap.objs.size = N at *
  refine PySem.call_dict_pairs (knd := mixKind X.prog X.w) (kvs := (L.map (·.2.1)).zip (ps.map (·.2))) (PairArg.tuple q its.toArray (fun j => ((L[j]?).map (·.1)).getD 0) ps) (I1.ok.hd hc)
    ⟨?_, ?_, fun j k v e => ?_⟩ ⟨?_, fun i key v e => ?_⟩ ?_ fun h2 tk hd hk2 => ?_
  · obtain ⟨o, ho, hcl, n, hdt⟩ := pt
    have eo : ob = o := Option.some.inj (gb.symm.trans ho)
    exact ⟨o, n, ho, hcl, eo ▸ nb, hdt⟩
  · rw [List.size_toArray, li, p1]
  · obtain ⟨x, ex, tx, _⟩ := hget j k v e
    have eu : (L.map fun x => V.ref x.1)[j]? = some (.ref x.1) := by rw [List.getElem?_map, ex]; rfl
    obtain ⟨u, e1, ru⟩ := rv.get eu
    cases ru
    refine ⟨?_, .inl ?_⟩
    · rw [List.getElem?_toArray, e1]
      simp only [ex]
      rfl
    · simp only [ex]
      exact tx
  · rw [List.length_zip, List.length_map, List.length_map, p1, Nat.min_self]
  · obtain ⟨x, ex, _, rx⟩ := hget i key v e
    refine ⟨x.2.1, ?_, kV_is rx⟩
    rw [List.getElem?_zip_eq_some, List.getElem?_map, List.getElem?_map, ex, e]
    exact ⟨rfl, rfl⟩
  · rw [p1]; assumption
  · have lz : (ps.map (·.2)).length = (L.map (·.2.1)).length := by rw [List.length_map, List.length_map, p1]
    have em : merged [] ((L.map (·.2.1)).zip (ps.map (·.2))) = (L.map (·.2.1)).zip (ps.map (·.2)) := merged_nodup (by rw [List.nil_append, zip_keys lz.symm]; exact hnd)
    rw [em] at hd
    have up : ∀ b u, t.heap.get? b = some u → h2.get? b = some u := fun b u e => hk2 b u (fun hm => nomatch hm) e
    have I2 : Inv X pins σ (upd H1 N (.dK (L.map (·.2)))) { t with heap := h2, toks := tk } := I1.laid (t' := tk) up (by rw [hN]; exact Nat.le_refl _)
      (dk_new (by rw [List.length_map]; assumption) (by rw [beq_eq_false_iff_ne]; exact Nat.ne_of_gt big) p3 (hN ▸ hd))
    subst hN
    exact ⟨.ref _, _, I2, rfl, fin _ (I1.hok.fresh (Nat.le_refl _))⟩
theorem pairs_dp {F : Hp} : ∀ {vs : List V} {ds : List D} {kvs : List (Key × D)}, DpAll X.K F vs ds → pairsD ds = some kvs →
    ∃ L : List (Addr × Key × V), vs = L.map (fun x => .ref x.1) ∧ (∀ x ∈ L, SqT X.K F x.1 [kV x.2.1, x.2.2]) ∧ Paired (fun (a : Key × V) (b : Key × D) => a.1 = b.1 ∧ Dp X.K F a.2 b.2) (L.map (·.2)) kvs
  | _, _, kvs, .nil, h => by
    have h : some [] = some kvs := h
    cases h
    exact ⟨[], rfl, (fun x hx => nomatch hx), .nil⟩
  | _, _, kvs, .cons (v := v) (d := d) h t, e => by
    unfold pairsD at e
    split at e
    · rename_i heq; cases heq
    · rename_i k dv r heq
      injection heq with e1 e2
      subst e1
      subst e2
      split at e
      · rename_i q l eq el
        cases e
        obtain ⟨L, l1, l2, l3⟩ := pairs_dp t el
        cases h with
        | @tup tp us _ s1 d1 =>
          cases d1 with
          | cons p1 d2 =>
            cases d2 with
            | cons p2 d3 =>
              cases d3
              rename_i va vb
              have ev : va = kV q := by
                unfold keyD at eq
                split at eq
                · cases eq; cases p1; rfl
                · cases eq; cases p1; rfl
                · cases eq
              subst ev
              refine ⟨(tp, q, vb) :: L, by rw [List.map_cons, ← l1], fun x hx => ?_, .cons ⟨rfl, p2⟩ l3⟩
              rcases List.mem_cons.mp hx with z | hx
              · rw [z]; exact s1
              · exact l2 x hx
      · cases e
    · cases e
theorem paired_same {F F' : Hp} (sm : Same F F') : ∀ {ws : List (Key × V)} {kvs : List (Key × D)}, Paired (fun (a : Key × V) (b : Key × D) => a.1 = b.1 ∧ Dp X.K F a.2 b.2) ws kvs → Paired (fun (a : Key × V) (b : Key × D) => a.1 = b.1 ∧ Dp X.K F' a.2 b.2) ws kvs
  | _, _, .nil => .nil
  | _, _, .cons ⟨h1, h2⟩ t => .cons ⟨h1, Dp.sameM sm _ _ h2⟩ (paired_same sm t)
theorem paired_keys {F : Hp} : ∀ {ws : List (Key × V)} {kvs : List (Key × D)}, Paired (fun (a : Key × V) (b : Key × D) => a.1 = b.1 ∧ Dp X.K F a.2 b.2) ws kvs → ws.map (·.1) = kvs.map (·.1)
  | _, _, .nil => rfl
  | _, _, .cons ⟨h1, _⟩ t => by rw [List.map_cons, List.map_cons, h1, paired_keys t]
theorem val_unpaired {F : Hp} {k : Key} : ∀ {ws : List (Key × V)} {kvs : List (Key × D)}, Paired (fun (a : Key × V) (b : Key × D) => a.1 = b.1 ∧ Dp X.K F a.2 b.2) ws kvs → (kvs.find? fun kv => decide (kv.1 = k)).map (·.2) = none → valV ws k = none
  | [], [], .nil, _ => rfl
  | a :: ws, b :: kvs, .cons ⟨h1, h2⟩ t, h => by
    by_cases e : b.1 = k
    · rw [List.find?_cons_of_pos (by simpa using e)] at h
      cases h
    · rw [List.find?_cons_of_neg (by simpa using e)] at h
      rw [valV_neg (by rw [h1]; exact e)]
      exact val_unpaired t h
/-- dict(C), C a tuple of the module -/
theorem ek_dictGt {ds : List D} {x : Str} (hc : X.calm = true) (hg : Gl X "dict") (hm : X.mg "dict" = none) (g : GT X.K X.mg x ds) (hx : Gl X x) (hd : (x == ("__debug__" : Str)) = false := by decide) (na : starEach [.Name x p2] X.env = (false, eval (.Name x p2) X.env) :: starEach [] X.env := by rfl) :
    PE X (.Call (.Name "dict" p) [.Name x p2] [] pos) (tR X.K A E ρ (fun F k v => ∀ F', Same F F' → dicK X.K k F' v) (lft (dDictPairs (.tuple ds)))) := by
  obtain ⟨q, o, its, n, vs, h1, h2, h3, h4, h5, h6, h7, h8⟩ := g
  refine (pe_dictP hc hg hm (pe_glob hx h1 (v := .ref q) rfl hd) na).impM fun σ H Q ⟨c, F, B, h⟩ => ?_
  obtain ⟨kvs, ed, fin⟩ := h.lft
  unfold dDictPairs at ed
  split at ed
  · rename_i xs heq
    cases heq
    split at ed
    · rename_i l el
      split at ed
      · rename_i hcnd
        cases ed
        obtain ⟨L, e1, e2, e3⟩ := pairs_dp (h8 F) el
        have z := h.1.frz
        have hk := paired_keys e3
        have hlen : L.length = ds.length := by
          have := (h8 F).lenM
          rw [e1, List.length_map] at this
          exact this
        refine ⟨q, L, rfl, .inr (.inl ⟨rfl, o, h2, h3, h4⟩), e1 ▸ .inr ⟨o, its, n, h2, h3, h5, h6, h7⟩, fun y hy => SqT.sameM z.sub (e2 y hy), ?_, by rw [hlen, ← lim_eq]; exact hcnd.2, fun r hr => ?_⟩
        · have e4 : L.map (·.2.1) = (L.map (·.2)).map (·.1) := by rw [List.map_map]; rfl
          rw [e4, hk]
          exact hcnd.1
        · have hF : F r = none := Same.free z.sub hr
          exact fin _ _ _ (Ext.new z hr) (Frz.new z fun ps z => nomatch z) fun F' sm => ⟨r, L.map (·.2), rfl, sm _ _ upd_same, paired_same (fun b u e => sm b u (by rw [upd_ne (ne_of_none e hF)]; exact e)) e3⟩
      · cases ed
    · cases ed
  · rename_i hne
    exact absurd rfl (hne ds)
/-- d.get(e, f) -/
theorem ev_getOr {j : Nat} {mo : M (List (Key × D))} {o e f : Expr} {me mf : M D} {apos : Pos} (hr : Room j X.A) (hd : PE X o (tR X.K A E ρ (fun F k v => ∀ F', Same F F' → dicK X.K k F' v) mo)) (he : PE X e (tM X.K A E ρ me)) (hf : PE X f (tM X.K A E ρ mf)) (m : M2 X o "get" apos e f pos) :
    PE X (.Call (.Attribute o "get" apos) [e, f] [] pos) (tM X.K A E ρ (mo >>= fun kvs => me >>= fun k => mf >>= fun z => lft (dGetOr kvs k z))) :=
  (pe_dget2 (by have := hr.un; omega) hd he hf m).impM fun σ H Q ⟨c, F, B, h⟩ => ⟨c, F, B, (tG.bind (R := fun F k v => ∀ F', Same F F' → dicK X.K k F' v) h).mono fun x H1 ⟨kvs, c1, F1, e1, r1, h1⟩ => by
    obtain ⟨p0, ws0, rfl, fp0, _⟩ := r1 F1 (Same.refl F1)
    refine ⟨p0, rfl, .inl ⟨ws0, Rd.of (h1.1.frz.sub _ _ fp0)⟩, c1, F1, B, (tG.bind (R := RD X.K) h1).mono fun y H2 ⟨d, c2, F2, e2, r2, h2⟩ => ⟨c2, F2, B, (tG.bind (R := RD X.K) h2).mono fun zz H3 ⟨d3, c3, F3, e3, r3, h3⟩ => ?_⟩⟩
    obtain ⟨dd, ed, q⟩ := h3.lft
    obtain ⟨p1, ws, e4, fp, pr⟩ := r1 F3 (e2.f.trans e3.f)
    cases e4
    unfold dGetOr at ed
    split at ed
    · rename_i k ek
      cases ed
      have ey : y = kV k := by
        unfold keyD at ek
        split at ek
        · cases ek; cases r2; rfl
        · cases ek; cases r2; rfl
        · cases ek
      subst ey
      refine ⟨valV ws k, .inl ⟨ws, k, Rd.of (h3.1.frz.sub _ _ fp), rfl, rfl⟩, ?_⟩
      cases hfd : (kvs.find? fun kv => decide (kv.1 = k)).map (·.2) with
      | none =>
        rw [val_unpaired (X := X) pr hfd]
        rw [hfd] at q
        exact q zz F3 H3 .refl h3.1.frz r3
      | some d4 =>
        obtain ⟨v, q1, q2⟩ := val_paired (X := X) pr hfd
        rw [q1]
        rw [hfd] at q
        exact q v F3 H3 .refl h3.1.frz q2
    · cases ed⟩
end
end Mir

set_option maxRecDepth 100000
/-! MirE9f: e + y, y an own list: a new list. -/
namespace Mir
open PySem PySem.Spec PyProof.Rows L2
def rCatV (K : PySem.W.Frag) : R2 := fun x y H Q => ∃ F ds es q ws, Frz F H ∧ Dp K F x (.list ds) ∧ y = .ref q ∧ H q = some (.lst ws) ∧ DpAll K F ws es ∧ ds.length + es.length ≤ lim ∧ ∀ p vs', H p = none → DpAll K F vs' (ds ++ es) → Q (.ref p) (upd H p (.lst vs'))
section
variable {X : Cx} {A : Option Addr} {E : Exc → L2.St → Hp → Prop} {ρ : List Sl} {pos p : Pos} {a : Expr} {j : Nat} {y : Str} {ma : M D} {ys : List D}
theorem od_catV : OpR X (binaryOp .Add) (rCatV X.K) := by
  intro pins s σ H x y v u Q I rx ry h
  obtain ⟨F, ds, es, q0, ws, z, pd, rfl, hw, pe, hz, q⟩ := h
  rw [lim_eq] at hz
  cases pd with
  | lst h1 p1 =>
    cases rx; cases ry
    obtain ⟨its, r1, ⟨⟨cl1, di1, da1, s1⟩, k1, g1, c1, dd1, e1⟩, _⟩ := I.list (SqL.sameM z.sub h1)
    obtain ⟨its2, r2, ⟨⟨cl2, di2, da2, s2⟩, k2, g2, c2, dd2, e2⟩, _⟩ := I.list (show SqL X.K H q0 ws from .inl (.inl hw))
    have l1 := r1.length
    have l2 := r2.length
    have m1 := p1.lenM
    have m2 := pe.lenM
    simp only at c1 dd1 e1 c2 dd2 e2
    subst c1 dd1 e1 c2 dd2 e2
    have ea : its.toArray ++ its2.toArray = (its ++ its2).toArray := by simp
    refine concat_meets ⟨_, g1, rfl⟩ ⟨_, g2, rfl⟩ noFill_list_add seq_list_add PySem.F.slot_list_add PySem.F.entry_list_add (PySem.F.args_list_add_2 _ _) (list_addW _ _ its.toArray its2.toArray k1 k2 none none s1 s2 (by rw [List.size_toArray, List.size_toArray]; omega)) ⟨g1, g2, ?_⟩
    rw [ea]
    exact ⟨.ref _, _, I.laid (t' := s.toks) (o := .lst _) (fun b o e => Heap.get?_push_of_some _ e) (Nat.le_refl _) ⟨by rw [List.length_append]; omega, _, 0, r1.append r2, Heap.get?_push_size _ rfl⟩, rfl, q _ _ (I.hok.fresh (Nat.le_refl _)) (p1.appM pe)⟩
theorem eo_catV (ha : PE X a (tM X.K A E ρ ma)) (hj : ρ[j]? = some (.own ys)) (hv : PE X (.Name y p) (tVar j)) : PE X (.BinOp a .Add (.Name y p) pos) (tO X.K A E ρ (ma >>= fun d => lft (dCatL d (.list ys)))) :=
  (pe_op od_catV ha hv).impM fun σ H Q ⟨c, F, B, w, s, h⟩ => ⟨c, F, B, w, s, (Wp_bind.mp h).mono (fun d c1 q v F1 H1 x1 w1 r => by
    obtain ⟨q0, us, g1, g2, g3, g4, g5, g6⟩ := (s.ext x1).own hj
    refine ⟨.ref q0, g1, ?_⟩
    obtain ⟨xs, ex, q⟩ := Wp_lft q
    unfold dCatL at ex
    split at ex
    · rename_i heq
      cases heq
      split at ex
      · rename_i hz
        cases ex
        exact ⟨F1, _, _, q0, us, w1.frz, r, rfl, g5, g6, hz, fun p vs' hp dl => q p vs' F1 _ (x1.trans (Ext.new' hp).to) (w1.ext (Ext.new' hp) (w1.frz.new' hp)) (x1.d p hp) (Same.free w1.frz.sub hp) upd_same dl⟩
      · cases ex
    · cases ex) fun _ _ q => q⟩
end
end Mir

set_option maxRecDepth 100000
/-! MirP1: plain lemmas about mirrors. -/
namespace Mir
open PySem
theorem lft_some {α : Type} (a : α) : (lft (some a) : M α) = pure a := rfl
theorem lft_none {α : Type} : (lft (none : Option α) : M α) = bad := rfl
theorem seqM_nil : seqM [] = pure [] := rfl
theorem seqM_cons (m : M D) (r : List (M D)) : seqM (m :: r) = m >>= fun x => seqM r >>= fun xs => pure (x :: xs) := rfl
theorem seqF_nx {β β' γ : Type} (b : β) (k : β → M (Fl β' γ)) : seqF (pure (Fl.nx b) : M (Fl β γ)) k = k b := by simp [seqF]
theorem seqF_rt {β β' γ : Type} (d : D) (k : β → M (Fl β' γ)) : seqF (pure (Fl.rt d) : M (Fl β γ)) k = pure (.rt d) := by simp [seqF]
theorem runF_rt (d : D) : runF (pure (.rt d)) = pure d := by simp [runF]
theorem runF_nx : runF (pure (.nx ())) = pure .none := by simp [runF]
theorem nex_pure {α : Type} (a : α) : nex (pure a) = pure a := rfl
section
variable {α : Type}
theorem mapC_map {f : D → M D} {h g : α → D} : ∀ {xs : List α}, (∀ x ∈ xs, f (h x) = pure (g x)) → mapC f (xs.map h) = pure (xs.map g)
  | [], _ => rfl
  | x :: r, q => by
    rw [List.map_cons, mapC, q x List.mem_cons_self, nex_pure, mapC_map fun y hy => q y (List.mem_cons_of_mem _ hy)]
    rfl
theorem filtC_map {f : D → M (Option D)} {h g : α → D} {p : α → Bool} : ∀ {xs : List α}, (∀ x ∈ xs, f (h x) = pure (if p x = true then some (g x) else none)) → filtC f (xs.map h) = pure ((xs.filter p).map g)
  | [], _ => rfl
  | x :: r, q => by
    rw [List.map_cons, filtC, q x List.mem_cons_self, nex_pure, filtC_map fun y hy => q y (List.mem_cons_of_mem _ hy)]
    by_cases hp : p x = true
    · rw [if_pos hp, List.filter_cons_of_pos hp]; rfl
    · rw [if_neg hp, List.filter_cons_of_neg hp]; rfl
theorem forF_map {τ γ : Type} {f : D → τ → M (Fl τ τ)} {h : α → D} {g : α → τ → τ} : ∀ {xs : List α} {t : τ}, (∀ x ∈ xs, ∀ t, f (h x) t = pure (.nx (g x t))) → forF (γ := γ) f (xs.map h) t = pure (.nx (xs.foldl (fun t x => g x t) t))
  | [], _, _ => rfl
  | x :: r, t, q => by
    rw [List.map_cons, forF, q x List.mem_cons_self t, pure_bind]
    exact forF_map fun y hy => q y (List.mem_cons_of_mem _ hy)
/-- with an invariant, by the item's place -/
theorem forF_inv {τ γ : Type} {f : D → τ → M (Fl τ τ)} {h : α → D} {g : α → τ → τ} (P : τ → Prop) : ∀ {xs : List α} {t : τ}, P t → (∀ x ∈ xs, ∀ t, P t → f (h x) t = pure (.nx (g x t)) ∧ P (g x t)) → forF (γ := γ) f (xs.map h) t = pure (.nx (xs.foldl (fun t x => g x t) t))
  | [], _, _, _ => rfl
  | x :: r, t, ht, q => by
    obtain ⟨q1, q2⟩ := q x List.mem_cons_self t ht
    rw [List.map_cons, forF, q1, pure_bind]
    exact forF_inv P q2 fun y hy => q y (List.mem_cons_of_mem _ hy)
end
/-! ### Wp -/
theorem Wp_forF {τ γ : Type} {f : D → τ → M (Fl τ τ)} {Q : Fl τ γ → Cup → Prop} {E : Exc → Cup → Prop} (P : τ → Cup → Prop) : ∀ {xs : List D} {t : τ} {c : Cup}, P t c → (∀ x ∈ xs, ∀ t c, P t c → Wp (f x t c) (fun o c' => ∃ t', o = .nx t' ∧ P t' c') E) → (∀ t c, P t c → Q (.nx t) c) → Wp (forF (γ := γ) f xs t c) Q E
  | [], _, _, ht, _, e => e _ _ ht
  | x :: r, t, c, ht, q, e => by
    rw [forF, Wp_bind]
    refine (q x List.mem_cons_self t c ht).mono (fun o c' ⟨t', ho, h'⟩ => ?_) fun _ _ z => z
    subst ho
    exact Wp_forF P h' (fun y hy => q y (List.mem_cons_of_mem _ hy)) e
theorem Wp_mapC {f : D → M D} {Q : List D → Cup → Prop} {E : Exc → Cup → Prop} (P : D → D → Prop) (C : Cup → Prop) : ∀ {xs : List D} {c : Cup}, C c → (∀ x ∈ xs, ∀ c, C c → Wp (f x c) (fun d c' => P x d ∧ C c') (fun _ _ => False)) → (∀ ys c, ys.length = xs.length → (∀ (i : Nat) x y, xs[i]? = some x → ys[i]? = some y → P x y) → C c → Q ys c) → Wp (mapC f xs c) Q E
  | [], _, hc, _, e => e _ _ rfl (fun i x y h => by simp at h) hc
  | x :: r, c, hc, q, e => by
    rw [mapC, Wp_bind]
    have h1 : Wp (nex (f x) c) (fun d c' => P x d ∧ C c') E := by
      have h := q x List.mem_cons_self c hc
      unfold nex
      cases hm : f x c with
      | ok a c' => rw [hm] at h; exact h
      | exc e c' => rw [hm] at h; exact h.elim
      | bad => rw [hm] at h; exact h.elim
    refine h1.mono (fun d c' ⟨p, hc'⟩ => ?_) fun _ _ z => z
    rw [Wp_bind]
    refine Wp_mapC P C hc' (fun y hy => q y (List.mem_cons_of_mem _ hy)) fun ys c2 hl hp h2 => ?_
    refine e (d :: ys) c2 (by simp [hl]) (fun i x' y' h1 h2 => ?_) h2
    cases i with
    | zero => cases h1; cases h2; exact p
    | succ i => exact hp i x' y' (by simpa using h1) (by simpa using h2)
/-- the choice of a comprehension, made by chance -/
theorem Wp_filtC {f : D → M (Option D)} {Q : List D → Cup → Prop} {E : Exc → Cup → Prop} (C : Cup → Prop) : ∀ {xs : List D} {c : Cup}, C c → (∀ x ∈ xs, ∀ c, C c → Wp (f x c) (fun o c' => (o = none ∨ o = some x) ∧ C c') (fun _ _ => False)) → (∀ ys c, ys.Sublist xs → C c → Q ys c) → Wp (filtC f xs c) Q E
  | [], _, hc, _, e => e _ _ (List.Sublist.refl _) hc
  | x :: r, c, hc, q, e => by
    rw [filtC, Wp_bind]
    have h1 : Wp (nex (f x) c) (fun o c' => (o = none ∨ o = some x) ∧ C c') E := by
      have h := q x List.mem_cons_self c hc
      unfold nex
      cases hm : f x c with
      | ok a c' => rw [hm] at h; exact h
      | exc e c' => rw [hm] at h; exact h.elim
      | bad => rw [hm] at h; exact h.elim
    refine h1.mono (fun o c' ⟨p, hc'⟩ => ?_) fun _ _ z => z
    rw [Wp_bind]
    refine Wp_filtC C hc' (fun y hy => q y (List.mem_cons_of_mem _ hy)) fun ys c2 hs h2 => ?_
    rcases p with rfl | rfl
    · exact e ys c2 (hs.cons _) h2
    · exact e (x :: ys) c2 (hs.cons₂ _) h2
/-! ### numbers, bits, texts -/
abbrev nD (n : Nat) : D := .int (n : Int)
def bD (b : Bool) : D := .int (if b then 1 else 0)
def rowD (l : List Bool) : D := .tuple (l.map bD)
def txt (l : List Bool) : Str := ⟨(l.map fun b => if b then 49 else 48).toArray⟩
abbrev txtD (l : List Bool) : D := .str (txt l)
def chD (b : Bool) : D := .str (if b then "1" else "0")
theorem ch_one : (⟨#[49]⟩ : Str) = "1" := rfl
theorem ch_zero : (⟨#[48]⟩ : Str) = "0" := rfl
theorem txt_len (l : List Bool) : (txt l).length = l.length := by simp [txt, Str.length]
theorem dLen_txt {l : List Bool} (h : l.length ≤ lim) : dLen (txtD l) = some (nD l.length) := by
  show (if (txt l).length ≤ lim then some (PyData.int (txt l).length) else none) = _
  rw [txt_len, if_pos h]
theorem dItems_txt {l : List Bool} (h : l.length ≤ lim) : dItems (txtD l) = some (l.map chD) := by
  show (if (txt l).length ≤ lim then some ((txt l).cps.toList.map fun c => PyData.str ⟨#[c]⟩) else none) = _
  rw [txt_len, if_pos h]
  show some ((l.map fun b => if b then 49 else 48).map fun c => PyData.str ⟨#[c]⟩) = _
  rw [List.map_map]
  congr 1
  apply List.map_congr_left
  intro b _
  cases b <;> rfl
theorem ixN_nat {n i : Nat} (h : i < n) : ixN n (i : Int) = some i := by
  unfold ixN
  rw [if_pos (by omega), if_pos (by omega)]
  simp
theorem atI_nat' {α : Type} {xs : List α} {i : Nat} {x : α} (h : xs[i]? = some x) : Mir.atI xs (i : Int) = some x := by
  unfold Mir.atI
  rw [ixN_nat (List.getElem?_eq_some_iff.mp h).1]
  exact h
theorem dIx_list {xs : List D} {i : Nat} {x : D} (h : xs[i]? = some x) : dIx (.list xs) (nD i) = some x := atI_nat' h
theorem dIx_tup {xs : List D} {i : Nat} {x : D} (h : xs[i]? = some x) : dIx (.tuple xs) (nD i) = some x := atI_nat' h
theorem dIx_txt {l : List Bool} {i : Nat} {b : Bool} (hl : l.length ≤ lim) (h : l[i]? = some b) : dIx (txtD l) (nD i) = some (chD b) := by
  show (if (txt l).length ≤ lim then (Mir.atI (txt l).cps.toList (i : Int)).map fun c => PyData.str ⟨#[c]⟩ else none) = _
  rw [txt_len, if_pos hl]
  have e : (txt l).cps.toList[i]? = some (if b then 49 else 48) := by
    show (l.map fun b => if b then 49 else 48)[i]? = _
    rw [List.getElem?_map, h]
    rfl
  rw [atI_nat' e]
  cases b <;> rfl
theorem dRange1_nat {n : Nat} (h : n ≤ lim) : dRange1 (nD n) = some ((List.range n).map nD) := by
  have hl : lim = 16777216 := rfl
  unfold dRange1
  simp only
  rw [if_pos]
  · congr 1
    unfold rng
    rw [Int.toNat_natCast]
    apply List.map_congr_left
    intro i _
    simp
  · simp only [Bool.and_eq_true, decide_eq_true_eq]
    refine ⟨⟨?_, ?_⟩, ?_⟩ <;> omega
theorem intsOf_map {α : Type} (f : α → Int) : ∀ xs : List α, intsOf (xs.map fun x => PyData.int (f x)) = some (xs.map f)
  | [] => rfl
  | x :: r => by
    show (intsOf (r.map fun x => PyData.int (f x))).map (f x :: ·) = _
    rw [intsOf_map f r]
    rfl
theorem truAll_map {α : Type} (f : α → Bool) : ∀ xs : List α, truAll (xs.map fun x => PyData.bool (f x)) = some (xs.map f)
  | [] => rfl
  | x :: r => by
    have h := truAll_map f r
    rw [List.map_cons, truAll, h]
    rfl
theorem dAll_map {α : Type} (f : α → Bool) (xs : List α) : dAll (.list (xs.map fun x => PyData.bool (f x))) = some (.bool (xs.all f)) := by
  show ((truAll (xs.map fun x => PyData.bool (f x))).map fun bs => PyData.bool (bs.all id)) = _
  rw [truAll_map]
  show some (PyData.bool ((xs.map f).all id)) = _
  rw [List.all_map]
  rfl
/-! ### comparisons -/
theorem cmpOk_int (i j : Int) : cmpOk (.int i) (.int j) = true := rfl
theorem dLe_int (i j : Int) : dLe (.int i) (.int j) = some (.bool (decide (i ≤ j))) := by
  show (if cmpOk (.int i) (.int j) = true then some (PyData.bool (!PySem.W.dataLt (.int j) (.int i))) else none) = _
  rw [if_pos (cmpOk_int i j), PySem.W.dataLt_int]
  congr 2
  by_cases h : j < i
  · simp [h]
  · simp [h, Int.not_lt.mp h]
theorem dGe_int (i j : Int) : dGe (.int i) (.int j) = some (.bool (decide (j ≤ i))) := by
  show (if cmpOk (.int i) (.int j) = true then some (PyData.bool (!PySem.W.dataLt (.int i) (.int j))) else none) = _
  rw [if_pos (cmpOk_int i j), PySem.W.dataLt_int]
  congr 2
  by_cases h : i < j
  · simp [h]
  · simp [h, Int.not_lt.mp h]
theorem dLt_int (i j : Int) : dLt (.int i) (.int j) = some (.bool (decide (i < j))) := by
  show (if cmpOk (.int i) (.int j) = true then some (PyData.bool (PySem.W.dataLt (.int i) (.int j))) else none) = _
  rw [if_pos (cmpOk_int i j), PySem.W.dataLt_int]
theorem dGt_int (i j : Int) : dGt (.int i) (.int j) = some (.bool (decide (j < i))) := by
  show (if cmpOk (.int i) (.int j) = true then some (PyData.bool (PySem.W.dataLt (.int j) (.int i))) else none) = _
  rw [if_pos (cmpOk_int i j), PySem.W.dataLt_int]
theorem dEq_int (i j : Int) : dEq (.int i) (.int j) = some (.bool (decide (i = j))) := rfl
theorem dNe_int (i j : Int) : dNe (.int i) (.int j) = some (.bool (!decide (i = j))) := rfl
theorem dEq_ch (a b : Bool) : dEq (chD a) (chD b) = some (.bool (a == b)) := by cases a <;> cases b <;> rfl
theorem dNe_ch (a b : Bool) : dNe (chD a) (chD b) = some (.bool (a != b)) := by cases a <;> cases b <;> rfl
theorem dTru_bool (b : Bool) : dTru (.bool b) = some b := rfl
theorem truth_pure (d : D) : truth (pure d) = lft (dTru d) := rfl
theorem ite_pure {α : Type} (b : Bool) (x y : α) : (if b = true then (pure x : M α) else pure y) = pure (if b = true then x else y) := by cases b <;> rfl
/-- the library's own order of plain ints: the greatest -/
theorem depthAll_ints : ∀ ns : List Int, PyData.depthAll (ns.map PyData.int) ≤ 1
  | [] => by simp [PyData.depthAll]
  | n :: r => by
    have := depthAll_ints r
    simp only [List.map_cons, PyData.depthAll, PyData.depth]
    omega
theorem alikeB_ints (ns : List Int) : alikeB (ns.map PyData.int) = true := by
  unfold alikeB
  rw [List.all_eq_true]
  intro x hx
  obtain ⟨n, _, rfl⟩ := List.mem_map.mp hx
  simp only [Bool.and_true, List.all_eq_true]
  intro y hy
  obtain ⟨m, _, rfl⟩ := List.mem_map.mp hy
  rfl
theorem mxD_ints : ∀ (ns : List Int) (n : Int), mxD (.int n) (ns.map PyData.int) = .int (ns.foldl max n)
  | [], _ => rfl
  | m :: r, n => by
    have e : mxD (.int n) ((m :: r).map PyData.int) = mxD (if PySem.W.dataLt (.int n) (.int m) then .int m else .int n) (r.map PyData.int) := rfl
    rw [e, PySem.W.dataLt_int]
    by_cases h : n < m
    · rw [if_pos (by simpa using h), mxD_ints r m, List.foldl_cons, Int.max_eq_right (Int.le_of_lt h)]
    · rw [if_neg (by simpa using h), mxD_ints r n, List.foldl_cons, Int.max_eq_left (Int.not_lt.mp h)]
theorem dMax_ints (n : Int) (ns : List Int) : dMax (.list ((n :: ns).map PyData.int)) = some (.int (ns.foldl max n)) := by
  show (if alikeB ((n :: ns).map PyData.int) && decide (PyData.depthAll ((n :: ns).map PyData.int) ≤ 60) then some (mxD (.int n) (ns.map PyData.int)) else none) = _
  have h := depthAll_ints (n :: ns)
  rw [alikeB_ints, decide_eq_true (by omega), mxD_ints]
  rfl
/-- the greatest, of natural numbers -/
def mx (ns : List Nat) : Nat := ns.foldl max 0
theorem foldl_max_cast : ∀ (ns : List Nat) (a : Nat), (ns.map fun (n : Nat) => (n : Int)).foldl max (a : Int) = ((ns.foldl max a : Nat) : Int)
  | [], _ => rfl
  | m :: r, a => by
    rw [List.map_cons, List.foldl_cons, List.foldl_cons, ← foldl_max_cast r (max a m)]
    congr 1
    omega
theorem dMax_nats {ns : List Nat} (h : ns ≠ []) : dMax (.list (ns.map nD)) = some (nD (mx ns)) := by
  cases ns with
  | nil => exact absurd rfl h
  | cons n r =>
    have e : ((n :: r).map nD) = (((n : Int) :: r.map fun (n : Nat) => (n : Int)).map PyData.int) := by simp [nD]
    rw [e, dMax_ints, foldl_max_cast]
    show some (PyData.int _) = some (PyData.int _)
    unfold mx
    rw [List.foldl_cons, Nat.zero_max]
/-! ### kinds and likeness of data -/
theorem eqv_self {d : D} (h : d.plain = true) : PyData.eqv d d = true := PySem.SeqAt.eqv_refl_plain d h
/-! ### texts of signs -/
def chS (b : Bool) : Str := if b then "1" else "0"
theorem chS_cps (b : Bool) : (chS b).cps.toList = [if b then 49 else 48] := by cases b <;> rfl
theorem txt_cps (l : List Bool) : (txt l).cps.toList = l.map fun b => if b then 49 else 48 := rfl
theorem app_cps (a b : Str) : (a ++ b).cps.toList = a.cps.toList ++ b.cps.toList := by
  show (a.cps ++ b.cps).toList = _
  exact Array.toList_append
theorem join_ch : ∀ l : List Bool, Str.join "" (l.map chS) = txt l
  | [] => rfl
  | [b] => PySem.W.str_of_cps (by rw [show Str.join "" ([b].map chS) = chS b from rfl, chS_cps]; rfl)
  | b :: c :: r => by
    have ih := join_ch (c :: r)
    have e : Str.join "" ((b :: c :: r).map chS) = chS b ++ "" ++ Str.join "" ((c :: r).map chS) := rfl
    rw [e, ih]
    refine PySem.W.str_of_cps ?_
    rw [app_cps, app_cps, chS_cps, txt_cps, txt_cps, List.map_cons (l := c :: r)]
    rfl
theorem chD_eq (b : Bool) : chD b = .str (chS b) := by cases b <;> rfl
theorem strsOf_map {α : Type} (f : α → Str) : ∀ xs : List α, strsOf (xs.map fun x => PyData.str (f x)) = some (xs.map f)
  | [] => rfl
  | x :: r => by
    show (strsOf (r.map fun x => PyData.str (f x))).map (f x :: ·) = _
    rw [strsOf_map f r]
    rfl
theorem sum_ones {α : Type} {f : α → Nat} : ∀ {xs : List α}, (∀ x ∈ xs, f x = 1) → (xs.map f).sum = xs.length
  | [], _ => rfl
  | x :: r, h => by
    rw [List.map_cons, List.sum_cons, h x List.mem_cons_self, sum_ones fun y hy => h y (List.mem_cons_of_mem _ hy), List.length_cons]
    omega
theorem dJoin_ch {l : List Bool} (h : l.length ≤ 1000000) : dJoin (.str "") (.list (l.map chD)) = some (txtD l) := by
  have e1 : l.map chD = (l.map chS).map fun x => PyData.str x := by
    rw [List.map_map]
    exact List.map_congr_left fun b _ => chD_eq b
  have e2 : strsOf (l.map chD) = some (l.map chS) := by
    rw [e1, strsOf_map (fun x : Str => x), List.map_id'']
    intro x; rfl
  show (match strsOf (l.map chD) with
    | some ys => if (ys.map (fun x : Str => x.length)).sum + ys.length * (Str.length "") ≤ lim then some (PyData.str (Str.join "" ys)) else none
    | none => none) = _
  rw [e2]
  have h1 : ((l.map chS).map (fun x : Str => x.length)).sum = l.length := by
    rw [List.map_map, sum_ones]
    intro b _
    cases b <;> rfl
  have h2 : Str.length "" = 0 := rfl
  have h3 : lim = 16777216 := rfl
  simp only
  rw [h1, h2, if_pos (by omega), join_ch]
theorem strRev_txt (l : List Bool) : strRev (txt l) = txt l.reverse := by
  refine PySem.W.str_of_cps ?_
  show (txt l).cps.toList.reverse = _
  rw [txt_cps, txt_cps, List.map_reverse]
theorem dRev_txt {l : List Bool} (h : l.length ≤ lim) : dRev (txtD l) = some (txtD l.reverse) := by
  show (if (txt l).length ≤ lim then some (PyData.str (strRev (txt l))) else none) = _
  rw [txt_len, if_pos h, strRev_txt]
/-- one more sign -/
theorem dAdd_ch {l : List Bool} (b : Bool) (h : l.length ≤ 1000000) : dAdd (txtD l) (chD b) = some (txtD (l ++ [b])) := by
  rw [chD_eq]
  have h3 : lim = 16777216 := rfl
  have e : (chS b).length = 1 := by cases b <;> rfl
  show (if (txt l).length + (chS b).length ≤ lim then some (PyData.str (txt l ++ chS b)) else none) = _
  rw [txt_len, e, if_pos (by omega)]
  congr 2
  refine PySem.W.str_of_cps ?_
  rw [app_cps, chS_cps, txt_cps, txt_cps, List.map_append]
  rfl
/-! ### the greatest -/
theorem le_mx {ns : List Nat} {n : Nat} (h : n ∈ ns) : n ≤ mx ns := by
  have go : ∀ (ns : List Nat) (a : Nat), a ≤ ns.foldl max a ∧ ∀ n ∈ ns, n ≤ ns.foldl max a := fun ns => by
    induction ns with
    | nil => exact fun a => ⟨Nat.le_refl _, fun _ h => nomatch h⟩
    | cons m r ih =>
      intro a
      obtain ⟨h1, h2⟩ := ih (max a m)
      refine ⟨Nat.le_trans (Nat.le_max_left a m) h1, fun n hn => ?_⟩
      rcases List.mem_cons.mp hn with rfl | hn
      · exact Nat.le_trans (Nat.le_max_right a n) h1
      · exact h2 n hn
  exact (go ns 0).2 n h
theorem mx_le {ns : List Nat} {b : Nat} (h : ∀ n ∈ ns, n ≤ b) : mx ns ≤ b := by
  have go : ∀ (ns : List Nat) (a : Nat), a ≤ b → (∀ n ∈ ns, n ≤ b) → ns.foldl max a ≤ b := fun ns => by
    induction ns with
    | nil => exact fun a h _ => h
    | cons m r ih => exact fun a h hr => ih (max a m) (Nat.max_le.mpr ⟨h, hr m List.mem_cons_self⟩) fun n hn => hr n (List.mem_cons_of_mem _ hn)
  exact go ns 0 (Nat.zero_le _) h
/-! ### sorting what is ordered -/
theorem ins_head {x : D} {r : List D} (h : ∀ y ∈ r, leD x y = true) : ins x r = x :: r := by
  cases r with
  | nil => rfl
  | cons y r => unfold ins; rw [if_pos (h y List.mem_cons_self)]
theorem isort_sorted : ∀ {xs : List D}, xs.Pairwise (fun a b => leD a b = true) → isort xs = xs
  | [], _ => rfl
  | x :: r, h => by
    have hc := List.pairwise_cons.mp h
    show ins x (isort r) = x :: r
    rw [isort_sorted hc.2, ins_head hc.1]
theorem ins_perm (x : D) : ∀ l : List D, (ins x l).Perm (x :: l)
  | [] => List.Perm.refl _
  | y :: r => by
    unfold ins
    split
    · exact List.Perm.refl _
    · exact ((ins_perm x r).cons y).trans (List.Perm.swap x y r)
theorem isort_perm : ∀ l : List D, (isort l).Perm l
  | [] => List.Perm.refl _
  | x :: r => (ins_perm x (isort r)).trans ((isort_perm r).cons x)
/-- two lists in order, of the same items, where the order tells them apart -/
theorem sorted_eq : ∀ {xs ys : List D}, xs.Perm ys → xs.Pairwise (fun a b => leD a b = true) → ys.Pairwise (fun a b => leD a b = true) → (∀ a ∈ xs, ∀ b ∈ xs, leD a b = true → leD b a = true → a = b) → xs = ys
  | [], ys, p, _, _, _ => by rw [List.nil_perm.mp p]
  | x :: xs, [], p, _, _, _ => by simpa using p
  | x :: xs, y :: ys, p, hx, hy, anti => by
    have cx := List.pairwise_cons.mp hx
    have cy := List.pairwise_cons.mp hy
    have e : x = y := by
      have hxm : x ∈ y :: ys := p.mem_iff.mp List.mem_cons_self
      have hym : y ∈ x :: xs := p.mem_iff.mpr List.mem_cons_self
      rcases List.mem_cons.mp hxm with h | h
      · exact h
      · rcases List.mem_cons.mp hym with h' | h'
        · exact h'.symm
        · exact anti x List.mem_cons_self y hym (cx.1 y h') (cy.1 x h)
    subst e
    rw [sorted_eq (p.cons_inv) cx.2 cy.2 fun a ha b hb => anti a (List.mem_cons_of_mem _ ha) b (List.mem_cons_of_mem _ hb)]
theorem isort_eq_of {xs ys : List D} (p : xs.Perm ys) (hy : ys.Pairwise (fun a b => leD a b = true)) (anti : ∀ a ∈ ys, ∀ b ∈ ys, leD a b = true → leD b a = true → a = b) : isort xs = ys :=
  (sorted_eq ((isort_perm xs).trans p).symm hy (isort_pw xs) anti).symm
/-! ### _law_like -/
theorem depthAll_mem {d : D} : ∀ {ds : List D}, d ∈ ds → d.depth ≤ PyData.depthAll ds
  | [], h => nomatch h
  | x :: r, h => by
    unfold PyData.depthAll
    rcases List.mem_cons.mp h with rfl | h
    · exact Nat.le_max_left _ _
    · exact Nat.le_trans (depthAll_mem h) (Nat.le_max_right _ _)
theorem plain_mem {d : D} : ∀ {ds : List D}, PyData.plainAll ds = true → d ∈ ds → d.plain = true
  | [], _, h => nomatch h
  | x :: r, hp, h => by
    unfold PyData.plainAll at hp
    rw [Bool.and_eq_true] at hp
    rcases List.mem_cons.mp h with rfl | h
    · exact hp.1
    · exact plain_mem hp.2 h
theorem zip_self (xs : List D) : zip2 xs xs = xs.map fun x => .tuple [x, x] := by
  unfold zip2
  induction xs with
  | nil => rfl
  | cons x r ih => rw [List.zipWith_cons_cons, ih, List.map_cons]
theorem filtC_none {α : Type} {f : D → M (Option D)} {h : α → D} : ∀ {xs : List α}, (∀ x ∈ xs, f (h x) = pure none) → filtC f (xs.map h) = pure []
  | [], _ => rfl
  | x :: r, q => by
    rw [List.map_cons, filtC, q x List.mem_cons_self, nex_pure, filtC_none fun y hy => q y (List.mem_cons_of_mem _ hy)]
    rfl
end Mir

set_option maxRecDepth 100000
/-! MirP2: plain lemmas about rows, functions, data that _law_like takes, the cup. -/
namespace Mir
open PySem
theorem lim_big {k : Nat} (h : k ≤ 1000000) : k ≤ lim := Nat.le_trans h (by decide)
theorem pow_le {n : Nat} (hn : n ≤ 6) : 2 ^ n ≤ 64 := Nat.le_trans (Nat.pow_le_pow_right (by decide) hn) (by decide)
theorem pow_pos' (n : Nat) : 1 ≤ 2 ^ n := Nat.one_le_two_pow
theorem cases6 {P : Nat → Prop} (h0 : P 0) (h1 : P 1) (h2 : P 2) (h3 : P 3) (h4 : P 4) (h5 : P 5) (h6 : P 6) {n : Nat} (hn : n ≤ 6) : P n := by
  match n, hn with
  | 0, _ => exact h0
  | 1, _ => exact h1
  | 2, _ => exact h2
  | 3, _ => exact h3
  | 4, _ => exact h4
  | 5, _ => exact h5
  | 6, _ => exact h6
section
variable {n : Nat} {l : List Bool} (hn : n ≤ 6) (hl : l.length = 2 ^ n)
include hn hl
theorem p_len : dLen (txtD l) = some (nD (2 ^ n)) := by rw [dLen_txt (lim_big (by have := pow_le hn; omega)), hl]
end
theorem xor_small : ∀ a < 64, ∀ b < 64, Builtin.bitXor ((a : Nat) : Int) ((b : Nat) : Int) = ((a ^^^ b : Nat) : Int) := by decide +kernel
theorem dBxor_nat {a b : Nat} (ha : a < 64) (hb : b < 64) : dBxor (nD a) (nD b) = some (nD (a ^^^ b)) := by
  show some (PyData.int (Builtin.bitXor (a : Int) (b : Int))) = _
  rw [xor_small a ha b hb]
section
variable {n : Nat} {l : List Bool} (hn : n ≤ 6) (hl : l.length = 2 ^ n)
include hn hl
theorem p_at {i : Nat} (hi : i < 2 ^ n) : dIx (txtD l) (nD i) = some (chD (l.getD i false)) := by
  have h : i < l.length := by omega
  refine dIx_txt (lim_big (by have := pow_le hn; omega)) ?_
  rw [List.getD_eq_getElem?_getD, List.getElem?_eq_getElem h]
  rfl
end
def rowOf (n i : Nat) : List Bool := (List.range n).map fun s => i.testBit (n - 1 - s)
def rowN (n i : Nat) : D := rowD (rowOf n i)
def rowsN (n : Nat) : List D := (List.range (2 ^ n)).map (rowN n)
theorem all_rows {α : Type} {f g : Nat → α} {n : Nat} (h : (List.range (2 ^ n)).map f = (List.range (2 ^ n)).map g) {i : Nat} (hi : i < 2 ^ n) : f i = g i := List.map_inj_left.mp h i (List.mem_range.mpr hi)
theorem rows_lt : ∀ {n : Nat}, n ≤ 6 → ∀ i < 2 ^ n, ∀ j < 2 ^ n, PySem.W.dataLt (rowN n i) (rowN n j) = decide (i < j) :=
  cases6 (P := fun n => ∀ i < 2 ^ n, ∀ j < 2 ^ n, PySem.W.dataLt (rowN n i) (rowN n j) = decide (i < j)) (by decide +kernel) (by decide +kernel) (by decide +kernel) (by decide +kernel) (by decide +kernel) (by decide +kernel) (by decide +kernel)
theorem zip_map {α : Type} (f g : α → D) (xs : List α) : zip2 (xs.map f) (xs.map g) = xs.map fun x => .tuple [f x, g x] := by
  unfold zip2
  induction xs with
  | nil => rfl
  | cons x r ih => rw [List.map_cons, List.map_cons, List.zipWith_cons_cons, ih, List.map_cons]
theorem dZip_map {α : Type} (f g : α → D) (xs : List α) : dZip (.list (xs.map f)) (.list (xs.map g)) = some (xs.map fun x => .tuple [f x, g x]) := by
  show some (zip2 (xs.map f) (xs.map g)) = _
  rw [zip_map]
theorem range_ne (n : Nat) : List.range (2 ^ n) ≠ [] := by
  have := pow_pos' n
  intro h
  have := congrArg List.length h
  simp at this
theorem dLen_list (xs : List D) : dLen (.list xs) = some (nD xs.length) := rfl
theorem dLen_tup (xs : List D) : dLen (.tuple xs) = some (nD xs.length) := rfl
theorem dTuple_list (xs : List D) : dTuple (.list xs) = some (.tuple xs) := rfl
theorem dEq_nat (a b : Nat) : dEq (nD a) (nD b) = some (.bool (a == b)) := by
  rw [dEq_int]
  congr 2
  by_cases h : a = b
  · subst h; simp
  · rw [decide_eq_false (by omega), beq_eq_false_iff_ne.mpr h]
def kindD : D → Nat
  | .none => 0
  | .bool _ => 1
  | .int _ => 2
  | .str _ => 3
  | .tuple _ => 4
  | .list _ => 5
  | .dict _ => 6
theorem kind_lt : ∀ {d : D}, d.plain = true → kindD d < 6
  | .none, _ => by decide
  | .bool _, _ => (by decide : 1 < 6)
  | .int _, _ => (by decide : 2 < 6)
  | .str _, _ => (by decide : 3 < 6)
  | .tuple _, _ => (by decide : 4 < 6)
  | .list _, _ => (by decide : 5 < 6)
  | .dict _, h => by cases h
def flatB : D → Bool
  | .tuple _ => false
  | .list _ => false
  | _ => true
theorem p_like_items (f : D → D → M D) (xs : List D) (h : ∀ x ∈ xs, f x x = pure (.bool true)) :
    filtC (fun d => lft (par2 d) >>= fun t => whn (notT (truth ((pure t.1) >>= fun a => (pure t.2) >>= fun b => f a b))) (pure (.int 1))) (xs.map fun x => .tuple [x, x]) = pure [] :=
  filtC_none fun x hx => by
    simp only [par2, lft_some, pure_bind, h x hx, truth, dTru_bool, notT, whn]
    rfl
/-- the function, its signs turned by a mask -/
def flipL (l : List Bool) (n m : Nat) : List Bool := (List.range (2 ^ n)).map fun i => l.getD (i ^^^ m) false
theorem flipL_len (l : List Bool) (n m : Nat) : (flipL l n m).length = 2 ^ n := by simp [flipL]
theorem flipL_get {l : List Bool} {n m i : Nat} (hi : i < 2 ^ n) : (flipL l n m).getD i false = l.getD (i ^^^ m) false := by
  unfold flipL
  rw [List.getD_eq_getElem?_getD, List.getElem?_map, List.getElem?_range hi]
  rfl
theorem filter_congr' {α : Type} {p q : α → Bool} : ∀ {xs : List α}, (∀ x ∈ xs, p x = q x) → xs.filter p = xs.filter q
  | [], _ => rfl
  | x :: r, h => by
    have h1 := h x List.mem_cons_self
    have h2 := filter_congr' fun y hy => h y (List.mem_cons_of_mem _ hy)
    by_cases hp : p x = true
    · rw [List.filter_cons_of_pos hp, List.filter_cons_of_pos (h1 ▸ hp), h2]
    · rw [List.filter_cons_of_neg hp, List.filter_cons_of_neg (h1 ▸ hp), h2]
theorem xor_back (i m : Nat) : (i ^^^ m) ^^^ m = i := by rw [Nat.xor_assoc, Nat.xor_self, Nat.xor_zero]
theorem leD_rows {n : Nat} (hn : n ≤ 6) {i j : Nat} (hi : i < 2 ^ n) (hj : j < 2 ^ n) : leD (rowN n i) (rowN n j) = decide (i ≤ j) := by
  unfold leD
  rw [rows_lt hn j hj i hi]
  by_cases h : j < i
  · simp [h]
  · simp [h, Nat.not_lt.mp h]
theorem sorted_rows {n : Nat} (hn : n ≤ 6) {xs : List Nat} {p : Nat → Bool} (h : xs.Perm ((List.range (2 ^ n)).filter p)) : isort (xs.map (rowN n)) = ((List.range (2 ^ n)).filter p).map (rowN n) := by
  have lt : ∀ i ∈ (List.range (2 ^ n)).filter p, i < 2 ^ n := fun i hi => List.mem_range.mp (List.mem_filter.mp hi).1
  refine isort_eq_of (h.map _) ?_ ?_
  · rw [List.pairwise_map]
    have hp : ((List.range (2 ^ n)).filter p).Pairwise (fun a b => a < b) := List.pairwise_lt_range.filter p
    refine List.Pairwise.imp_of_mem ?_ hp
    intro a b ha hb hab
    rw [leD_rows hn (lt a ha) (lt b hb)]
    exact decide_eq_true (Nat.le_of_lt hab)
  · intro a ha b hb h1 h2
    obtain ⟨i, hi, rfl⟩ := List.mem_map.mp ha
    obtain ⟨j, hj, rfl⟩ := List.mem_map.mp hb
    rw [leD_rows hn (lt i hi) (lt j hj)] at h1
    rw [leD_rows hn (lt j hj) (lt i hi)] at h2
    have : i = j := Nat.le_antisymm (of_decide_eq_true h1) (of_decide_eq_true h2)
    rw [this]
theorem sortOk_rows {n : Nat} (hn : n ≤ 6) {xs : List Nat} (h : ∀ i ∈ xs, i < 2 ^ n) (hz : n = 0 → xs.length ≤ 1) : sortOk (xs.map (rowN n)) = true := by
  have al : ∀ i < 2 ^ n, ∀ j < 2 ^ n, PySem.W.alike (rowN n i) (rowN n j) = true :=
    cases6 (P := fun n => ∀ i < 2 ^ n, ∀ j < 2 ^ n, PySem.W.alike (rowN n i) (rowN n j) = true) (by decide +kernel) (by decide +kernel) (by decide +kernel) (by decide +kernel) (by decide +kernel) (by decide +kernel) (by decide +kernel) hn
  have dp : ∀ xs : List Nat, PyData.depthAll (xs.map (rowN n)) ≤ 1 := fun xs => by
    induction xs with
    | nil => simp [PyData.depthAll]
    | cons x r ih =>
      rw [List.map_cons, PyData.depthAll]
      have : (rowN n x).depth ≤ 1 := by
        have d0 : ∀ l : List Bool, PyData.depthAll (l.map bD) = 0 := fun l => by
          induction l with
          | nil => rfl
          | cons b r ih => rw [List.map_cons, PyData.depthAll, ih]; rfl
        show PyData.depthAll ((rowOf n x).map bD) + 1 ≤ 1
        rw [d0]
        exact Nat.le_refl _
      omega
  unfold sortOk
  rw [Bool.and_eq_true, Bool.and_eq_true]
  refine ⟨⟨?_, decide_eq_true (by have := dp xs; omega)⟩, ?_⟩
  · rw [List.all_eq_true]
    intro a ha
    rw [List.all_eq_true]
    intro b hb
    obtain ⟨i, hi, rfl⟩ := List.mem_map.mp ha
    obtain ⟨j, hj, rfl⟩ := List.mem_map.mp hb
    exact al i (h i hi) j (h j hj)
  · rw [Bool.or_eq_true, Bool.or_eq_true]
    by_cases h0 : n = 0
    · refine .inr ?_
      rw [Bool.and_eq_true]
      refine ⟨decide_eq_true (by rw [List.length_map]; exact hz h0), ?_⟩
      rw [List.all_eq_true]
      intro a ha
      obtain ⟨i, hi, rfl⟩ := List.mem_map.mp ha
      rfl
    · refine .inl (.inl ?_)
      rw [List.all_eq_true]
      intro a ha
      obtain ⟨i, hi, rfl⟩ := List.mem_map.mp ha
      match n, h0 with
      | n + 1, _ =>
        unfold rowN rowD rowOf
        rw [List.range_succ_eq_map]
        rfl
theorem map_congr'' {α β : Type} {f g : α → β} {xs : List α} (h : ∀ x ∈ xs, f x = g x) : xs.map f = xs.map g := List.map_congr_left h
/-- all ways to take some of a list -/
def subs : List Nat → List (List Nat)
  | [] => [[]]
  | x :: r => (subs r) ++ (subs r).map (x :: ·)
theorem mem_subs : ∀ {xs ys : List Nat}, ys.Sublist xs → ys ∈ subs xs
  | _, _, .slnil => List.mem_cons_self
  | _, _, .cons a h => List.mem_append_left _ (mem_subs h)
  | _, _, .cons₂ a h => List.mem_append_right _ (List.mem_map_of_mem (mem_subs h))
def maskOf (n : Nat) (S : List Nat) : Nat := S.foldl (fun m s => m ^^^ 2 ^ (n - 1 - s)) 0
theorem mask_lt {n : Nat} {S : List Nat} (h : S.Sublist (List.range n)) : maskOf n S < 2 ^ n := by
  have go : ∀ (S : List Nat) (m : Nat), m < 2 ^ n → (∀ s ∈ S, s < n) → S.foldl (fun m s => m ^^^ 2 ^ (n - 1 - s)) m < 2 ^ n := fun S => by
    induction S with
    | nil => exact fun m h _ => h
    | cons s r ih => exact fun m hm hS => ih _ (Nat.xor_lt_two_pow hm (Nat.pow_lt_pow_right (by decide) (by have := hS s List.mem_cons_self; omega))) fun t ht => hS t (List.mem_cons_of_mem _ ht)
  exact go S 0 (Nat.lt_of_lt_of_le (by decide) (pow_pos' n)) fun s hs => List.mem_range.mp (h.subset hs)
theorem all_subs {α : Type} {f g : List Nat → α} {n : Nat} (h : (subs (List.range n)).map f = (subs (List.range n)).map g) {S : List Nat} (hS : S.Sublist (List.range n)) : f S = g S := List.map_inj_left.mp h S (mem_subs hS)
abbrev sgD (S : List Nat) : D := .tuple (S.map nD)
theorem rev_flip {n : Nat} {l : List Bool} (hn : n ≤ 6) (hl : l.length = 2 ^ n) : l.reverse = flipL l n (2 ^ n - 1) := by
  have fact : ∀ i < 2 ^ n, i ^^^ (2 ^ n - 1) = 2 ^ n - 1 - i := cases6 (P := fun n => ∀ i < 2 ^ n, i ^^^ (2 ^ n - 1) = 2 ^ n - 1 - i) (by decide +kernel) (by decide +kernel) (by decide +kernel) (by decide +kernel) (by decide +kernel) (by decide +kernel) (by decide +kernel) hn
  apply List.ext_getElem
  · rw [List.length_reverse, flipL_len, hl]
  · intro i h1 h2
    have hi : i < 2 ^ n := by rw [flipL_len] at h2; exact h2
    have e := flipL_get (l := l) (m := 2 ^ n - 1) hi
    rw [List.getD_eq_getElem?_getD, List.getElem?_eq_getElem h2] at e
    rw [show (flipL l n (2 ^ n - 1))[i] = l.getD (i ^^^ (2 ^ n - 1)) false from e, fact i hi, List.getElem_reverse, List.getD_eq_getElem?_getD]
    have : l.length - 1 - i = 2 ^ n - 1 - i := by rw [hl]
    rw [List.getElem?_eq_getElem (by omega)]
    simp only [Option.getD_some, this]
section
variable {n : Nat} {l : List Bool} (hn : n ≤ 6) (hl : l.length = 2 ^ n)
include hn hl
theorem big : l.length ≤ 1000000 := by have := pow_le hn; omega
end
def CupOk (c : Cup) : Prop := 0 ≤ c.1 ∧ 0 ≤ c.2 ∧ c.2 < 4294967296
abbrev NoE : Exc → Cup → Prop := fun _ _ => False
theorem Wp_getC {α : Type} {k : Nat} {f : D → M α} {c : Cup} {Q : α → Cup → Prop} {E : Exc → Cup → Prop} : Wp ((getC k >>= f) c) Q E ↔ Wp (f (.int (if k = 0 then c.1 else c.2)) c) Q E := Iff.rfl
theorem Wp_setC {α : Type} {k : Nat} {n : Int} {f : Unit → M α} {c : Cup} {Q : α → Cup → Prop} {E : Exc → Cup → Prop} : Wp ((setC k n >>= f) c) Q E ↔ Wp (f () (if k = 0 then (n, c.2) else (c.1, n))) Q E := Iff.rfl
theorem dMod_pos (x : Int) {k : Int} (h : 0 < k) : dMod (.int x) (.int k) = some (.int (x.fmod k)) := by
  show (if k = 0 then none else some (PyData.int (x.fmod k))) = _
  rw [if_neg (by omega)]
theorem dFdiv_pos (x : Int) {k : Int} (h : 0 < k) (h2 : k < 1000000000) : dFdiv (.int x) (.int k) = some (.int (x.fdiv k)) := by
  show (if decide (k ≠ 0) && decide (k.natAbs < 1073741824) then some (PyData.int (x.fdiv k)) else none) = _
  rw [if_pos]
  rw [Bool.and_eq_true, decide_eq_true_eq, decide_eq_true_eq]
  exact ⟨by omega, by omega⟩
theorem dMul_small (x : Int) {k : Int} (h0 : -4294967296 < k) (h : k < 4294967296) : dMul (.int x) (.int k) = some (.int (x * k)) := by
  show (if sm64 x || sm64 k then some (PyData.int (x * k)) else none) = _
  have : sm64 k = true := decide_eq_true (by omega)
  rw [this, Bool.or_true, if_pos rfl]
theorem dMul_smallL {x : Int} (k : Int) (h0 : -4294967296 < x) (h : x < 4294967296) : dMul (.int x) (.int k) = some (.int (x * k)) := by
  show (if sm64 x || sm64 k then some (PyData.int (x * k)) else none) = _
  have : sm64 x = true := decide_eq_true (by omega)
  rw [this, Bool.true_or, if_pos rfl]
theorem dAdd_int (i j : Int) : dAdd (.int i) (.int j) = some (.int (i + j)) := rfl
theorem dSub_int (i j : Int) : dSub (.int i) (.int j) = some (.int (i - j)) := rfl
theorem dInt_int (i : Int) : dInt (.int i) = some (.int i) := rfl
theorem fmod_range (x : Int) {k : Int} (h : 0 < k) : 0 ≤ x.fmod k ∧ x.fmod k < k := ⟨Int.fmod_nonneg_of_pos x h, Int.fmod_lt_of_pos x h⟩
theorem Wp_mapR {f : D → M D} {Q : List D → Cup → Prop} {E : Exc → Cup → Prop} (R : D → Prop) (C : Cup → Prop) : ∀ {xs : List D} {c : Cup}, C c → (∀ x ∈ xs, ∀ c, C c → Wp (f x c) (fun d c' => R d ∧ C c') (fun _ _ => False)) → (∀ ys c, ys.length = xs.length → (∀ y ∈ ys, R y) → C c → Q ys c) → Wp (mapC f xs c) Q E := fun hc q e =>
  Wp_mapC (fun _ y => R y) C hc q fun ys c hl hp h2 => e ys c hl (fun y hy => by
    obtain ⟨i, hi⟩ := List.getElem?_of_mem hy
    have hlt := (List.getElem?_eq_some_iff.mp hi).1
    exact hp i _ y (List.getElem?_eq_getElem (by omega)) hi) h2
theorem nats_of {ys : List D} {k : Nat} (h : ∀ y ∈ ys, ∃ w, w < k ∧ y = nD w) : ∃ ws : List Nat, ys = ws.map nD ∧ ws.length = ys.length := by
  induction ys with
  | nil => exact ⟨[], rfl, rfl⟩
  | cons y r ih =>
    obtain ⟨w, _, rfl⟩ := h y List.mem_cons_self
    obtain ⟨ws, e, hl⟩ := ih fun z hz => h z (List.mem_cons_of_mem _ hz)
    exact ⟨w :: ws, by rw [e, List.map_cons], by simp [hl]⟩
theorem Wp_forI {τ γ : Type} {f : D → τ → M (Fl τ τ)} {Q : Fl τ γ → Cup → Prop} {E : Exc → Cup → Prop} (P : Nat → τ → Cup → Prop) : ∀ {xs : List D} {k : Nat} {t : τ} {c : Cup}, P k t c → (∀ (i : Nat) x, xs[i]? = some x → ∀ t c, P (k + i) t c → Wp (f x t c) (fun o c' => ∃ t', o = .nx t' ∧ P (k + i + 1) t' c') E) → (∀ t c, P (k + xs.length) t c → Q (.nx t) c) → Wp (forF (γ := γ) f xs t c) Q E
  | [], k, t, c, ht, _, e => e _ _ ht
  | x :: r, k, t, c, ht, q, e => by
    rw [forF, Wp_bind]
    refine (q 0 x rfl t c ht).mono (fun o c' ⟨t', ho, h'⟩ => ?_) fun _ _ z => z
    subst ho
    refine Wp_forI P (k := k + 1) h' (fun i y hy t c hp => ?_) fun t c hp => e t c ?_
    · have := q (i + 1) y (by simpa using hy) t c (by rw [show k + (i + 1) = k + 1 + i by omega]; exact hp)
      rw [show k + (i + 1) + 1 = k + 1 + i + 1 by omega] at this
      exact this
    · rw [List.length_cons, show k + (r.length + 1) = k + 1 + r.length by omega]
      exact hp
theorem zip2_map {α β : Type} (f : α → D) (g : β → D) (xs : List α) (ys : List β) : zip2 (xs.map f) (ys.map g) = (xs.zip ys).map fun p => .tuple [f p.1, g p.2] := by
  unfold zip2
  induction xs generalizing ys with
  | nil => rfl
  | cons x r ih =>
    cases ys with
    | nil => rfl
    | cons y s => rw [List.map_cons, List.map_cons, List.zipWith_cons_cons, ih, List.zip_cons_cons, List.map_cons]
theorem dSum_list {α : Type} (f : α → Int) (xs : List α) : dSum (.list (xs.map fun x => PyData.int (f x))) = some (.int (xs.map f).sum) := by
  show (intsOf (xs.map fun x => PyData.int (f x))).map _ = _
  rw [intsOf_map]
  rfl
theorem dSum_row (l : List Bool) : dSum (rowD l) = some (.int (l.map fun b => if b then (1 : Int) else 0).sum) := by
  show (intsOf (l.map fun b => PyData.int (if b then 1 else 0))).map _ = _
  rw [intsOf_map]
  rfl
theorem dEq_nil (d : D) : dEq d (.list []) = some (.bool (PyData.eqv d (.list []))) := by
  show (if min d.depth (PyData.depth (.list [])) ≤ 60 then some (PyData.bool (PyData.eqv d (.list []))) else none) = _
  rw [if_pos]
  have : PyData.depth (.list []) = 1 := rfl
  omega
theorem bit_of_mod (x : Int) : ∃ b, (.int (x.fmod 2) : D) = bD b := by
  obtain ⟨h1, h2⟩ := fmod_range x (show (0 : Int) < 2 by decide)
  by_cases h : x.fmod 2 = 0
  · exact ⟨false, by rw [h]; rfl⟩
  · exact ⟨true, by rw [show x.fmod 2 = 1 by omega]; rfl⟩
theorem five (b0 b1 b2 b3 b4 : Bool) : ∀ {j : Nat}, j < 5 → ∃ b, dIx (.list [bD b0, bD b1, bD b2, bD b3, bD b4]) (nD j) = some (bD b)
  | 0, _ => ⟨b0, rfl⟩
  | 1, _ => ⟨b1, rfl⟩
  | 2, _ => ⟨b2, rfl⟩
  | 3, _ => ⟨b3, rfl⟩
  | 4, _ => ⟨b4, rfl⟩
  | j + 5, h => absurd h (by omega)
theorem dStr_bit (b : Bool) : dStr (bD b) = some (chD b) := by cases b <;> rfl
theorem dAdd_nat (a b : Nat) : dAdd (nD a) (nD b) = some (nD (a + b)) := by
  show some (PyData.int ((a : Int) + (b : Int))) = some (PyData.int ((a + b : Nat) : Int))
  rw [show ((a + b : Nat) : Int) = (a : Int) + (b : Int) by omega]
theorem dMul_nat {a : Nat} (b : Nat) (h : a < 1000000) : dMul (nD a) (nD b) = some (nD (a * b)) := by
  rw [dMul_smallL _ (by omega) (by omega)]
  show some (PyData.int ((a : Int) * (b : Int))) = some (PyData.int ((a * b : Nat) : Int))
  rw [show ((a * b : Nat) : Int) = (a : Int) * (b : Int) from Int.natCast_mul a b]
theorem dIn_int (i : Int) (ys : List D) : dIn (.int i) (.tuple ys) = some (.bool (ys.any fun y => PyData.eqv y (.int i))) := by
  show (if min (PyData.depthAll ys) (PyData.depth (.int i)) ≤ 60 then some (ys.any fun y => PyData.eqv y (.int i)) else none).map _ = _
  rw [if_pos (by have : PyData.depth (.int i) = 0 := rfl; omega)]
  rfl
theorem ite_bD (b : Bool) : (if b = true then PyData.int 1 else PyData.int 0) = bD b := by cases b <;> rfl
theorem dNe_bit (a b : Bool) : dNe (bD a) (bD b) = some (.bool (a != b)) := by cases a <;> cases b <;> rfl
theorem rowsN_get {n i : Nat} (hi : i < 2 ^ n) : (rowsN n)[i]? = some (rowN n i) := by
  unfold rowsN
  rw [List.getElem?_map, List.getElem?_range hi]
  rfl
theorem rowsN_len (n : Nat) : (rowsN n).length = 2 ^ n := by simp [rowsN]
theorem plainAll_map {α : Type} {f : α → D} : ∀ {xs : List α}, (∀ x ∈ xs, (f x).plain = true) → PyData.plainAll (xs.map f) = true
  | [], _ => rfl
  | x :: r, h => by
    rw [List.map_cons, PyData.plainAll, h x List.mem_cons_self, plainAll_map fun y hy => h y (List.mem_cons_of_mem _ hy)]
    rfl
theorem depthAll_map {α : Type} {f : α → D} {k : Nat} : ∀ {xs : List α}, (∀ x ∈ xs, (f x).depth ≤ k) → PyData.depthAll (xs.map f) ≤ k
  | [], _ => Nat.zero_le _
  | x :: r, h => by
    rw [List.map_cons, PyData.depthAll]
    exact Nat.max_le.mpr ⟨h x List.mem_cons_self, depthAll_map fun y hy => h y (List.mem_cons_of_mem _ hy)⟩
/-- data that _law_like takes: plain and shallow -/
def Ok (k : Nat) (d : D) : Prop := d.plain = true ∧ d.depth ≤ k
theorem Ok.int (i : Int) : Ok 0 (.int i) := ⟨rfl, Nat.le_refl _⟩
theorem Ok.bool (i : Bool) : Ok 0 (.bool i) := ⟨rfl, Nat.le_refl _⟩
theorem Ok.up {j k : Nat} {d : D} (h : Ok j d) (hk : j ≤ k) : Ok k d := ⟨h.1, Nat.le_trans h.2 hk⟩
theorem Ok.tupMap {α : Type} {f : α → D} {k : Nat} {xs : List α} (h : ∀ x ∈ xs, Ok k (f x)) : Ok (k + 1) (.tuple (xs.map f)) := by
  refine ⟨?_, ?_⟩
  · rw [PyData.plain]; exact plainAll_map fun x hx => (h x hx).1
  · rw [PyData.depth]; exact Nat.succ_le_succ (depthAll_map fun x hx => (h x hx).2)
theorem Ok.listMap {α : Type} {f : α → D} {k : Nat} {xs : List α} (h : ∀ x ∈ xs, Ok k (f x)) : Ok (k + 1) (.list (xs.map f)) := by
  refine ⟨?_, ?_⟩
  · rw [PyData.plain]; exact plainAll_map fun x hx => (h x hx).1
  · rw [PyData.depth]; exact Nat.succ_le_succ (depthAll_map fun x hx => (h x hx).2)
theorem Ok.list {k : Nat} {xs : List D} (h : ∀ x ∈ xs, Ok k x) : Ok (k + 1) (.list xs) := by
  have := Ok.listMap (f := fun x => x) h
  rwa [List.map_id'] at this
theorem rowN_ok (n i : Nat) : Ok 1 (rowN n i) := Ok.tupMap fun b _ => Ok.int _
theorem sgD_ok (S : List Nat) : Ok 1 (sgD S) := Ok.tupMap fun s _ => Ok.int _
theorem rowsT_ok (n : Nat) (S : List Nat) : Ok 2 (.tuple (S.map (rowN n))) := Ok.tupMap fun s _ => rowN_ok n s
theorem dItems_list (xs : List D) : dItems (.list xs) = some xs := rfl
theorem dItems_tup (xs : List D) : dItems (.tuple xs) = some xs := rfl
theorem dSortL_list {xs : List D} (h : sortOk xs = true) : dSortL (.list xs) = some (isort xs) := by
  show (if sortOk xs = true then some (isort xs) else none) = _
  rw [if_pos h]
theorem Wp_setCup {α : Type} {n m : Int} {f : Unit → M α} {c : Cup} {Q : α → Cup → Prop} {E : Exc → Cup → Prop} : Wp ((setCup n m >>= f) c) Q E ↔ Wp (f () (n, m)) Q E := Iff.rfl
theorem Wp_of_eq' {α : Type} {r : Res α} {d : α} {c : Cup} {Q : α → Cup → Prop} {E : Exc → Cup → Prop} (h : r = .ok d c) (hq : Q d c) : Wp r Q E := by rw [h]; exact hq
theorem Wp_of_eq {r : Res D} {c : Cup} {E : Exc → Cup → Prop} (h : r = .ok (.bool true) c) : Wp r (fun d _ => d = .bool true) E := by rw [h]; exact rfl
end Mir

set_option maxRecDepth 100000
/-! MirP3: rows by their numbers, one below another; rising functions and their least points. No mirror in sight. -/
namespace Mir
def sub (n i j : Nat) : Bool := (List.range n).all fun s => !(i.testBit (n - 1 - s)) || j.testBit (n - 1 - s)
def cmp (n i : Nat) : Nat := 2 ^ n - 1 - i
def upF (ps : List Nat) (n i : Nat) : Bool := ps.any fun p => sub n p i
def mono (n : Nat) (f : Nat → Bool) : Prop := ∀ i < 2 ^ n, ∀ j < 2 ^ n, sub n i j = true → f i = true → f j = true
def mins (n : Nat) (f : Nat → Bool) : List Nat := (List.range (2 ^ n)).filter fun i => f i && (List.range n).all fun s => !(i.testBit (n - 1 - s)) || !(f (i ^^^ 2 ^ (n - 1 - s)))
structure Anti (n : Nat) (ps : List Nat) : Prop where
  lt : ∀ p ∈ ps, p < 2 ^ n
  up : ps.Pairwise (· < ·)
  un : ∀ p ∈ ps, ∀ q ∈ ps, sub n p q = true → p = q
theorem sub_iff {n i j : Nat} : sub n i j = true ↔ ∀ k < n, i.testBit k = true → j.testBit k = true := by
  unfold sub
  rw [List.all_eq_true]
  constructor
  · intro h k hk hi
    have := h (n - 1 - k) (List.mem_range.mpr (by omega))
    rw [show n - 1 - (n - 1 - k) = k by omega, hi] at this
    simpa using this
  · intro h s hs
    have hs := List.mem_range.mp hs
    have := h (n - 1 - s) (by omega)
    cases hi : i.testBit (n - 1 - s)
    · rfl
    · rw [this hi]; rfl
theorem sub_refl (n i : Nat) : sub n i i = true := sub_iff.mpr fun _ _ h => h
theorem sub_trans {n i j k : Nat} (h1 : sub n i j = true) (h2 : sub n j k = true) : sub n i k = true := sub_iff.mpr fun m hm h => sub_iff.mp h2 m hm (sub_iff.mp h1 m hm h)
theorem bit_big {n i k : Nat} (hi : i < 2 ^ n) (hk : n ≤ k) : i.testBit k = false := Nat.testBit_lt_two_pow (Nat.lt_of_lt_of_le hi (Nat.pow_le_pow_right (by decide) hk))
theorem sub_and {n i j : Nat} (hi : i < 2 ^ n) (h : sub n i j = true) : i &&& j = i := by
  apply Nat.eq_of_testBit_eq
  intro k
  rw [Nat.testBit_and]
  by_cases hk : k < n
  · cases hb : i.testBit k
    · rfl
    · rw [sub_iff.mp h k hk hb]; rfl
  · rw [bit_big hi (by omega)]; rfl
theorem sub_le {n i j : Nat} (hi : i < 2 ^ n) (h : sub n i j = true) : i ≤ j := by
  rw [← sub_and hi h]
  exact Nat.and_le_right
theorem sub_anti {n i j : Nat} (hi : i < 2 ^ n) (hj : j < 2 ^ n) (h : sub n i j = true) (h' : sub n j i = true) : i = j := Nat.le_antisymm (sub_le hi h) (sub_le hj h')
theorem bit_flip (i k m : Nat) : (i ^^^ 2 ^ k).testBit m = (i.testBit m ^^ decide (k = m)) := by rw [Nat.testBit_xor, Nat.testBit_two_pow]
theorem flip_lt {n i k : Nat} (hi : i < 2 ^ n) (hk : k < n) : i ^^^ 2 ^ k < 2 ^ n := Nat.xor_lt_two_pow hi (Nat.pow_lt_pow_right (by decide) hk)
theorem flip_sub {n i k : Nat} (hb : i.testBit k = true) : sub n (i ^^^ 2 ^ k) i = true := sub_iff.mpr fun m _ h => by
  rw [bit_flip] at h
  by_cases e : k = m
  · subst e; exact hb
  · simpa [e] using h
theorem flip_ne {i k : Nat} : i ^^^ 2 ^ k ≠ i := fun h => by
  have := congrArg (fun x => x.testBit k) h
  simp [bit_flip] at this
theorem sub_next {n i j : Nat} (hi : i < 2 ^ n) (hj : j < 2 ^ n) (h : sub n j i = true) (hne : j ≠ i) : ∃ k, k < n ∧ i.testBit k = true ∧ sub n j (i ^^^ 2 ^ k) = true := by
  apply Classical.byContradiction
  intro hc
  apply hne
  refine sub_anti hj hi h (sub_iff.mpr fun k hk hb => ?_)
  cases hjb : j.testBit k
  · refine absurd ⟨k, hk, hb, sub_iff.mpr fun m hm hjm => ?_⟩ hc
    rw [bit_flip]
    by_cases e : k = m
    · subst e; rw [hjb] at hjm; cases hjm
    · rw [sub_iff.mp h m hm hjm]; simp [e]
  · rfl
theorem mem_mins {n : Nat} {f : Nat → Bool} (hf : mono n f) {i : Nat} : i ∈ mins n f ↔ i < 2 ^ n ∧ f i = true ∧ ∀ j < 2 ^ n, f j = true → sub n j i = true → j = i := by
  unfold mins
  rw [List.mem_filter, List.mem_range, Bool.and_eq_true, List.all_eq_true]
  constructor
  · rintro ⟨hi, hfi, h⟩
    refine ⟨hi, hfi, fun j hj hfj hs => Classical.byContradiction fun hne => ?_⟩
    obtain ⟨k, hk, hb, hs'⟩ := sub_next hi hj hs hne
    have h1 := hf j hj _ (flip_lt hi hk) hs' hfj
    have h2 := h (n - 1 - k) (List.mem_range.mpr (by omega))
    rw [show n - 1 - (n - 1 - k) = k by omega, hb, h1] at h2
    cases h2
  · rintro ⟨hi, hfi, h⟩
    refine ⟨hi, hfi, fun s hs => ?_⟩
    have hs := List.mem_range.mp hs
    cases hb : i.testBit (n - 1 - s)
    · rfl
    · cases hv : f (i ^^^ 2 ^ (n - 1 - s))
      · rfl
      · exact absurd (h _ (flip_lt hi (by omega)) hv (flip_sub hb)) flip_ne
theorem mins_anti {n : Nat} {f : Nat → Bool} (hf : mono n f) : Anti n (mins n f) where
  lt p h := ((mem_mins hf).mp h).1
  up := List.pairwise_lt_range.filter _
  un p hp q hq h := ((mem_mins hf).mp hq).2.2 p ((mem_mins hf).mp hp).1 ((mem_mins hf).mp hp).2.1 h
theorem up_mono (ps : List Nat) (n : Nat) : mono n (upF ps n) := fun i _ j _ hs h => by
  unfold upF at *
  obtain ⟨p, hp, h⟩ := List.any_eq_true.mp h
  exact List.any_eq_true.mpr ⟨p, hp, sub_trans h hs⟩
theorem least_below {n : Nat} {f : Nat → Bool} (hf : mono n f) : ∀ i, i < 2 ^ n → f i = true → ∃ p, p ∈ mins n f ∧ sub n p i = true := by
  intro i
  induction i using Nat.strongRecOn with
  | ind i ih =>
    intro hi hfi
    by_cases h : ∀ j < 2 ^ n, f j = true → sub n j i = true → j = i
    · exact ⟨i, (mem_mins hf).mpr ⟨hi, hfi, h⟩, sub_refl n i⟩
    · simp only [Classical.not_forall] at h
      obtain ⟨j, hj, hfj, hs, hne⟩ := h
      have hlt : j < i := Nat.lt_of_le_of_ne (sub_le hj hs) hne
      obtain ⟨p, hp, hs'⟩ := ih j hlt hj hfj
      exact ⟨p, hp, sub_trans hs' hs⟩
theorem up_mins {n : Nat} {f : Nat → Bool} (hf : mono n f) {i : Nat} (hi : i < 2 ^ n) : upF (mins n f) n i = f i := by
  cases hfi : f i
  · cases h : upF (mins n f) n i
    · rfl
    · obtain ⟨p, hp, h⟩ := List.any_eq_true.mp h
      obtain ⟨hp1, hp2, _⟩ := (mem_mins hf).mp hp
      rw [hf p hp1 i hi h hp2] at hfi
      cases hfi
  · obtain ⟨p, hp, hs⟩ := least_below hf i hi hfi
    exact List.any_eq_true.mpr ⟨p, hp, hs⟩
/-- two lists of growing numbers with the same members -/
theorem grow_eq : ∀ {xs ys : List Nat}, xs.Pairwise (· < ·) → ys.Pairwise (· < ·) → (∀ i, i ∈ xs ↔ i ∈ ys) → xs = ys
  | [], [], _, _, _ => rfl
  | [], y :: ys, _, _, h => absurd ((h y).mpr List.mem_cons_self) (by simp)
  | x :: xs, [], _, _, h => absurd ((h x).mp List.mem_cons_self) (by simp)
  | x :: xs, y :: ys, hx, hy, h => by
    have cx := List.pairwise_cons.mp hx
    have cy := List.pairwise_cons.mp hy
    have e : x = y := by
      rcases List.mem_cons.mp ((h x).mp List.mem_cons_self) with e | hm
      · exact e
      · rcases List.mem_cons.mp ((h y).mpr List.mem_cons_self) with e | hm'
        · exact e.symm
        · have h1 := cy.1 x hm
          have h2 := cx.1 y hm'
          omega
    subst e
    rw [grow_eq cx.2 cy.2 fun i => ?_]
    constructor
    · intro hi
      rcases List.mem_cons.mp ((h i).mp (List.mem_cons_of_mem _ hi)) with e | hm
      · have := cx.1 i hi; omega
      · exact hm
    · intro hi
      rcases List.mem_cons.mp ((h i).mpr (List.mem_cons_of_mem _ hi)) with e | hm
      · have := cy.1 i hi; omega
      · exact hm
theorem mins_up {n : Nat} {ps : List Nat} (ha : Anti n ps) : mins n (upF ps n) = ps := by
  refine grow_eq (mins_anti (up_mono ps n)).up ha.up fun i => ?_
  rw [mem_mins (up_mono ps n)]
  constructor
  · rintro ⟨hi, hu, h⟩
    obtain ⟨p, hp, hs⟩ := List.any_eq_true.mp hu
    have := h p (ha.lt p hp) (List.any_eq_true.mpr ⟨p, hp, sub_refl n p⟩) hs
    exact this ▸ hp
  · intro hi
    refine ⟨ha.lt i hi, List.any_eq_true.mpr ⟨i, hi, sub_refl n i⟩, fun j hj hu hs => ?_⟩
    obtain ⟨p, hp, hs'⟩ := List.any_eq_true.mp hu
    have e := ha.un p hp i hi (sub_trans hs' hs)
    subst e
    exact sub_anti hj (ha.lt p hp) hs hs'
/-! ### the other end of a row -/
theorem cmp_lt (n i : Nat) : cmp n i < 2 ^ n := by have : 0 < 2 ^ n := Nat.two_pow_pos n; unfold cmp; omega
theorem cmp_cmp {n i : Nat} (hi : i < 2 ^ n) : cmp n (cmp n i) = i := by unfold cmp; omega
theorem cmp_bit {n i : Nat} (hi : i < 2 ^ n) (k : Nat) : (cmp n i).testBit k = (decide (k < n) && !(i.testBit k)) := by
  have := Nat.testBit_two_pow_sub_succ hi k
  rw [← this]
  unfold cmp
  congr 1
  omega
theorem cmp_sub {n i j : Nat} (hi : i < 2 ^ n) (hj : j < 2 ^ n) (h : sub n i j = true) : sub n (cmp n j) (cmp n i) = true := sub_iff.mpr fun k hk hb => by
  rw [cmp_bit hj, decide_eq_true hk, Bool.true_and] at hb
  rw [cmp_bit hi, decide_eq_true hk, Bool.true_and]
  cases hb' : i.testBit k
  · rfl
  · rw [sub_iff.mp h k hk hb'] at hb; cases hb
/-- the dual -/
def dualF (n : Nat) (f : Nat → Bool) (i : Nat) : Bool := !(f (cmp n i))
theorem dual_mono {n : Nat} {f : Nat → Bool} (hf : mono n f) : mono n (dualF n f) := fun i hi j hj hs h => by
  unfold dualF at *
  cases hv : f (cmp n j)
  · rfl
  · rw [hf _ (cmp_lt n j) _ (cmp_lt n i) (cmp_sub hi hj hs) hv] at h; cases h
theorem dual_dual {n : Nat} {f : Nat → Bool} {i : Nat} (hi : i < 2 ^ n) : dualF n (dualF n f) i = f i := by
  unfold dualF
  rw [cmp_cmp hi, Bool.not_not]
theorem mins_congr {n : Nat} {f g : Nat → Bool} (h : ∀ i < 2 ^ n, f i = g i) : mins n f = mins n g := by
  unfold mins
  refine filter_congr' fun i hi => ?_
  have hi := List.mem_range.mp hi
  rw [h i hi]
  congr 1
  rw [Bool.eq_iff_iff, List.all_eq_true, List.all_eq_true]
  refine forall_congr' fun s => forall_congr' fun hs => ?_
  have hs := List.mem_range.mp hs
  rw [h _ (flip_lt hi (by omega))]
end Mir

set_option maxRecDepth 100000
/-! MirP4: rows as data, operations on them; loops that fill a list. -/
namespace Mir
open PySem
/-- the sign at a place of a row -/
def bitAt (n i s : Nat) : Bool := i.testBit (n - 1 - s)
theorem rowN_eq (n i : Nat) : rowN n i = .tuple ((List.range n).map fun s => bD (bitAt n i s)) := by
  show PyData.tuple ((rowOf n i).map bD) = _
  unfold rowOf
  rw [List.map_map]
  rfl
theorem rows_eqv : ∀ {n : Nat}, n ≤ 6 → ∀ i < 2 ^ n, ∀ j < 2 ^ n, PyData.eqv (rowN n i) (rowN n j) = (i == j) :=
  cases6 (P := fun n => ∀ i < 2 ^ n, ∀ j < 2 ^ n, PyData.eqv (rowN n i) (rowN n j) = (i == j)) (by decide +kernel) (by decide +kernel) (by decide +kernel) (by decide +kernel) (by decide +kernel) (by decide +kernel) (by decide +kernel)
theorem rows_alike : ∀ {n : Nat}, n ≤ 6 → ∀ i < 2 ^ n, ∀ j < 2 ^ n, PySem.W.alike (rowN n i) (rowN n j) = true :=
  cases6 (P := fun n => ∀ i < 2 ^ n, ∀ j < 2 ^ n, PySem.W.alike (rowN n i) (rowN n j) = true) (by decide +kernel) (by decide +kernel) (by decide +kernel) (by decide +kernel) (by decide +kernel) (by decide +kernel) (by decide +kernel)
theorem rows_min (n i : Nat) (d : D) : min (rowN n i).depth d.depth ≤ 60 := Nat.le_trans (Nat.min_le_left _ _) (Nat.le_trans (rowN_ok n i).2 (by decide))
theorem dEq_rows {n i j : Nat} (hn : n ≤ 6) (hi : i < 2 ^ n) (hj : j < 2 ^ n) : dEq (rowN n i) (rowN n j) = some (.bool (i == j)) := by
  show (if min (rowN n i).depth (rowN n j).depth ≤ 60 then some (PyData.bool (PyData.eqv (rowN n i) (rowN n j))) else none) = _
  rw [if_pos (rows_min n i _), rows_eqv hn i hi j hj]
theorem dNe_rows {n i j : Nat} (hn : n ≤ 6) (hi : i < 2 ^ n) (hj : j < 2 ^ n) : dNe (rowN n i) (rowN n j) = some (.bool (!(i == j))) := by
  show (if min (rowN n i).depth (rowN n j).depth ≤ 60 then some (PyData.bool (!PyData.eqv (rowN n i) (rowN n j))) else none) = _
  rw [if_pos (rows_min n i _), rows_eqv hn i hi j hj]
theorem rows_cmp {n i j : Nat} (hn : n ≤ 6) (hi : i < 2 ^ n) (hj : j < 2 ^ n) : cmpOk (rowN n i) (rowN n j) = true := by
  unfold cmpOk
  rw [rows_alike hn i hi j hj, decide_eq_true (rows_min n i _)]
  rfl
theorem dLt_rows {n i j : Nat} (hn : n ≤ 6) (hi : i < 2 ^ n) (hj : j < 2 ^ n) : dLt (rowN n i) (rowN n j) = some (.bool (decide (i < j))) := by
  show (if cmpOk (rowN n i) (rowN n j) = true then some (PyData.bool (PySem.W.dataLt (rowN n i) (rowN n j))) else none) = _
  rw [if_pos (rows_cmp hn hi hj), rows_lt hn i hi j hj]
theorem dIx_row {n i s : Nat} (hs : s < n) : dIx (rowN n i) (nD s) = some (bD (bitAt n i s)) := by
  rw [rowN_eq]
  exact dIx_tup (by rw [List.getElem?_map, List.getElem?_range hs]; rfl)
theorem dItems_row (n i : Nat) : dItems (rowN n i) = some ((List.range n).map fun s => bD (bitAt n i s)) := by rw [rowN_eq]; rfl
theorem dLen_row (n i : Nat) : dLen (rowN n i) = some (nD n) := by rw [rowN_eq, dLen_tup, List.length_map, List.length_range]
theorem dZip_rows (n i j : Nat) : dZip (rowN n i) (rowN n j) = some ((List.range n).map fun s => .tuple [bD (bitAt n i s), bD (bitAt n j s)]) := by
  rw [rowN_eq, rowN_eq]
  show some (zip2 _ _) = _
  rw [zip_map]
theorem dLe_bit (a b : Bool) : dLe (bD a) (bD b) = some (.bool (!a || b)) := by cases a <;> cases b <;> rfl
theorem dGt_bit (a b : Bool) : dGt (bD a) (bD b) = some (.bool (a && !b)) := by cases a <;> cases b <;> rfl
theorem dLt_bit (a b : Bool) : dLt (bD a) (bD b) = some (.bool (!a && b)) := by cases a <;> cases b <;> rfl
theorem dEq_bit (a b : Bool) : dEq (bD a) (bD b) = some (.bool (a == b)) := by cases a <;> cases b <;> rfl
theorem dEq_bit0 (a : Bool) : dEq (bD a) (.int 0) = some (.bool (!a)) := by cases a <;> rfl
theorem dEq_bit1 (a : Bool) : dEq (bD a) (.int 1) = some (.bool a) := by cases a <;> rfl
theorem dNe_bit0 (a : Bool) : dNe (bD a) (.int 0) = some (.bool a) := by cases a <;> rfl
theorem dNe_bit1 (a : Bool) : dNe (bD a) (.int 1) = some (.bool (!a)) := by cases a <;> rfl
theorem dSub_bit (a : Bool) : dSub (.int 1) (bD a) = some (bD (!a)) := by cases a <;> rfl
theorem dInt_ch (b : Bool) : dInt (chD b) = some (bD b) := by cases b <;> kernel_rfl
theorem dAny_map {α : Type} (f : α → Bool) (xs : List α) : dAny (.list (xs.map fun x => PyData.bool (f x))) = some (.bool (xs.any f)) := by
  show ((truAll (xs.map fun x => PyData.bool (f x))).map fun bs => PyData.bool (bs.any id)) = _
  rw [truAll_map]
  show some (PyData.bool ((xs.map f).any id)) = _
  rw [List.any_map]
  rfl
theorem cmp_row {n i : Nat} (hi : i < 2 ^ n) : (.tuple ((List.range n).map fun s => bD (!(bitAt n i s))) : D) = rowN n (cmp n i) := by
  rw [rowN_eq]
  congr 1
  refine List.map_congr_left fun s hs => ?_
  have hs := List.mem_range.mp hs
  unfold bitAt
  rw [cmp_bit hi, decide_eq_true (by omega), Bool.true_and]
/-- a list of rows -/
abbrev rowsT (n : Nat) (ps : List Nat) : D := .tuple (ps.map (rowN n))
/-- a function's answers, row by row -/
def tabF (n : Nat) (f : Nat → Bool) : List Bool := (List.range (2 ^ n)).map f
theorem tabF_len (n : Nat) (f : Nat → Bool) : (tabF n f).length = 2 ^ n := by simp [tabF]
theorem tabF_get {n : Nat} {f : Nat → Bool} {i : Nat} (hi : i < 2 ^ n) : (tabF n f).getD i false = f i := by
  unfold tabF
  rw [List.getD_eq_getElem?_getD, List.getElem?_map, List.getElem?_range hi]
  rfl
theorem tabF_self {n : Nat} {l : List Bool} (hl : l.length = 2 ^ n) : tabF n (fun i => l.getD i false) = l := by
  unfold tabF
  apply List.ext_getElem
  · rw [List.length_map, List.length_range, hl]
  · intro i h1 h2
    rw [List.getElem_map, List.getElem_range, List.getD_eq_getElem?_getD, List.getElem?_eq_getElem h2]
    rfl
theorem tabF_congr {n : Nat} {f g : Nat → Bool} (h : ∀ i < 2 ^ n, f i = g i) : tabF n f = tabF n g := List.map_congr_left fun i hi => h i (List.mem_range.mp hi)
theorem tabF_rev (n : Nat) (f : Nat → Bool) : (tabF n f).reverse = tabF n fun i => f (cmp n i) := by
  unfold tabF
  apply List.ext_getElem
  · simp
  · intro i h1 h2
    rw [List.getElem_reverse, List.getElem_map, List.getElem_range, List.getElem_map, List.getElem_range, List.length_map, List.length_range]
    rfl
theorem tabF_not (n : Nat) (f : Nat → Bool) : (tabF n f).map (!·) = tabF n fun i => !(f i) := by
  unfold tabF
  rw [List.map_map]
  rfl
theorem tabF_inj {n : Nat} {f g : Nat → Bool} (h : tabF n f = tabF n g) {i : Nat} (hi : i < 2 ^ n) : f i = g i := by rw [← tabF_get (f := f) hi, h, tabF_get hi]
/-- a loop that fills a list -/
theorem forF_push {α γ : Type} {f : D → List D → M (Fl (List D) (List D))} {h g : α → D} {p : α → Bool} : ∀ {xs : List α} {t : List D}, t.length + xs.length ≤ 1000000 → (∀ x ∈ xs, ∀ t : List D, t.length ≤ 1000000 → f (h x) t = pure (.nx (if p x = true then t ++ [g x] else t))) → forF (γ := γ) f (xs.map h) t = pure (.nx (t ++ (xs.filter p).map g))
  | [], t, _, _ => by
    show pure (Fl.nx t) = pure (Fl.nx (t ++ []))
    rw [List.append_nil]
  | x :: r, t, hl, q => by
    rw [List.length_cons] at hl
    rw [List.map_cons, forF, q x List.mem_cons_self t (by omega), pure_bind]
    by_cases hp : p x = true
    · rw [if_pos hp]
      show forF f (r.map h) (t ++ [g x]) = _
      rw [forF_push (by simp only [List.length_append, List.length_singleton]; omega) fun y hy => q y (List.mem_cons_of_mem _ hy), List.filter_cons_of_pos hp, List.map_cons, List.append_assoc]
      rfl
    · rw [if_neg hp]
      show forF f (r.map h) t = _
      rw [forF_push (by omega) fun y hy => q y (List.mem_cons_of_mem _ hy), List.filter_cons_of_neg hp]
theorem fitL_ok {t : List D} (h : t.length ≤ 1000000) : fitL t = some t := by
  have h3 : lim = 16777216 := rfl
  unfold fitL
  rw [if_pos (by omega)]
/-- rows told by growing numbers are no more than all -/
theorem grow_len {n : Nat} {ps : List Nat} (h1 : ps.Pairwise (· < ·)) (h2 : ∀ p ∈ ps, p < 2 ^ n) : ps.length ≤ 2 ^ n := by
  have e : ps = (List.range (2 ^ n)).filter fun i => ps.contains i := grow_eq h1 (List.pairwise_lt_range.filter _) fun i => by
    rw [List.mem_filter, List.mem_range, List.contains_iff_mem]
    exact ⟨fun h => ⟨h2 i h, h⟩, fun h => h.2⟩
  rw [e]
  exact Nat.le_trans (List.length_filter_le _ _) (by rw [List.length_range]; exact Nat.le_refl _)
theorem cutL_tail {α : Type} (xs : List α) : cutL xs (some 1) none = xs.tail := by
  unfold cutL sIx
  simp only
  cases xs with
  | nil => rfl
  | cons x r =>
    have e1 : (if (1 : Int) < 0 then ((1 : Int) + ((x :: r).length : Int)).toNat else min (1 : Int).toNat (x :: r).length) = 1 := by
      rw [if_neg (by decide)]
      simp
    rw [e1]
    simp
theorem zip_tail_all {α : Type} {p : α → α → Prop} : ∀ {xs : List α}, xs.Pairwise p → ∀ q ∈ xs.zip xs.tail, p q.1 q.2
  | [], _, _, h => nomatch h
  | [x], _, _, h => nomatch h
  | x :: y :: r, hp, q, h => by
    have hc := List.pairwise_cons.mp hp
    rw [List.tail_cons, List.zip_cons_cons] at h
    rcases List.mem_cons.mp h with rfl | h
    · exact hc.1 y List.mem_cons_self
    · exact zip_tail_all hc.2 q h
theorem zip_mem {α β : Type} : ∀ {xs : List α} {ys : List β} {q : α × β}, q ∈ xs.zip ys → q.1 ∈ xs ∧ q.2 ∈ ys
  | [], _, _, h => by simp at h
  | _ :: _, [], _, h => by simp at h
  | x :: r, y :: s, q, h => by
    rw [List.zip_cons_cons] at h
    rcases List.mem_cons.mp h with rfl | h
    · exact ⟨List.mem_cons_self, List.mem_cons_self⟩
    · obtain ⟨a, b⟩ := zip_mem h
      exact ⟨List.mem_cons_of_mem _ a, List.mem_cons_of_mem _ b⟩
end Mir

set_option maxRecDepth 100000
/-! MirP5: more on lists, texts built in a loop, rows built of bits. -/
namespace Mir
open PySem
theorem dEq_lnil (xs : List D) : dEq (.list xs) (.list []) = some (.bool xs.isEmpty) := by
  rw [dEq_nil]
  cases xs <;> rfl
theorem dNe_lnil (xs : List D) : dNe (.list xs) (.list []) = some (.bool (!xs.isEmpty)) := by
  show (if min (PyData.depth (.list xs)) (PyData.depth (.list [])) ≤ 60 then some (PyData.bool (!PyData.eqv (.list xs) (.list []))) else none) = _
  rw [if_pos]
  · cases xs <;> rfl
  · have : PyData.depth (.list []) = 1 := rfl
    omega
theorem isEmpty_filt {α β : Type} (p : α → Bool) (g : α → β) : ∀ xs : List α, ((xs.filter p).map g).isEmpty = !(xs.any p)
  | [] => rfl
  | x :: r => by
    by_cases h : p x = true
    · rw [List.filter_cons_of_pos h, List.any_cons, h]; rfl
    · rw [List.filter_cons_of_neg h, isEmpty_filt p g r, List.any_cons]
      simp [h]
theorem any_sub (n i j : Nat) : (!((List.range n).any fun s => bitAt n i s && !(bitAt n j s))) = sub n i j := by
  unfold sub bitAt
  rw [List.not_any_eq_all_not]
  congr 1
  funext s
  cases i.testBit (n - 1 - s) <;> cases j.testBit (n - 1 - s) <;> rfl
theorem any_cmp {n i p : Nat} (hi : i < 2 ^ n) : (!((List.range n).any fun s => bitAt n i s && bitAt n p s)) = sub n p (cmp n i) := by
  unfold sub bitAt
  rw [List.not_any_eq_all_not]
  rw [Bool.eq_iff_iff, List.all_eq_true, List.all_eq_true]
  refine forall_congr' fun s => forall_congr' fun hs => ?_
  have hs := List.mem_range.mp hs
  rw [cmp_bit hi, decide_eq_true (by omega)]
  cases i.testBit (n - 1 - s) <;> cases p.testBit (n - 1 - s) <;> simp
theorem mins_law {n : Nat} {f : Nat → Bool} (hf : mono n f) : (((List.range (2 ^ n)).filter f).filter fun i => !(((List.range (2 ^ n)).filter f).any fun j => !(j == i) && sub n j i)) = mins n f := by
  refine grow_eq ((List.pairwise_lt_range.filter _).filter _) (mins_anti hf).up fun i => ?_
  rw [mem_mins hf, List.mem_filter, List.mem_filter, List.mem_range]
  constructor
  · rintro ⟨⟨hi, hfi⟩, h⟩
    refine ⟨hi, hfi, fun j hj hfj hs => Classical.byContradiction fun hne => ?_⟩
    rw [Bool.not_eq_true'] at h
    have := List.any_eq_false.mp h j (List.mem_filter.mpr ⟨List.mem_range.mpr hj, hfj⟩)
    rw [hs] at this
    simp [hne] at this
  · rintro ⟨hi, hfi, h⟩
    refine ⟨⟨hi, hfi⟩, ?_⟩
    rw [Bool.not_eq_true']
    refine List.any_eq_false.mpr fun j hj => ?_
    obtain ⟨hj, hfj⟩ := List.mem_filter.mp hj
    have := h j (List.mem_range.mp hj) hfj
    cases hs : sub n j i
    · simp
    · simp [this hs]
theorem ite_ch (b : Bool) : (if b = true then pure (PyData.str "1") else pure (PyData.str "0") : M D) = pure (chD b) := by cases b <;> rfl
/-- a loop that writes a text -/
theorem forF_txt {α γ : Type} {f : D → D → M (Fl D D)} {h : α → D} {g : α → Bool} : ∀ {xs : List α} {l : List Bool}, l.length + xs.length ≤ 1000000 → (∀ x ∈ xs, ∀ l : List Bool, l.length ≤ 1000000 → f (h x) (txtD l) = pure (.nx (txtD (l ++ [g x])))) → forF (γ := γ) f (xs.map h) (txtD l) = pure (.nx (txtD (l ++ xs.map g)))
  | [], l, _, _ => by
    show pure (Fl.nx (txtD l)) = pure (Fl.nx (txtD (l ++ [])))
    rw [List.append_nil]
  | x :: r, l, hl, q => by
    rw [List.length_cons] at hl
    rw [List.map_cons, forF, q x List.mem_cons_self l (by omega), pure_bind]
    show forF f (r.map h) (txtD (l ++ [g x])) = _
    rw [forF_txt (by simp only [List.length_append, List.length_singleton]; omega) fun y hy => q y (List.mem_cons_of_mem _ hy), List.append_assoc]
    rfl
/-- any bits make a row -/
theorem row_of_bits : ∀ bs : List Bool, ∃ i, i < 2 ^ bs.length ∧ rowOf bs.length i = bs
  | [] => ⟨0, by decide, rfl⟩
  | b :: r => by
    obtain ⟨i, hi, e⟩ := row_of_bits r
    refine ⟨if b then i ^^^ 2 ^ r.length else i, ?_, ?_⟩
    · rw [List.length_cons]
      have h2 : 2 ^ r.length < 2 ^ (r.length + 1) := Nat.pow_lt_pow_right (by decide) (by omega)
      cases b
      · exact Nat.lt_trans hi h2
      · exact Nat.xor_lt_two_pow (Nat.lt_trans hi h2) h2
    · rw [List.length_cons]
      unfold rowOf at e ⊢
      rw [List.range_succ_eq_map, List.map_cons, List.map_map]
      congr 1
      · have hz := bit_big hi (Nat.le_refl r.length)
        cases b
        · simpa using hz
        · simp only [if_true, Nat.add_sub_cancel, Nat.sub_zero]
          rw [bit_flip, hz]; simp
      · refine Eq.trans (List.map_congr_left fun s hs => ?_) e
        have hs := List.mem_range.mp hs
        show Nat.testBit _ (r.length + 1 - 1 - (s + 1)) = _
        rw [show r.length + 1 - 1 - (s + 1) = r.length - 1 - s by omega]
        cases b
        · rfl
        · simp only [if_true]
          rw [bit_flip, decide_eq_false (by omega), Bool.xor_false]
theorem bits_of {ys : List D} (h : ∀ y ∈ ys, ∃ w, w < 2 ∧ y = nD w) : ∃ i, i < 2 ^ ys.length ∧ (.tuple ys : D) = rowN ys.length i := by
  obtain ⟨bs, e⟩ : ∃ bs : List Bool, ys = bs.map bD := by
    induction ys with
    | nil => exact ⟨[], rfl⟩
    | cons y r ih =>
      obtain ⟨bs, e⟩ := ih fun z hz => h z (List.mem_cons_of_mem _ hz)
      obtain ⟨w, hw, rfl⟩ := h y List.mem_cons_self
      match w, hw with
      | 0, _ => exact ⟨false :: bs, by rw [e]; rfl⟩
      | 1, _ => exact ⟨true :: bs, by rw [e]; rfl⟩
  subst e
  obtain ⟨i, hi, e⟩ := row_of_bits bs
  rw [List.length_map]
  refine ⟨i, hi, ?_⟩
  show _ = rowD (rowOf bs.length i)
  rw [e]
  rfl
end Mir

set_option maxRecDepth 100000
/-! MirP6: equality of lists of rows; rows apart, some left out; dual points. -/
namespace Mir
open PySem
theorem eqvAll_rows {n : Nat} (hn : n ≤ 6) : ∀ {a b : List Nat}, (∀ i ∈ a, i < 2 ^ n) → (∀ i ∈ b, i < 2 ^ n) → PyData.eqvAll (a.map (rowN n)) (b.map (rowN n)) = decide (a = b)
  | [], [], _, _ => rfl
  | [], _ :: _, _, _ => rfl
  | _ :: _, [], _, _ => rfl
  | x :: a, y :: b, ha, hb => by
    rw [List.map_cons, List.map_cons, PyData.eqvAll, rows_eqv hn x (ha x List.mem_cons_self) y (hb y List.mem_cons_self), eqvAll_rows hn (fun i h => ha i (List.mem_cons_of_mem _ h)) fun i h => hb i (List.mem_cons_of_mem _ h)]
    by_cases e : x = y
    · subst e
      by_cases e2 : a = b
      · subst e2; simp
      · simp [e2]
    · simp [e]
theorem dEq_rowsT {n : Nat} (hn : n ≤ 6) {a b : List Nat} (ha : ∀ i ∈ a, i < 2 ^ n) (hb : ∀ i ∈ b, i < 2 ^ n) : dEq (rowsT n a) (rowsT n b) = some (.bool (decide (a = b))) := by
  show (if min (rowsT n a).depth (rowsT n b).depth ≤ 60 then some (PyData.bool (PyData.eqv (rowsT n a) (rowsT n b))) else none) = _
  rw [if_pos (Nat.le_trans (Nat.min_le_left _ _) (Nat.le_trans (rowsT_ok n a).2 (by decide)))]
  congr 2
  exact eqvAll_rows hn ha hb
theorem dNe_bool (a b : Bool) : dNe (.bool a) (.bool b) = some (.bool (a != b)) := by cases a <;> cases b <;> rfl
theorem dEq_bool (a b : Bool) : dEq (.bool a) (.bool b) = some (.bool (a == b)) := by cases a <;> cases b <;> rfl
theorem dNe_txt_self (l : List Bool) : dNe (txtD l) (txtD l) = some (.bool false) := by
  show (if min (PyData.depth (txtD l)) (PyData.depth (txtD l)) ≤ 60 then some (PyData.bool (!PyData.eqv (txtD l) (txtD l))) else none) = _
  rw [if_pos (by show min 0 0 ≤ 60; decide), eqv_self rfl]
  rfl
theorem Anti.sublist {n : Nat} {a b : List Nat} (h : Anti n b) (s : a.Sublist b) : Anti n a where
  lt p hp := h.lt p (s.subset hp)
  up := h.up.sublist s
  un p hp q hq hs := h.un p (s.subset hp) q (s.subset hq) hs
theorem Anti.nil (n : Nat) : Anti n [] where
  lt p hp := absurd hp (by simp)
  up := .nil
  un p hp := absurd hp (by simp)
theorem anti_one {n i : Nat} (hi : i < 2 ^ n) : Anti n [i] where
  lt p hp := by rw [List.mem_singleton.mp hp]; exact hi
  up := by simp
  un p hp q hq _ := by rw [List.mem_singleton.mp hp, List.mem_singleton.mp hq]
/-- the dual points -/
def duals (n : Nat) (ps : List Nat) : List Nat := mins n (dualF n (upF ps n))
theorem duals_anti (n : Nat) (ps : List Nat) : Anti n (duals n ps) := mins_anti (dual_mono (up_mono ps n))
theorem up_duals (n : Nat) (ps : List Nat) {i : Nat} (hi : i < 2 ^ n) : upF (duals n ps) n i = dualF n (upF ps n) i := up_mins (dual_mono (up_mono ps n)) hi
theorem duals_duals {n : Nat} {ps : List Nat} (ha : Anti n ps) : duals n (duals n ps) = ps := by
  refine Eq.trans (mins_congr fun i hi => ?_) (mins_up ha)
  show (!(upF (duals n ps) n (cmp n i))) = _
  rw [up_duals n ps (cmp_lt n i)]
  unfold dualF
  rw [cmp_cmp hi, Bool.not_not]
/-- a row at which two lots of points are no duals -/
def brk (n : Nat) (ps os : List Nat) (j : Nat) : Bool := upF ps n j == upF os n (cmp n j)
theorem brk_none {n : Nat} {ps os : List Nat} (ho : Anti n os) : ((List.range (2 ^ n)).filter (brk n ps os)).isEmpty = decide (os = duals n ps) := by
  rw [Bool.eq_iff_iff, List.isEmpty_iff, decide_eq_true_eq]
  constructor
  · intro h
    have h2 : ∀ j < 2 ^ n, brk n ps os j = false := fun j hj => by
      cases hb : brk n ps os j
      · rfl
      · have := List.mem_filter.mpr ⟨List.mem_range.mpr hj, hb⟩
        rw [h] at this
        cases this
    rw [← mins_up ho]
    refine mins_congr fun i hi => ?_
    have := h2 (cmp n i) (cmp_lt n i)
    unfold brk at this
    rw [cmp_cmp hi] at this
    unfold dualF
    cases h1 : upF ps n (cmp n i) <;> cases h2 : upF os n i <;> simp_all
  · intro e
    subst e
    rw [List.filter_eq_nil_iff]
    intro j hj
    have hj := List.mem_range.mp hj
    unfold brk
    rw [up_duals n ps (cmp_lt n j)]
    unfold dualF
    rw [cmp_cmp hj]
    cases upF ps n j <;> simp
theorem sIx_nat (n d k : Nat) : sIx n d (some (k : Int)) = min k n := by
  show (if ((k : Int) < 0) then ((k : Int) + n).toNat else min (k : Int).toNat n) = _
  rw [if_neg (by omega), Int.toNat_natCast]
theorem cutL_take {α : Type} (xs : List α) (k : Nat) : cutL xs none (some (k : Int)) = xs.take k := by
  show (xs.drop 0).take (sIx xs.length xs.length (some (k : Int)) - 0) = _
  rw [sIx_nat, List.drop_zero, Nat.sub_zero]
  by_cases h : k ≤ xs.length
  · rw [Nat.min_eq_left h]
  · rw [Nat.min_eq_right (by omega), List.take_length, List.take_of_length_le (by omega)]
theorem cutL_drop {α : Type} (xs : List α) (k : Nat) : cutL xs (some (k : Int)) none = xs.drop k := by
  show (xs.drop (sIx xs.length 0 (some (k : Int)))).take (xs.length - sIx xs.length 0 (some (k : Int))) = _
  rw [sIx_nat]
  by_cases h : k ≤ xs.length
  · rw [Nat.min_eq_left h, List.take_of_length_le (by rw [List.length_drop]; exact Nat.le_refl _)]
  · rw [Nat.min_eq_right (by omega)]
    simp only [Nat.sub_self, List.take_zero]
    rw [List.drop_eq_nil_of_le (by omega)]
theorem left_out {α : Type} (xs : List α) (k : Nat) : (xs.take k ++ xs.drop (k + 1)).Sublist xs := by
  have h : (xs.take k ++ xs.drop k) = xs := List.take_append_drop k xs
  have h2 : (xs.take k ++ xs.drop (k + 1)).Sublist (xs.take k ++ xs.drop k) := by
    refine List.Sublist.append (List.Sublist.refl _) ?_
    rw [← List.drop_drop, show xs.drop k = xs.drop k from rfl]
    exact List.drop_sublist 1 _
  rwa [h] at h2
theorem dAdd_tup {xs ys : List D} (h : xs.length + ys.length ≤ 1000000) : dAdd (.tuple xs) (.tuple ys) = some (.tuple (xs ++ ys)) := by
  have h3 : lim = 16777216 := rfl
  show (if xs.length + ys.length ≤ lim then some (PyData.tuple (xs ++ ys)) else none) = _
  rw [if_pos (by omega)]
theorem dAdd_lst {xs ys : List D} (h : xs.length + ys.length ≤ 1000000) : dAdd (.list xs) (.list ys) = some (.list (xs ++ ys)) := by
  have h3 : lim = 16777216 := rfl
  show (if xs.length + ys.length ≤ lim then some (PyData.list (xs ++ ys)) else none) = _
  rw [if_pos (by omega)]
theorem forF_skip {γ : Type} {f : D → Unit → M (Fl Unit Unit)} : ∀ {xs : List D}, (∀ x ∈ xs, f x () = pure (.nx ())) → forF (γ := γ) f xs () = pure (.nx ())
  | [], _ => rfl
  | x :: r, q => by
    rw [forF, q x List.mem_cons_self, pure_bind]
    exact forF_skip fun y hy => q y (List.mem_cons_of_mem _ hy)
theorem dNotIn_row {n x : Nat} (hn : n ≤ 6) {xs : List Nat} (hx : x ∈ xs) (hl : ∀ i ∈ xs, i < 2 ^ n) : dNotIn (rowN n x) (.list (xs.map (rowN n))) = some (.bool false) := by
  show (inB (rowN n x) (.list (xs.map (rowN n)))).map (fun b => PyData.bool (!b)) = _
  have e : inB (rowN n x) (.list (xs.map (rowN n))) = some true := by
    show (if min (PyData.depthAll (xs.map (rowN n))) (rowN n x).depth ≤ 60 then some ((xs.map (rowN n)).any fun y => PyData.eqv y (rowN n x)) else none) = _
    rw [if_pos (Nat.le_trans (Nat.min_le_right _ _) (Nat.le_trans (rowN_ok n x).2 (by decide)))]
    congr 1
    refine List.any_eq_true.mpr ⟨rowN n x, List.mem_map_of_mem hx, ?_⟩
    rw [rows_eqv hn x (hl x hx) x (hl x hx)]
    simp
  rw [e]
  rfl
end Mir

set_option maxRecDepth 100000
/-! MirP7: loops that look for the first; breaches of rising; parts of texts; a sign set. -/
namespace Mir
open PySem
def flO {γ : Type} : Option D → Fl Unit γ
  | none => .nx ()
  | some v => .rt v
theorem seqF_flO {β γ : Type} (o : Option D) (k : Unit → M (Fl β γ)) : seqF (pure (flO o) : M (Fl Unit γ)) k = (match o with | none => k () | some v => pure (.rt v) : M (Fl β γ)) := by
  cases o with
  | none => exact seqF_nx _ _
  | some v => exact seqF_rt _ _
theorem forF_find {α γ : Type} {f : D → Unit → M (Fl Unit Unit)} {h : α → D} {g : α → Option D} : ∀ {xs : List α}, (∀ x ∈ xs, f (h x) () = pure (flO (g x))) → forF (γ := γ) f (xs.map h) () = pure (flO (xs.findSome? g))
  | [], _ => rfl
  | x :: r, q => by
    rw [List.map_cons, forF, q x List.mem_cons_self, pure_bind, List.findSome?_cons]
    cases hg : g x with
    | none => exact forF_find fun y hy => q y (List.mem_cons_of_mem _ hy)
    | some v => rfl
/-- a loop that ands -/
theorem forF_and {α γ : Type} {f : D → D → M (Fl D D)} {h : α → D} {g : α → Bool} : ∀ {xs : List α} {b : Bool}, (∀ x ∈ xs, ∀ b, f (h x) (.bool b) = pure (.nx (.bool (b && g x)))) → forF (γ := γ) f (xs.map h) (.bool b) = pure (.nx (.bool (b && xs.all g)))
  | [], b, _ => by
    rw [List.all_nil, Bool.and_true]
    rfl
  | x :: r, b, q => by
    rw [List.map_cons, forF, q x List.mem_cons_self, pure_bind]
    show forF f (r.map h) (.bool (b && g x)) = _
    rw [forF_and fun y hy => q y (List.mem_cons_of_mem _ hy), List.all_cons, Bool.and_assoc]
/-! ### breaches -/
def brc (n : Nat) (f : Nat → Bool) (i s : Nat) : Bool := !(bitAt n i s) && (f i && !(f (i ^^^ 2 ^ (n - 1 - s))))
def noB (n : Nat) (f : Nat → Bool) : Bool := (List.range (2 ^ n)).all fun i => (List.range n).all fun s => !(brc n f i s)
def brV (n : Nat) (f : Nat → Bool) : Option D := (List.range (2 ^ n)).findSome? fun i => (List.range n).findSome? fun s => if brc n f i s = true then some (.tuple [rowN n i, nD s]) else none
theorem noB_get {n : Nat} {f : Nat → Bool} (h : noB n f = true) {i s : Nat} (hi : i < 2 ^ n) (hs : s < n) : brc n f i s = false := by
  have := List.all_eq_true.mp (List.all_eq_true.mp h i (List.mem_range.mpr hi)) s (List.mem_range.mpr hs)
  simpa using this
theorem brV_none {n : Nat} {f : Nat → Bool} (h : noB n f = true) : brV n f = none := by
  unfold brV
  rw [List.findSome?_eq_none_iff]
  intro i hi
  rw [List.findSome?_eq_none_iff]
  intro s hs
  rw [noB_get h (List.mem_range.mp hi) (List.mem_range.mp hs), if_neg Bool.false_ne_true]
theorem brV_some {n : Nat} {f : Nat → Bool} (h : noB n f = false) : ∃ i s, i < 2 ^ n ∧ s < n ∧ brc n f i s = true ∧ brV n f = some (.tuple [rowN n i, nD s]) := by
  cases hv : brV n f with
  | none =>
    have e : noB n f = true := by
      unfold brV at hv
      rw [List.findSome?_eq_none_iff] at hv
      refine List.all_eq_true.mpr fun i hi => List.all_eq_true.mpr fun s hs => ?_
      have h1 := hv i hi
      rw [List.findSome?_eq_none_iff] at h1
      have h2 := h1 s hs
      cases hb : brc n f i s
      · rfl
      · rw [hb, if_pos rfl] at h2
        cases h2
    rw [e] at h
    cases h
  | some d =>
    unfold brV at hv
    obtain ⟨i, hi, h1⟩ := List.exists_of_findSome?_eq_some hv
    obtain ⟨s, hs, h2⟩ := List.exists_of_findSome?_eq_some h1
    cases hb : brc n f i s
    · rw [hb, if_neg Bool.false_ne_true] at h2
      cases h2
    · rw [hb, if_pos rfl] at h2
      cases h2
      exact ⟨i, s, List.mem_range.mp hi, List.mem_range.mp hs, hb, rfl⟩
theorem noB_mono {n : Nat} {f : Nat → Bool} : noB n f = true ↔ mono n f := by
  constructor
  · intro h i hi j
    induction j using Nat.strongRecOn with
    | ind j ih =>
      intro hj hs hf
      by_cases e : i = j
      · exact e ▸ hf
      · obtain ⟨k, hk, hb, hs'⟩ := sub_next hj hi hs e
        have hlt := flip_lt hj hk
        have h1 := ih (j ^^^ 2 ^ k) (Nat.lt_of_le_of_ne (sub_le hlt (flip_sub hb)) flip_ne) hlt hs' hf
        have h2 := noB_get h hlt (show n - 1 - k < n by omega)
        unfold brc bitAt at h2
        rw [show n - 1 - (n - 1 - k) = k by omega, bit_flip, hb, h1, xor_back] at h2
        simpa using h2
  · intro hf
    refine List.all_eq_true.mpr fun i hi => List.all_eq_true.mpr fun s hs => ?_
    have hi := List.mem_range.mp hi
    have hs := List.mem_range.mp hs
    have hk : n - 1 - s < n := by omega
    unfold brc bitAt
    cases hb : i.testBit (n - 1 - s)
    · cases hv : f i
      · simp
      · rw [hf i hi _ (flip_lt hi hk) (sub_iff.mpr fun m _ hm => ?_) hv]
        · simp
        · rw [bit_flip]
          by_cases e : n - 1 - s = m
          · rw [← e, hb] at hm; cases hm
          · simp [e, hm]
    · simp
theorem noB_pairs (n : Nat) (f : Nat → Bool) : ((List.range (2 ^ n)).all fun i => !((List.range (2 ^ n)).any fun j => (!(i == j) && sub n i j) && (f i && !(f j)))) = noB n f := by
  rw [Bool.eq_iff_iff, noB_mono, List.all_eq_true]
  constructor
  · intro h i hi j hj hs hf
    have := h i (List.mem_range.mpr hi)
    rw [Bool.not_eq_true'] at this
    have := List.any_eq_false.mp this j (List.mem_range.mpr hj)
    by_cases e : i = j
    · exact e ▸ hf
    · rw [hs, hf, beq_eq_false_iff_ne.mpr e] at this
      simpa using this
  · intro h i hi
    rw [Bool.not_eq_true']
    refine List.any_eq_false.mpr fun j hj => ?_
    have h1 := h i (List.mem_range.mp hi) j (List.mem_range.mp hj)
    cases hs : sub n i j
    · simp
    · cases hf : f i
      · simp
      · rw [h1 hs hf]; simp
theorem noB_congr {n : Nat} {f g : Nat → Bool} (h : ∀ i < 2 ^ n, f i = g i) : noB n f = noB n g := by
  rw [Bool.eq_iff_iff, noB_mono, noB_mono]
  constructor
  · intro hf i hi j hj hs hg
    rw [← h j hj]
    exact hf i hi j hj hs (by rw [h i hi]; exact hg)
  · intro hf i hi j hj hs hg
    rw [h j hj]
    exact hf i hi j hj hs (by rw [← h i hi]; exact hg)
/-! ### parts of texts -/
theorem cutL_map {α β : Type} (f : α → β) (xs : List α) (lo hi : Option Int) : cutL (xs.map f) lo hi = (cutL xs lo hi).map f := by
  unfold cutL
  rw [List.length_map, ← List.map_drop, ← List.map_take]
theorem dSl_txt {l : List Bool} (h : l.length ≤ 1000000) (lo hi : Option Int) : dSl (txtD l) lo hi = some (txtD (cutL l lo hi)) := by
  have h3 : lim = 16777216 := rfl
  show (if (txt l).length ≤ lim then some (PyData.str ⟨(cutL (txt l).cps.toList lo hi).toArray⟩) else none) = _
  rw [txt_len, if_pos (by omega), txt_cps, cutL_map]
  rfl
theorem dAdd_txt {a b : List Bool} (h : a.length + b.length ≤ 1000000) : dAdd (txtD a) (txtD b) = some (txtD (a ++ b)) := by
  have h3 : lim = 16777216 := rfl
  show (if (txt a).length + (txt b).length ≤ lim then some (PyData.str (txt a ++ txt b)) else none) = _
  rw [txt_len, txt_len, if_pos (by omega)]
  congr 2
  refine PySem.W.str_of_cps ?_
  rw [app_cps, txt_cps, txt_cps, txt_cps, List.map_append]
theorem dEq_ch0 (b : Bool) : dEq (chD b) (.str "0") = some (.bool (!b)) := by cases b <;> rfl
theorem chD_txt (b : Bool) : chD b = txtD [b] := by cases b <;> rfl
/-- one answer changed -/
def turnL (l : List Bool) (k : Nat) : List Bool := l.take k ++ ([!(l.getD k false)] ++ l.drop (k + 1))
theorem turnL_len {l : List Bool} {k : Nat} (hk : k < l.length) : (turnL l k).length = l.length := by
  unfold turnL
  simp only [List.length_append, List.length_take, List.length_drop, List.length_singleton]
  omega
/-! ### a sign set -/
def insN (n s : Nat) (v : Bool) (i : Nat) : Nat := (i / 2 ^ (n - 1 - s)) * 2 ^ (n - 1 - s + 1) + (if v then 2 ^ (n - 1 - s) else 0) + i % 2 ^ (n - 1 - s)
theorem ins_facts : ∀ n < 7, ∀ s < n, ∀ v : Bool, ((List.range (2 ^ n)).filter fun i => bitAt n i s == v) = (List.range (2 ^ (n - 1))).map (insN n s v) := by decide +kernel
theorem ins_sub : ∀ n < 7, ∀ s < n, ∀ v : Bool, ∀ i < 2 ^ (n - 1), ∀ j < 2 ^ (n - 1), sub (n - 1) i j = true → sub n (insN n s v i) (insN n s v j) = true := by decide +kernel
theorem ins_lt {n s i : Nat} {v : Bool} (hn : n ≤ 6) (hs : s < n) (hi : i < 2 ^ (n - 1)) : insN n s v i < 2 ^ n := by
  have h : insN n s v i ∈ (List.range (2 ^ n)).filter fun i => bitAt n i s == v := by
    rw [ins_facts n (by omega) s hs v]
    exact List.mem_map_of_mem (List.mem_range.mpr hi)
  exact List.mem_range.mp (List.mem_filter.mp h).1
def setF (n s : Nat) (v : Bool) (f : Nat → Bool) (i : Nat) : Bool := f (insN n s v i)
theorem setF_mono {n s : Nat} {v : Bool} {f : Nat → Bool} (hn : n ≤ 6) (hs : s < n) (hf : mono n f) : mono (n - 1) (setF n s v f) := fun i hi j hj h hv =>
  hf _ (ins_lt hn hs hi) _ (ins_lt hn hs hj) (ins_sub n (by omega) s hs v i hi j hj h) hv
end Mir

set_option maxRecDepth 100000
/-! MirP8: signs that count, bare functions; texts at large. -/
namespace Mir
open PySem
/-! ### signs that count -/
def cnt (n : Nat) (f : Nat → Bool) (s : Nat) : Bool := (List.range (2 ^ n)).any fun i => f i != f (i ^^^ 2 ^ (n - 1 - s))
def cntS (n : Nat) (f : Nat → Bool) : List Nat := (List.range n).filter (cnt n f)
theorem cnt_no {n : Nat} {f : Nat → Bool} {s i : Nat} (h : cnt n f s = false) (hi : i < 2 ^ n) : f (i ^^^ 2 ^ (n - 1 - s)) = f i := by
  have := List.any_eq_false.mp h i (List.mem_range.mpr hi)
  cases h1 : f i <;> cases h2 : f (i ^^^ 2 ^ (n - 1 - s)) <;> simp_all
theorem ins_flip : ∀ n < 7, ∀ s < n, ∀ j < 2 ^ (n - 1), insN n s true j = insN n s false j ^^^ 2 ^ (n - 1 - s) := by decide +kernel
theorem ins_all : ∀ n < 7, ∀ s < n, ∀ i < 2 ^ n, (List.range (2 ^ (n - 1))).any (fun j => (i == insN n s false j) || (i == insN n s true j)) = true := by decide +kernel
theorem set_ne {n s : Nat} {f : Nat → Bool} (hn : n ≤ 6) (hs : s < n) : (tabF (n - 1) (setF n s false f) != tabF (n - 1) (setF n s true f)) = cnt n f s := by
  rw [Bool.eq_iff_iff, bne_iff_ne]
  constructor
  · intro h
    cases hc : cnt n f s
    · refine absurd (tabF_congr fun j hj => ?_) h
      unfold setF
      rw [ins_flip n (by omega) s hs j hj, cnt_no hc (ins_lt hn hs hj)]
    · rfl
  · intro h e
    obtain ⟨i, hi, h⟩ := List.any_eq_true.mp h
    have hi := List.mem_range.mp hi
    obtain ⟨j, hj, h2⟩ := List.any_eq_true.mp (ins_all n (by omega) s hs i hi)
    have hj := List.mem_range.mp hj
    have e2 : setF n s false f j = setF n s true f j := by
      rw [← tabF_get (f := setF n s false f) hj, ← tabF_get (f := setF n s true f) hj, e]
    unfold setF at e2
    rw [ins_flip n (by omega) s hs j hj] at e2 h2
    rw [Bool.or_eq_true, beq_iff_eq, beq_iff_eq] at h2
    rw [bne_iff_ne] at h
    rcases h2 with rfl | rfl
    · exact h e2
    · rw [xor_back] at h
      exact h e2.symm
/-- the row that a row of the signs C alone is, 0 at all others -/
def expN (n : Nat) (C : List Nat) (j : Nat) : Nat := ((List.range C.length).map fun p => if bitAt C.length j p then 2 ^ (n - 1 - C.getD p 0) else 0).sum
/-- what a row has at the signs C -/
def resN (n : Nat) (C : List Nat) (i : Nat) : Nat := C.foldl (fun a s => 2 * a + (if bitAt n i s then 1 else 0)) 0
def clr (n : Nat) (L : List Nat) (i : Nat) : Nat := L.foldl (fun i s => if bitAt n i s then i ^^^ 2 ^ (n - 1 - s) else i) i
theorem res_facts : ∀ n < 7, ∀ C ∈ subs (List.range n), ∀ i < 2 ^ n, resN n C i < 2 ^ C.length ∧ rowOf C.length (resN n C i) = C.map (bitAt n i) ∧ expN n C (resN n C i) = clr n ((List.range n).filter fun s => !(C.contains s)) i := by decide +kernel
theorem res_flip : ∀ n < 7, ∀ C ∈ subs (List.range n), ∀ i < 2 ^ n, ∀ p < C.length, resN n C (i ^^^ 2 ^ (n - 1 - C.getD p 0)) = resN n C i ^^^ 2 ^ (C.length - 1 - p) := by decide +kernel
theorem exp_facts : ∀ n < 7, ∀ C ∈ subs (List.range n), ∀ p < C.length, ∀ j < 2 ^ (C.length - 1), expN n C (insN C.length p false j) = expN n (C.take p ++ C.drop (p + 1)) j := by decide +kernel
theorem clr_same {n : Nat} {f : Nat → Bool} : ∀ {L : List Nat} {i : Nat}, i < 2 ^ n → (∀ s ∈ L, s < n ∧ cnt n f s = false) → f (clr n L i) = f i
  | [], _, _, _ => rfl
  | s :: L, i, hi, h => by
    have hs := h s List.mem_cons_self
    show f (clr n L (if bitAt n i s then i ^^^ 2 ^ (n - 1 - s) else i)) = f i
    by_cases hb : bitAt n i s = true
    · rw [if_pos hb, clr_same (flip_lt hi (by omega)) fun t ht => h t (List.mem_cons_of_mem _ ht), cnt_no hs.2 hi]
    · rw [if_neg hb, clr_same hi fun t ht => h t (List.mem_cons_of_mem _ ht)]
/-- the bare function -/
def bareF (n : Nat) (f : Nat → Bool) (C : List Nat) (j : Nat) : Bool := f (expN n C j)
theorem cntS_sub (n : Nat) (f : Nat → Bool) : (cntS n f).Sublist (List.range n) := List.filter_sublist
theorem cntS_len (n : Nat) (f : Nat → Bool) : (cntS n f).length ≤ n := by
  have := (cntS_sub n f).length_le
  rwa [List.length_range] at this
theorem bare_at {n : Nat} {f : Nat → Bool} {i : Nat} (hn : n ≤ 6) (hi : i < 2 ^ n) : bareF n f (cntS n f) (resN n (cntS n f) i) = f i := by
  have h := res_facts n (by omega) _ (mem_subs (cntS_sub n f)) i hi
  unfold bareF
  rw [h.2.2, clr_same (f := f) hi]
  intro s hs
  obtain ⟨h1, h2⟩ := List.mem_filter.mp hs
  have h1 := List.mem_range.mp h1
  refine ⟨h1, ?_⟩
  cases hc : cnt n f s
  · rfl
  · have : s ∈ cntS n f := List.mem_filter.mpr ⟨List.mem_range.mpr h1, hc⟩
    rw [List.contains_iff_mem.mpr this] at h2
    cases h2
theorem bare_cnt {n : Nat} {f : Nat → Bool} {p : Nat} (hn : n ≤ 6) (hp : p < (cntS n f).length) : cnt (cntS n f).length (bareF n f (cntS n f)) p = true := by
  have hg : (cntS n f).getD p 0 = (cntS n f)[p] := by rw [List.getD_eq_getElem?_getD, List.getElem?_eq_getElem hp]; rfl
  have hm := List.mem_filter.mp (List.getElem_mem hp)
  obtain ⟨i, hi, h⟩ := List.any_eq_true.mp hm.2
  have hi := List.mem_range.mp hi
  have hs := List.mem_range.mp hm.1
  have hsub := mem_subs (cntS_sub n f)
  refine List.any_eq_true.mpr ⟨resN n (cntS n f) i, List.mem_range.mpr (res_facts n (by omega) _ hsub i hi).1, ?_⟩
  rw [← res_flip n (by omega) _ hsub i hi p hp, hg, bare_at hn hi, bare_at hn (flip_lt hi (by omega))]
  exact h
theorem bare_all {n : Nat} {f : Nat → Bool} (hn : n ≤ 6) : cntS (cntS n f).length (bareF n f (cntS n f)) = List.range (cntS n f).length :=
  List.filter_eq_self.mpr fun p hp => bare_cnt hn (List.mem_range.mp hp)
/-- the signs below s and those of C -/
def Rs (n : Nat) (C : List Nat) (s : Nat) : List Nat := (List.range n).filter fun t => decide (t < s) || C.contains t
theorem rs_facts : ∀ n < 7, ∀ C ∈ subs (List.range n), Rs n C n = List.range n ∧ Rs n C 0 = C ∧ ∀ s < n, (C.contains s = true → Rs n C (s + 1) = Rs n C s) ∧ (C.contains s = false → (Rs n C (s + 1)).take s ++ (Rs n C (s + 1)).drop (s + 1) = Rs n C s ∧ s < (Rs n C (s + 1)).length ∧ (Rs n C s).length = (Rs n C (s + 1)).length - 1) := by decide +kernel
theorem exp_id : ∀ n < 7, ∀ j < 2 ^ n, expN n (List.range n) j = j := by decide +kernel
theorem Rs_sub (n : Nat) (C : List Nat) (s : Nat) : (Rs n C s).Sublist (List.range n) := List.filter_sublist
theorem Rs_len (n : Nat) (C : List Nat) (s : Nat) : (Rs n C s).length ≤ n := by
  have := (Rs_sub n C s).length_le
  rwa [List.length_range] at this
/-! ### texts -/
theorem txt_inj {a b : List Bool} (h : txt a = txt b) : a = b := by
  have h2 : (txt a).cps.toList = (txt b).cps.toList := by rw [h]
  rw [txt_cps, txt_cps] at h2
  refine (List.map_inj_right (f := fun b : Bool => if b then 49 else 48) ?_).mp h2
  intro x y e
  cases x <;> cases y <;> simp_all
theorem eqv_txt (a b : List Bool) : PyData.eqv (txtD a) (txtD b) = (a == b) := by
  show (txt a == txt b) = (a == b)
  by_cases h : a = b
  · subst h; simp
  · rw [beq_eq_false_iff_ne.mpr h, beq_eq_false_iff_ne.mpr fun e => h (txt_inj e)]
theorem dNe_txt (a b : List Bool) : dNe (txtD a) (txtD b) = some (.bool (a != b)) := by
  show (if min (PyData.depth (txtD a)) (PyData.depth (txtD b)) ≤ 60 then some (PyData.bool (!PyData.eqv (txtD a) (txtD b))) else none) = _
  rw [if_pos (by show min 0 0 ≤ 60; decide), eqv_txt]
  rfl
theorem dEq_txt (a b : List Bool) : dEq (txtD a) (txtD b) = some (.bool (a == b)) := by
  show (if min (PyData.depth (txtD a)) (PyData.depth (txtD b)) ≤ 60 then some (PyData.bool (PyData.eqv (txtD a) (txtD b))) else none) = _
  rw [if_pos (by show min 0 0 ≤ 60; decide), eqv_txt]
theorem str_app_len (x y : Str) : (x ++ y).length = x.length + y.length := by
  have e : ∀ s : Str, s.length = s.cps.toList.length := fun s => by simp [Str.length]
  rw [e, e, e, app_cps, List.length_append]
theorem dAdd_str {x y : Str} (h : x.length + y.length ≤ 1000000) : dAdd (.str x) (.str y) = some (.str (x ++ y)) := by
  have h3 : lim = 16777216 := rfl
  show (if x.length + y.length ≤ lim then some (PyData.str (x ++ y)) else none) = _
  rw [if_pos (by omega)]
/-! ### rows in a list -/
theorem any_rows {n x : Nat} (hn : n ≤ 6) (hx : x < 2 ^ n) : ∀ {xs : List Nat}, (∀ i ∈ xs, i < 2 ^ n) → ((xs.map (rowN n)).any fun y => PyData.eqv y (rowN n x)) = xs.contains x
  | [], _ => rfl
  | y :: r, h => by
    rw [List.map_cons, List.any_cons, List.contains_cons, rows_eqv hn y (h y List.mem_cons_self) x hx, any_rows hn hx fun i hi => h i (List.mem_cons_of_mem _ hi)]
    congr 1
    by_cases e : y = x
    · subst e; simp
    · rw [beq_eq_false_iff_ne.mpr e, beq_eq_false_iff_ne.mpr fun h => e h.symm]
theorem dIn_rowL {n x : Nat} (hn : n ≤ 6) (hx : x < 2 ^ n) {xs : List Nat} (h : ∀ i ∈ xs, i < 2 ^ n) : dIn (rowN n x) (.list (xs.map (rowN n))) = some (.bool (xs.contains x)) := by
  show (if min (PyData.depthAll (xs.map (rowN n))) (rowN n x).depth ≤ 60 then some ((xs.map (rowN n)).any fun y => PyData.eqv y (rowN n x)) else none).map _ = _
  rw [if_pos (Nat.le_trans (Nat.min_le_right _ _) (Nat.le_trans (rowN_ok n x).2 (by decide))), any_rows hn hx h]
  rfl
theorem dIn_rowT {n x : Nat} (hn : n ≤ 6) (hx : x < 2 ^ n) {xs : List Nat} (h : ∀ i ∈ xs, i < 2 ^ n) : dIn (rowN n x) (rowsT n xs) = some (.bool (xs.contains x)) := by
  show (if min (PyData.depthAll (xs.map (rowN n))) (rowN n x).depth ≤ 60 then some ((xs.map (rowN n)).any fun y => PyData.eqv y (rowN n x)) else none).map _ = _
  rw [if_pos (Nat.le_trans (Nat.min_le_right _ _) (Nat.le_trans (rowN_ok n x).2 (by decide))), any_rows hn hx h]
  rfl
theorem contains_self {n : Nat} {ps : List Nat} (h1 : ps.Pairwise (· < ·)) (h2 : ∀ p ∈ ps, p < 2 ^ n) : (List.range (2 ^ n)).filter (fun i => ps.contains i) = ps :=
  grow_eq (List.pairwise_lt_range.filter _) h1 fun i => by
    rw [List.mem_filter, List.mem_range, List.contains_iff_mem]
    exact ⟨fun h => h.2, fun h => ⟨h2 i h, h⟩⟩
theorem cutL_len {α : Type} (xs : List α) (lo hi : Option Int) : (cutL xs lo hi).length ≤ xs.length := by
  unfold cutL
  rw [List.length_take, List.length_drop]
  omega
theorem slc_to {l : List Bool} (h : l.length ≤ 1000000) (z : Int) : slc (pure (txtD l)) (pure none) (optI (pure (.int z))) = pure (txtD (cutL l none (some z))) := by
  show lft (dSl (txtD l) none (some z)) = _
  rw [dSl_txt h]
  rfl
theorem slc_from {l : List Bool} (h : l.length ≤ 1000000) (z : Int) : slc (pure (txtD l)) (optI (pure (.int z))) (pure none) = pure (txtD (cutL l (some z) none)) := by
  show lft (dSl (txtD l) (some z) none) = _
  rw [dSl_txt h]
  rfl
theorem any_nats {x : Nat} : ∀ {xs : List Nat}, ((xs.map nD).any fun y => PyData.eqv y (nD x)) = xs.contains x
  | [] => rfl
  | y :: r => by
    rw [List.map_cons, List.any_cons, List.contains_cons, any_nats]
    congr 1
    have : PyData.eqv (nD y) (nD x) = decide ((y : Int) = (x : Int)) := rfl
    rw [this]
    by_cases e : x = y
    · subst e; simp
    · rw [beq_eq_false_iff_ne.mpr e, decide_eq_false (by omega)]
theorem dNotIn_nats (x : Nat) (xs : List Nat) : dNotIn (nD x) (.list (xs.map nD)) = some (.bool (!(xs.contains x))) := by
  show (if min (PyData.depthAll (xs.map nD)) (PyData.depth (nD x)) ≤ 60 then some ((xs.map nD).any fun y => PyData.eqv y (nD x)) else none).map _ = _
  have h60 : min (PyData.depthAll (xs.map nD)) (PyData.depth (nD x)) ≤ 60 := Nat.le_trans (Nat.min_le_right _ _) (show 0 ≤ 60 by decide)
  rw [if_pos h60, any_nats]
  rfl
/-- a loop by the turn -/
theorem forF_from {τ γ : Type} {f : D → τ → M (Fl τ τ)} {h : Nat → D} {g : Nat → τ} : ∀ (b a : Nat), (∀ k, a ≤ k → k < a + b → f (h k) (g k) = pure (.nx (g (k + 1)))) → forF (γ := γ) f ((List.range' a b).map h) (g a) = pure (.nx (g (a + b)))
  | 0, a, _ => rfl
  | b + 1, a, q => by
    rw [List.range'_succ, List.map_cons, forF, q a (Nat.le_refl _) (by omega), pure_bind]
    show forF f ((List.range' (a + 1) b).map h) (g (a + 1)) = _
    rw [forF_from b (a + 1) fun k h1 h2 => q k (by omega) (by omega), show a + 1 + b = a + (b + 1) by omega]
theorem forF_ix {τ γ : Type} {f : D → τ → M (Fl τ τ)} {h : Nat → D} {g : Nat → τ} {m : Nat} (q : ∀ k < m, f (h k) (g k) = pure (.nx (g (k + 1)))) : forF (γ := γ) f ((List.range m).map h) (g 0) = pure (.nx (g m)) := by
  have := forF_from (γ := γ) (f := f) (h := h) (g := g) m 0 fun k _ hk => q k (by omega)
  rwa [Nat.zero_add, ← List.range_eq_range'] at this
theorem cutL_mem {α : Type} {xs : List α} {lo hi : Option Int} {x : α} (h : x ∈ cutL xs lo hi) : x ∈ xs := List.mem_of_mem_drop (List.mem_of_mem_take h)
theorem filtC_none' {f : D → M (Option D)} {xs : List D} (h : ∀ x ∈ xs, f x = pure none) : filtC f xs = pure [] := by
  have := filtC_none (f := f) (h := fun x => x) (xs := xs) h
  rwa [List.map_id'] at this
end Mir

set_option maxRecDepth 100000
/-! MirP9: masks and lots of signs, in order; least ones. -/
namespace Mir
open PySem
theorem and_small : ∀ a < 64, ∀ b < 64, Builtin.bitAnd ((a : Nat) : Int) ((b : Nat) : Int) = ((a &&& b : Nat) : Int) := by decide +kernel
theorem dBand_nat {a b : Nat} (ha : a < 64) (hb : b < 64) : dBand (nD a) (nD b) = some (nD (a &&& b)) := by
  show some (PyData.int (Builtin.bitAnd (a : Int) (b : Int))) = _
  rw [and_small a ha b hb]
/-- the signs of a mask -/
def sigs (n m : Nat) : List Nat := (List.range n).filter (bitAt n m)
abbrev sg (n m : Nat) : D := sgD (sigs n m)
theorem sigs_sub (n m : Nat) : (sigs n m).Sublist (List.range n) := List.filter_sublist
theorem mask_sigs : ∀ n < 7, ∀ m < 2 ^ n, maskOf n (sigs n m) = m := by decide +kernel
theorem sigs_mask' : ∀ n < 7, ∀ S ∈ subs (List.range n), sigs n (maskOf n S) = S := by decide +kernel
theorem sigs_mask {n : Nat} {S : List Nat} (hn : n ≤ 6) (h : S.Sublist (List.range n)) : sigs n (maskOf n S) = S := sigs_mask' n (by omega) S (mem_subs h)
theorem sigs_in : ∀ n < 7, ∀ m < 2 ^ n, ∀ o < 2 ^ n, (sigs n o).all (fun s => (sigs n m).contains s) = (m &&& o == o) := by decide +kernel
def lexLt : List Nat → List Nat → Bool
  | [], [] => false
  | [], _ :: _ => true
  | _ :: _, [] => false
  | x :: xs, y :: ys => decide (x < y) || (x == y && lexLt xs ys)
def insBy (le : Nat → Nat → Bool) (m : Nat) : List Nat → List Nat
  | [] => [m]
  | x :: r => if le m x then m :: x :: r else x :: insBy le m r
def sortBy (le : Nat → Nat → Bool) : List Nat → List Nat
  | [] => []
  | x :: r => insBy le x (sortBy le r)
/-- all masks, their signs in order -/
def lexM (n : Nat) : List Nat := sortBy (fun a b => lexLt (sigs n a) (sigs n b)) (List.range (2 ^ n))
/-- all masks, the fewer signs first -/
def lotM (n : Nat) : List Nat := sortBy (fun a b => decide ((sigs n a).length < (sigs n b).length) || ((sigs n a).length == (sigs n b).length && lexLt (sigs n a) (sigs n b))) (List.range (2 ^ n))
theorem insBy_perm (le : Nat → Nat → Bool) (m : Nat) : ∀ xs, (insBy le m xs).Perm (m :: xs)
  | [] => .refl _
  | x :: r => by
    unfold insBy
    by_cases h : le m x = true
    · rw [if_pos h]
    · rw [if_neg h]
      exact ((insBy_perm le m r).cons x).trans (.swap m x r)
theorem sortBy_perm (le : Nat → Nat → Bool) : ∀ xs, (sortBy le xs).Perm xs
  | [] => .refl _
  | x :: r => (insBy_perm le x _).trans ((sortBy_perm le r).cons x)
theorem lexM_perm (n : Nat) : (lexM n).Perm (List.range (2 ^ n)) := sortBy_perm _ _
theorem lotM_perm (n : Nat) : (lotM n).Perm (List.range (2 ^ n)) := sortBy_perm _ _
theorem lexM_up : ∀ n < 7, (lexM n).Pairwise fun a b => PySem.W.dataLt (sg n b) (sg n a) = false := by decide +kernel
theorem lex_anti : ∀ n < 7, ∀ a < 2 ^ n, ∀ b < 2 ^ n, (PySem.W.dataLt (sg n a) (sg n b) || PySem.W.dataLt (sg n b) (sg n a) || a == b) = true := by decide +kernel
theorem lex_alike : ∀ n < 7, ∀ a < 2 ^ n, ∀ b < 2 ^ n, PySem.W.alike (sg n a) (sg n b) = true := by decide +kernel
theorem lotM_low : ∀ n < 7, (lotM n).Pairwise fun a b => (b == a || !(a &&& b == b)) = true := by decide +kernel
theorem range_low : ∀ n < 7, (List.range (2 ^ n)).Pairwise fun a b => (b == a || !(a &&& b == b)) = true := by decide +kernel
/-! ### least ones -/
def greedy (q : Nat → Nat → Bool) : List Nat → List Nat → List Nat
  | acc, [] => acc
  | acc, m :: r => if acc.any (fun o => q o m) then greedy q acc r else greedy q (acc ++ [m]) r
def belowB (o m : Nat) : Bool := m &&& o == o
def leastIn (xs : List Nat) (m : Nat) : Bool := !(xs.any fun o => !(o == m) && belowB o m)
theorem below_le {o m : Nat} (h : belowB o m = true) : o ≤ m := by
  rw [← eq_of_beq h]
  exact Nat.and_le_left
theorem below_trans {a b c : Nat} (h1 : belowB a b = true) (h2 : belowB b c = true) : belowB a c = true := by
  have e1 := eq_of_beq h1
  have e2 := eq_of_beq h2
  refine beq_iff_eq.mpr ?_
  rw [← e1, ← Nat.and_assoc, e2]
theorem least_ex {xs : List Nat} : ∀ o, o ∈ xs → ∃ p, p ∈ xs ∧ belowB p o = true ∧ leastIn xs p = true := by
  intro o
  induction o using Nat.strongRecOn with
  | ind o ih =>
    intro ho
    cases h : leastIn xs o
    · unfold leastIn at h
      rw [Bool.not_eq_false'] at h
      obtain ⟨p, hp, hq⟩ := List.any_eq_true.mp h
      rw [Bool.and_eq_true, Bool.not_eq_true', beq_eq_false_iff_ne] at hq
      have hlt : p < o := Nat.lt_of_le_of_ne (below_le hq.2) hq.1
      obtain ⟨r, hr, h1, h2⟩ := ih p hlt hp
      exact ⟨r, hr, below_trans h1 hq.2, h2⟩
    · exact ⟨o, ho, by unfold belowB; rw [Nat.and_self]; exact beq_self_eq_true o, h⟩
theorem greedy_go {all : List Nat} (low : all.Pairwise fun a b => (b == a || !(a &&& b == b)) = true) (nd : all.Nodup) : ∀ (xs ys : List Nat), all = ys ++ xs → greedy belowB (ys.filter (leastIn all)) xs = all.filter (leastIn all)
  | [], ys, e => by rw [e, List.append_nil]; rfl
  | m :: r, ys, e => by
    have hm : m ∈ all := by rw [e]; exact List.mem_append_right _ List.mem_cons_self
    have e2 : all = (ys ++ [m]) ++ r := by rw [e, List.append_assoc]; rfl
    have ht : ((ys.filter (leastIn all)).any fun o => belowB o m) = !(leastIn all m) := by
      rw [Bool.eq_iff_iff, List.any_eq_true, Bool.not_eq_true']
      constructor
      · rintro ⟨o, ho, hb⟩
        obtain ⟨ho1, ho2⟩ := List.mem_filter.mp ho
        unfold leastIn
        rw [Bool.not_eq_false']
        refine List.any_eq_true.mpr ⟨o, by rw [e]; exact List.mem_append_left _ ho1, ?_⟩
        rw [hb, Bool.and_true, Bool.not_eq_true', beq_eq_false_iff_ne]
        rintro rfl
        rw [e] at nd
        exact (List.nodup_append.mp nd).2.2 o ho1 o List.mem_cons_self rfl
      · intro h
        unfold leastIn at h
        rw [Bool.not_eq_false'] at h
        obtain ⟨o, ho, hq⟩ := List.any_eq_true.mp h
        rw [Bool.and_eq_true, Bool.not_eq_true', beq_eq_false_iff_ne] at hq
        obtain ⟨p, hp, h1, h2⟩ := least_ex (xs := all) o ho
        have hpm := below_trans h1 hq.2
        have hne : p ≠ m := fun z => by
          have a1 := below_le h1
          have a2 := below_le hq.2
          rw [z] at a1
          exact hq.1 (by omega)
        refine ⟨p, List.mem_filter.mpr ⟨?_, h2⟩, hpm⟩
        rw [e] at hp
        rcases List.mem_append.mp hp with hp | hp
        · exact hp
        · exfalso
          rcases List.mem_cons.mp hp with z | hp
          · exact hne z
          · rw [e] at low
            have hc := (List.pairwise_append.mp low).2.1
            have := (List.pairwise_cons.mp hc).1 p hp
            unfold belowB at hpm
            rw [hpm, Bool.not_true, Bool.or_false, beq_iff_eq] at this
            exact hne this
    rw [greedy, ht]
    cases hl : leastIn all m
    · rw [Bool.not_false, if_pos rfl]
      have : (ys ++ [m]).filter (leastIn all) = ys.filter (leastIn all) := by
        rw [List.filter_append, List.filter_cons_of_neg (by rw [hl]; exact Bool.false_ne_true), List.filter_nil, List.append_nil]
      rw [← this]
      exact greedy_go low nd r (ys ++ [m]) e2
    · rw [Bool.not_true, if_neg Bool.false_ne_true]
      have : (ys ++ [m]).filter (leastIn all) = ys.filter (leastIn all) ++ [m] := by
        rw [List.filter_append, List.filter_cons_of_pos hl, List.filter_nil]
      rw [← this]
      exact greedy_go low nd r (ys ++ [m]) e2
theorem greedy_least {all : List Nat} (low : all.Pairwise fun a b => (b == a || !(a &&& b == b)) = true) (nd : all.Nodup) : greedy belowB [] all = all.filter (leastIn all) := greedy_go low nd all [] rfl
theorem leastIn_perm {xs ys : List Nat} (h : ∀ i, i ∈ xs ↔ i ∈ ys) (m : Nat) : leastIn xs m = leastIn ys m := by
  unfold leastIn
  congr 1
  rw [Bool.eq_iff_iff, List.any_eq_true, List.any_eq_true]
  exact exists_congr fun i => and_congr_left fun _ => h i
/-- a loop that keeps what nothing kept before lets out -/
theorem forF_greedy {γ : Type} {f : D → List D → M (Fl (List D) (List D))} {h g : Nat → D} {q : Nat → Nat → Bool} (P : Nat → Prop) : ∀ {xs acc : List Nat}, acc.length + xs.length ≤ 1000000 → (∀ x ∈ acc, P x) → (∀ x ∈ xs, P x) → (∀ (x : Nat) (acc : List Nat), P x → acc.length ≤ 1000000 → (∀ y ∈ acc, P y) → f (h x) (acc.map g) = pure (.nx (if acc.any (fun o => q o x) then acc.map g else acc.map g ++ [g x]))) → forF (γ := γ) f (xs.map h) (acc.map g) = pure (.nx ((greedy q acc xs).map g))
  | [], acc, _, _, _, _ => rfl
  | x :: r, acc, hl, hp, hx, k => by
    rw [List.length_cons] at hl
    rw [List.map_cons, forF, k x acc (hx x List.mem_cons_self) (by omega) hp, pure_bind, greedy]
    cases ha : acc.any fun o => q o x
    · rw [if_neg Bool.false_ne_true, if_neg Bool.false_ne_true]
      have e : acc.map g ++ [g x] = (acc ++ [x]).map g := by rw [List.map_append]; rfl
      rw [e]
      exact forF_greedy P (by rw [List.length_append, List.length_singleton]; omega) (fun y hy => by
        rcases List.mem_append.mp hy with hy | hy
        · exact hp y hy
        · rw [List.mem_singleton.mp hy]; exact hx x List.mem_cons_self) (fun y hy => hx y (List.mem_cons_of_mem _ hy)) k
    · rw [if_pos rfl, if_pos rfl]
      exact forF_greedy P (by omega) hp (fun y hy => hx y (List.mem_cons_of_mem _ hy)) k
/-! ### lots of signs in order -/
theorem sorted_sigs {n : Nat} (hn : n ≤ 6) {xs : List Nat} {p : Nat → Bool} (h : xs.Perm ((lexM n).filter p)) : isort (xs.map (sg n)) = ((lexM n).filter p).map (sg n) := by
  have lt : ∀ i ∈ (lexM n).filter p, i < 2 ^ n := fun i hi => List.mem_range.mp ((lexM_perm n).mem_iff.mp (List.mem_filter.mp hi).1)
  refine isort_eq_of (h.map _) ?_ ?_
  · rw [List.pairwise_map]
    refine List.Pairwise.imp ?_ ((lexM_up n (by omega)).filter p)
    intro a b hab
    unfold leD
    rw [hab]
    rfl
  · intro a ha b hb h1 h2
    obtain ⟨i, hi, rfl⟩ := List.mem_map.mp ha
    obtain ⟨j, hj, rfl⟩ := List.mem_map.mp hb
    have := lex_anti n (by omega) i (lt i hi) j (lt j hj)
    unfold leD at h1 h2
    rw [Bool.not_eq_true'] at h1 h2
    rw [h1, h2, Bool.false_or, Bool.false_or, beq_iff_eq] at this
    rw [this]
theorem sg_depth (n m : Nat) : (sg n m).depth ≤ 1 := (sgD_ok _).2
theorem sortOk_sigs {n : Nat} (hn : n ≤ 6) {xs : List Nat} (h : ∀ i ∈ xs, i < 2 ^ n ∧ sigs n i ≠ []) : sortOk (xs.map (sg n)) = true := by
  have dp : PyData.depthAll (xs.map (sg n)) ≤ 1 := depthAll_map fun x _ => sg_depth n x
  unfold sortOk
  rw [Bool.and_eq_true, Bool.and_eq_true]
  refine ⟨⟨?_, decide_eq_true (by omega)⟩, ?_⟩
  · rw [List.all_eq_true]
    intro a ha
    rw [List.all_eq_true]
    intro b hb
    obtain ⟨i, hi, rfl⟩ := List.mem_map.mp ha
    obtain ⟨j, hj, rfl⟩ := List.mem_map.mp hb
    exact lex_alike n (by omega) i (h i hi).1 j (h j hj).1
  · rw [Bool.or_eq_true, Bool.or_eq_true]
    refine .inl (.inl ?_)
    rw [List.all_eq_true]
    intro a ha
    obtain ⟨i, hi, rfl⟩ := List.mem_map.mp ha
    have hne := (h i hi).2
    show _ = true
    unfold sg sgD
    cases hs : sigs n i with
    | nil => exact absurd hs hne
    | cons s r => rfl
end Mir

set_option maxRecDepth 100000
/-! MirP9a: orders of signs, functions led by them, weights of signs. -/
namespace Mir
open PySem
theorem perm_of : ∀ {xs ys : List Nat}, xs.Nodup → (∀ x ∈ xs, x ∈ ys) → ys.length ≤ xs.length → xs.Perm ys
  | [], ys, _, _, h => by rw [List.length_eq_zero_iff.mp (Nat.le_zero.mp h)]
  | x :: xs, ys, hn, hm, hl => by
    have hn := List.nodup_cons.mp hn
    have hx : x ∈ ys := hm x List.mem_cons_self
    have ih := perm_of (xs := xs) (ys := ys.erase x) hn.2 (fun z hz => (List.mem_erase_of_ne (fun e : z = x => hn.1 (e ▸ hz))).mpr (hm z (List.mem_cons_of_mem _ hz))) (by rw [List.length_erase_of_mem hx]; simp at hl; omega)
    exact (ih.cons x).trans (List.perm_cons_erase hx).symm
/-- an order of n signs -/
structure IsP (n : Nat) (os : List Nat) : Prop where
  len : os.length = n
  all : ∀ s < n, s ∈ os
theorem IsP.perm {n : Nat} {os : List Nat} (h : IsP n os) : (List.range n).Perm os := perm_of List.nodup_range (fun x hx => h.all x (List.mem_range.mp hx)) (by rw [h.len, List.length_range]; exact Nat.le_refl _)
theorem IsP.nodup {n : Nat} {os : List Nat} (h : IsP n os) : os.Nodup := h.perm.nodup_iff.mp List.nodup_range
theorem IsP.lt {n : Nat} {os : List Nat} (h : IsP n os) {s : Nat} (hs : s ∈ os) : s < n := List.mem_range.mp (h.perm.mem_iff.mpr hs)
theorem IsP.range (n : Nat) : IsP n (List.range n) := ⟨List.length_range, fun s h => List.mem_range.mpr h⟩
theorem getD_mem {os : List Nat} {k : Nat} (h : k < os.length) : os[k]? = some (os.getD k 0) := by
  rw [List.getD_eq_getElem?_getD, List.getElem?_eq_getElem h]; rfl
theorem IsP.get {n : Nat} {os : List Nat} (h : IsP n os) {t : Nat} (ht : t < n) : os.getD t 0 < n := h.lt (List.mem_of_getElem? (getD_mem (by rw [h.len]; exact ht)))
def swapL (os : List Nat) (a t : Nat) : List Nat := (os.set a (os.getD t 0)).set t (os.getD a 0)
theorem IsP.swap {n a t : Nat} {os : List Nat} (h : IsP n os) (ha : a < n) (ht : t < n) : IsP n (swapL os a t) := by
  refine ⟨by unfold swapL; rw [List.length_set, List.length_set, h.len], fun s hs => ?_⟩
  obtain ⟨k, hk, e⟩ := List.getElem_of_mem (h.all s hs)
  have e : os[k]? = some s := by rw [List.getElem?_eq_getElem hk, e]
  have ha' : a < os.length := by rw [h.len]; exact ha
  have ht' : t < os.length := by rw [h.len]; exact ht
  have got : ∀ m, (swapL os a t)[m]? = some s → s ∈ swapL os a t := fun m q => List.mem_of_getElem? q
  unfold swapL at got ⊢
  by_cases h1 : k = a
  · refine got t ?_
    rw [List.getElem?_set_self (by rw [List.length_set]; exact ht'), ← getD_mem ha', ← h1]
    exact e
  · by_cases h2 : k = t
    · by_cases h3 : a = t
      · exact absurd (h2.trans h3.symm) h1
      · refine got a ?_
        rw [List.getElem?_set_ne (Ne.symm h3), List.getElem?_set_self ha', ← getD_mem ht', ← h2]
        exact e
    · refine got k ?_
      rw [List.getElem?_set_ne (Ne.symm h2), List.getElem?_set_ne (Ne.symm h1)]
      exact e
def posOf (os : List Nat) (s : Nat) : Nat := os.findIdx (· == s)
theorem pos_get {os : List Nat} {s : Nat} (h : s ∈ os) : os[posOf os s]? = some s ∧ posOf os s < os.length := by
  have hl : posOf os s < os.length := List.findIdx_lt_length_of_exists ⟨s, h, by simp⟩
  have e := List.findIdx_getElem (p := (· == s)) (xs := os) (w := hl)
  have e : os[posOf os s] = s := eq_of_beq e
  refine ⟨?_, hl⟩
  rw [List.getElem?_eq_getElem hl]
  exact congrArg some (by simpa using e)
theorem nodup_ix' {os : List Nat} (h : os.Nodup) {i j x : Nat} (a : os[i]? = some x) (b : os[j]? = some x) : i = j := by
  obtain ⟨h1, e1⟩ := List.getElem?_eq_some_iff.mp a
  obtain ⟨h2, e2⟩ := List.getElem?_eq_some_iff.mp b
  exact (List.getElem_inj h).mp (e1.trans e2.symm)
def numB (bs : List Bool) : Nat := bs.foldl (fun a b => 2 * a + (if b then 1 else 0)) 0
theorem num_row : ∀ n < 7, ∀ k < 2 ^ n, numB (rowOf n k) = k := by decide +kernel
theorem row_num {bs : List Bool} (h : bs.length ≤ 6) : rowOf bs.length (numB bs) = bs ∧ numB bs < 2 ^ bs.length := by
  obtain ⟨i, hi, e⟩ := row_of_bits bs
  have q := num_row bs.length (by omega) i hi
  rw [e] at q
  rw [q]
  exact ⟨e, hi⟩
theorem row_ext {n i j : Nat} (hn : n ≤ 6) (hi : i < 2 ^ n) (hj : j < 2 ^ n) (h : ∀ s < n, bitAt n i s = bitAt n j s) : i = j := by
  have e : rowOf n i = rowOf n j := List.map_congr_left fun s hs => h s (List.mem_range.mp hs)
  rw [← num_row n (by omega) i hi, e, num_row n (by omega) j hj]
def ledN (n : Nat) (os : List Nat) (i : Nat) : Nat := numB ((List.range n).map fun s => bitAt n i (posOf os s))
theorem led_row {n : Nat} (hn : n ≤ 6) (os : List Nat) (i : Nat) : rowOf n (ledN n os i) = ((List.range n).map fun s => bitAt n i (posOf os s)) ∧ ledN n os i < 2 ^ n := by
  have q := row_num (bs := (List.range n).map fun s => bitAt n i (posOf os s)) (by simp; omega)
  rw [List.length_map, List.length_range] at q
  exact q
theorem led_bit {n : Nat} (hn : n ≤ 6) (os : List Nat) (i : Nat) {s : Nat} (hs : s < n) : bitAt n (ledN n os i) s = bitAt n i (posOf os s) :=
  List.map_inj_left.mp (led_row hn os i).1 s (List.mem_range.mpr hs)
theorem led_flip {n : Nat} (hn : n ≤ 6) {os : List Nat} (h : IsP n os) {i t : Nat} (hi : i < 2 ^ n) (ht : t < n) : ledN n os (i ^^^ 2 ^ (n - 1 - t)) = ledN n os i ^^^ 2 ^ (n - 1 - os.getD t 0) := by
  have ho := h.get ht
  refine row_ext hn (led_row hn _ _).2 (flip_lt (led_row hn _ _).2 (by omega)) fun s hs => ?_
  rw [led_bit hn os _ hs]
  obtain ⟨p1, p2⟩ := pos_get (h.all s hs)
  rw [h.len] at p2
  unfold bitAt
  rw [bit_flip, bit_flip]
  have e := led_bit hn os i hs
  unfold bitAt at e
  rw [e]
  congr 1
  rw [decide_eq_decide]
  constructor
  · intro q
    have q' : t = posOf os s := by omega
    have e2 : os[t]? = some (os.getD t 0) := getD_mem (by rw [h.len]; exact ht)
    rw [q', p1] at e2
    have e3 := Option.some.inj e2
    rw [q', ← e3]
  · intro q
    have q' : os.getD t 0 = s := by omega
    have e2 : os[t]? = some (os.getD t 0) := getD_mem (by rw [h.len]; exact ht)
    rw [q'] at e2
    have := nodup_ix' h.nodup e2 p1
    omega
theorem led_inj {n : Nat} (hn : n ≤ 6) {os : List Nat} (h : IsP n os) {i j : Nat} (hi : i < 2 ^ n) (hj : j < 2 ^ n) (e : ledN n os i = ledN n os j) : i = j := by
  refine row_ext hn hi hj fun p hp => ?_
  have e2 : os[p]? = some (os.getD p 0) := getD_mem (by rw [h.len]; exact hp)
  obtain ⟨p1, p2⟩ := pos_get (List.mem_of_getElem? e2)
  have ep := nodup_ix' h.nodup e2 p1
  have hs := h.get hp
  have a := led_bit hn os i hs
  have b := led_bit hn os j hs
  rw [← ep] at a b
  rw [← a, ← b, e]
theorem led_perm {n : Nat} (hn : n ≤ 6) {os : List Nat} (h : IsP n os) : ((List.range (2 ^ n)).map (ledN n os)).Perm (List.range (2 ^ n)) := by
  refine perm_of ?_ (fun x hx => ?_) (by simp)
  · refine List.pairwise_map.mpr (List.Pairwise.imp_of_mem (fun {a b} ha hb hne e => ?_) List.nodup_range)
    exact hne (led_inj hn h (List.mem_range.mp ha) (List.mem_range.mp hb) e)
  · obtain ⟨i, _, rfl⟩ := List.mem_map.mp hx
    exact List.mem_range.mpr (led_row hn os i).2
/-- how many rows see the sign -/
def wt (n : Nat) (f : Nat → Bool) (s : Nat) : Nat := (List.range (2 ^ n)).countP fun i => f (i ^^^ 2 ^ (n - 1 - s)) != f i
theorem wt_led {n : Nat} (hn : n ≤ 6) {os : List Nat} (h : IsP n os) (f : Nat → Bool) {t : Nat} (ht : t < n) : wt n (fun i => f (ledN n os i)) t = wt n f (os.getD t 0) := by
  unfold wt
  rw [← (led_perm hn h).countP_eq (fun i => f (i ^^^ 2 ^ (n - 1 - os.getD t 0)) != f i), List.countP_map]
  refine List.countP_congr fun i hi => ?_
  have hi := List.mem_range.mp hi
  simp only [Function.comp_apply, led_flip hn h hi ht]
def unl (n : Nat) (f : Nat → Bool) (s : Nat) : Nat := (List.range (2 ^ (n - 1))).countP fun j => setF n s false f j != setF n s true f j
theorem wt_half {n : Nat} (hn : n ≤ 6) (f : Nat → Bool) {s : Nat} (hs : s < n) : wt n f s = 2 * unl n f s := by
  have a := ins_facts n (by omega) s hs
  unfold wt unl
  rw [List.countP_eq_countP_filter_add (q := fun i => bitAt n i s == false)]
  have e2 : (List.range (2 ^ n)).filter (fun i => !(bitAt n i s == false)) = (List.range (2 ^ n)).filter fun i => bitAt n i s == true := List.filter_congr fun i _ => by cases bitAt n i s <;> rfl
  rw [e2, a false, a true, List.countP_map, List.countP_map]
  have c1 : (List.range (2 ^ (n - 1))).countP ((fun i => f (i ^^^ 2 ^ (n - 1 - s)) != f i) ∘ insN n s false) = (List.range (2 ^ (n - 1))).countP fun j => setF n s false f j != setF n s true f j := List.countP_congr fun j hj => by
    have q := ins_flip n (by omega) s hs j (List.mem_range.mp hj)
    simp only [Function.comp_apply, setF, ← q]
    cases f (insN n s true j) <;> cases f (insN n s false j) <;> rfl
  have c2 : (List.range (2 ^ (n - 1))).countP ((fun i => f (i ^^^ 2 ^ (n - 1 - s)) != f i) ∘ insN n s true) = (List.range (2 ^ (n - 1))).countP fun j => setF n s false f j != setF n s true f j := List.countP_congr fun j hj => by
    have q := ins_flip n (by omega) s hs j (List.mem_range.mp hj)
    simp only [Function.comp_apply, setF, q, xor_back]
  rw [c1, c2]
  omega
theorem wt_pos {n : Nat} (f : Nat → Bool) (s : Nat) : decide (0 < wt n f s) = cnt n f s := by
  rw [Bool.eq_iff_iff, decide_eq_true_eq]
  unfold wt cnt
  rw [List.countP_pos_iff, List.any_eq_true]
  constructor
  · rintro ⟨i, hi, h⟩
    refine ⟨i, hi, ?_⟩
    rw [bne_comm]; exact h
  · rintro ⟨i, hi, h⟩
    refine ⟨i, hi, ?_⟩
    rw [bne_comm]; exact h
theorem wt_le (n : Nat) (f : Nat → Bool) (s : Nat) : wt n f s ≤ 2 ^ n := by
  unfold wt
  have := List.countP_le_length (l := List.range (2 ^ n)) (p := fun i => f (i ^^^ 2 ^ (n - 1 - s)) != f i)
  rwa [List.length_range] at this
theorem sum_add' {β : Type} (f g : β → Nat) : ∀ ys : List β, (ys.map fun y => f y + g y).sum = (ys.map f).sum + (ys.map g).sum
  | [] => rfl
  | y :: ys => by
    simp only [List.map_cons, List.sum_cons, sum_add' f g ys]
    omega
theorem sum_swap {α β : Type} (p : α → β → Bool) (ys : List β) : ∀ xs : List α, (xs.map fun x => ys.countP (p x)).sum = (ys.map fun y => xs.countP fun x => p x y).sum
  | [] => by
    induction ys with
    | nil => rfl
    | cons y ys ih => simpa using ih
  | x :: xs => by
    have e : (ys.map fun y => (x :: xs).countP fun x => p x y) = ys.map fun y => (xs.countP fun x => p x y) + (if p x y = true then 1 else 0) := List.map_congr_left fun y _ => List.countP_cons ..
    have e2 : ∀ zs : List β, (zs.map fun y => if p x y = true then 1 else 0).sum = zs.countP (p x) := fun zs => by
      induction zs with
      | nil => rfl
      | cons z zs ih =>
        rw [List.map_cons, List.sum_cons, ih, List.countP_cons]
        omega
    rw [e, sum_add', e2, List.map_cons, List.sum_cons, sum_swap p ys xs]
    omega
theorem sum_cast {α : Type} (f : α → Nat) : ∀ xs : List α, (xs.map fun x => ((f x : Nat) : Int)).sum = ((xs.map f).sum : Nat)
  | [] => rfl
  | x :: xs => by
    simp only [List.map_cons, List.sum_cons, sum_cast f xs]
    omega
theorem dSum_nats {α : Type} (f : α → Nat) (xs : List α) : dSum (.list (xs.map fun x => nD (f x))) = some (nD (xs.map f).sum) := by
  rw [dSum_list (fun x => ((f x : Nat) : Int)) xs, sum_cast]
theorem setAt_nat {os : List Nat} {a v : Nat} (h : a < os.length) : setAt (os.map nD) (nD a) (nD v) = some ((os.set a v).map nD) := by
  show (ixN (os.map nD).length ((a : Nat) : Int)).map (fun k => (os.map nD).set k (nD v)) = _
  rw [List.length_map, ixN_nat h, Option.map_some, List.map_set]
theorem nats_ix {os : List Nat} {t : Nat} (h : t < os.length) : dIx (.list (os.map nD)) (nD t) = some (nD (os.getD t 0)) := dIx_list (by rw [List.getElem?_map, getD_mem h]; rfl)
theorem leD_nats (a b : Nat) : leD (nD a) (nD b) = decide (a ≤ b) := by
  show (!PySem.W.dataLt (.int (b : Int)) (.int (a : Int))) = _
  have : PySem.W.dataLt (.int (b : Int)) (.int (a : Int)) = decide ((b : Int) < (a : Int)) := by
    have := dLt_int (b : Int) (a : Int)
    unfold dLt at this
    rw [cmpOk_int] at this
    simpa using this
  rw [this]
  by_cases h : a ≤ b
  · rw [decide_eq_true h, decide_eq_false (by omega)]; rfl
  · rw [decide_eq_false h, decide_eq_true (by omega)]; rfl
theorem nD_anti {a b : D} {xs : List Nat} (ha : a ∈ xs.map nD) (hb : b ∈ xs.map nD) (h1 : leD a b = true) (h2 : leD b a = true) : a = b := by
  obtain ⟨i, _, rfl⟩ := List.mem_map.mp ha
  obtain ⟨j, _, rfl⟩ := List.mem_map.mp hb
  rw [leD_nats, decide_eq_true_eq] at h1 h2
  rw [Nat.le_antisymm h1 h2]
theorem isort_map_nats : ∀ xs : List Nat, ∃ ys : List Nat, isort (xs.map nD) = ys.map nD ∧ ys.Perm xs ∧ ys.Pairwise (· ≤ ·)
  | [] => ⟨[], rfl, .nil, .nil⟩
  | x :: xs => by
    obtain ⟨ys, e, p, u⟩ := isort_map_nats xs
    have ins' : ∀ zs : List Nat, zs.Pairwise (· ≤ ·) → ∃ ws : List Nat, ins (nD x) (zs.map nD) = ws.map nD ∧ ws.Perm (x :: zs) ∧ ws.Pairwise (· ≤ ·) := fun zs => by
      induction zs with
      | nil => intro _; exact ⟨[x], rfl, .refl _, by simp⟩
      | cons z zs ih =>
        intro hz
        have hz := List.pairwise_cons.mp hz
        by_cases h : x ≤ z
        · refine ⟨x :: z :: zs, ?_, .refl _, List.pairwise_cons.mpr ⟨fun w hw => ?_, List.pairwise_cons.mpr hz⟩⟩
          · show (if leD (nD x) (nD z) = true then _ else _) = _
            rw [leD_nats, decide_eq_true h, if_pos rfl]
            rfl
          · rcases List.mem_cons.mp hw with e | hw
            · omega
            · have := hz.1 w hw; omega
        · obtain ⟨ws, e, p, u⟩ := ih hz.2
          refine ⟨z :: ws, ?_, (p.cons z).trans (.swap x z zs), List.pairwise_cons.mpr ⟨fun w hw => ?_, u⟩⟩
          · show (if leD (nD x) (nD z) = true then _ else nD z :: ins (nD x) (zs.map nD)) = _
            rw [leD_nats, decide_eq_false h, e]
            rfl
          · rcases List.mem_cons.mp (p.mem_iff.mp hw) with e | hw
            · omega
            · exact hz.1 w hw
    obtain ⟨ws, e2, p2, u2⟩ := ins' ys u
    refine ⟨ws, ?_, p2.trans (p.cons x), u2⟩
    show ins (nD x) (isort (xs.map nD)) = _
    rw [e, e2]
theorem up_unique : ∀ {xs ys : List Nat}, xs.Perm ys → xs.Pairwise (· ≤ ·) → ys.Pairwise (· ≤ ·) → xs = ys := fun p hx hy =>
  p.eq_of_pairwise (le := (· ≤ ·)) (fun a b _ _ h1 h2 => Nat.le_antisymm h1 h2) hx hy
theorem sortOk_nats (xs : List Nat) : sortOk (xs.map nD) = true := by
  have q : ∀ x y : Nat, PySem.W.alike (nD x) (nD y) = true := fun x y => by
    have := cmpOk_int (x : Int) (y : Int)
    unfold cmpOk at this
    simp only [Bool.and_eq_true] at this
    exact this.1.1
  unfold sortOk
  simp only [Bool.and_eq_true, Bool.or_eq_true]
  refine ⟨⟨?_, ?_⟩, ?_⟩
  · rw [List.all_eq_true]
    intro a ha
    rw [List.all_eq_true]
    intro b hb
    obtain ⟨i, _, rfl⟩ := List.mem_map.mp ha
    obtain ⟨j, _, rfl⟩ := List.mem_map.mp hb
    exact q i j
  · rw [decide_eq_true_eq]
    have := depthAll_ints (xs.map fun n : Nat => (n : Int))
    rw [List.map_map] at this
    exact Nat.le_trans this (by decide)
  · refine .inl (.inr ?_)
    rw [List.all_eq_true]
    intro a ha
    obtain ⟨i, _, rfl⟩ := List.mem_map.mp ha
    rfl
end Mir

set_option maxRecDepth 100000
/-! MirP9b: sums, characters, waves. -/
namespace Mir
open PySem
def S (m : Nat) (F : Nat → Int) : Int := ((List.range m).map F).sum
theorem S_zero (F : Nat → Int) : S 0 F = 0 := rfl
theorem S_succ (m : Nat) (F : Nat → Int) : S (m + 1) F = S m F + F m := by
  unfold S
  rw [List.range_succ, List.map_append, List.sum_append]
  simp
theorem S_congr {F G : Nat → Int} : ∀ {m : Nat}, (∀ i < m, F i = G i) → S m F = S m G
  | 0, _ => rfl
  | m + 1, h => by rw [S_succ, S_succ, S_congr fun i hi => h i (by omega), h m (by omega)]
theorem S_add (F G : Nat → Int) : ∀ m, S m (fun i => F i + G i) = S m F + S m G
  | 0 => rfl
  | m + 1 => by rw [S_succ, S_succ, S_succ, S_add F G m]; omega
theorem S_mul (c : Int) (F : Nat → Int) : ∀ m, S m (fun i => c * F i) = c * S m F
  | 0 => by rw [S_zero, S_zero, Int.mul_zero]
  | m + 1 => by rw [S_succ, S_succ, S_mul c F m, Int.mul_add]
theorem S_nought : ∀ m, S m (fun _ => 0) = 0
  | 0 => rfl
  | m + 1 => by rw [S_succ, S_nought m]; rfl
theorem S_neg (F : Nat → Int) : ∀ m, S m (fun i => 0 - F i) = 0 - S m F
  | 0 => rfl
  | m + 1 => by rw [S_succ, S_succ, S_neg F m]; omega
theorem S_comm (F : Nat → Nat → Int) (k : Nat) : ∀ m, S m (fun i => S k (F i)) = S k fun j => S m fun i => F i j
  | 0 => by
    rw [S_zero]
    exact (S_nought k).symm
  | m + 1 => by
    rw [S_succ, S_comm F k m, ← S_add]
    exact S_congr fun j _ => (S_succ m fun i => F i j).symm
theorem S_cat (F : Nat → Int) (a : Nat) : ∀ b, S (a + b) F = S a F + S b fun i => F (a + i)
  | 0 => by rw [Nat.add_zero, S_zero]; omega
  | b + 1 => by rw [← Nat.add_assoc, S_succ, S_cat F a b, S_succ]; omega
theorem S_delta (F : Nat → Int) {x : Nat} : ∀ {m : Nat}, S m (fun i => if i = x then F i else 0) = if x < m then F x else 0
  | 0 => rfl
  | m + 1 => by
    rw [S_succ, S_delta F]
    by_cases h : m = x
    · rw [if_pos h, if_neg (by omega), if_pos (by omega), h]; omega
    · rw [if_neg h]
      by_cases h2 : x < m
      · rw [if_pos h2, if_pos (by omega)]; omega
      · rw [if_neg h2, if_neg (by omega)]; rfl
theorem sum_permI {xs ys : List Int} (p : xs.Perm ys) : xs.sum = ys.sum := by
  induction p with
  | nil => rfl
  | cons x _ ih => rw [List.sum_cons, List.sum_cons, ih]
  | swap x y l => simp only [List.sum_cons]; omega
  | trans _ _ a b => exact a.trans b
theorem xor_lt' {n i d : Nat} (hi : i < 2 ^ n) (hd : d < 2 ^ n) : i ^^^ d < 2 ^ n := Nat.xor_lt_two_pow hi hd
theorem perm_xor {n d : Nat} (hd : d < 2 ^ n) : ((List.range (2 ^ n)).map (· ^^^ d)).Perm (List.range (2 ^ n)) := by
  have sub : ∀ {xs ys : List Nat}, xs.Nodup → (∀ x ∈ xs, x ∈ ys) → ys.length ≤ xs.length → xs.Perm ys := by
    intro xs
    induction xs with
    | nil => intro ys _ _ h; rw [List.length_eq_zero_iff.mp (Nat.le_zero.mp h)]
    | cons x xs ih =>
      intro ys hn hm hl
      have hn := List.nodup_cons.mp hn
      have hx : x ∈ ys := hm x List.mem_cons_self
      have q := ih (ys := ys.erase x) hn.2 (fun z hz => (List.mem_erase_of_ne (fun e : z = x => hn.1 (e ▸ hz))).mpr (hm z (List.mem_cons_of_mem _ hz))) (by rw [List.length_erase_of_mem hx]; simp at hl; omega)
      exact (q.cons x).trans (List.perm_cons_erase hx).symm
  refine sub ?_ (fun x hx => ?_) (by simp)
  · refine List.pairwise_map.mpr (List.Pairwise.imp (fun {a b} hne e => hne ?_) List.nodup_range)
    have := congrArg (· ^^^ d) e
    simpa only [xor_back] using this
  · obtain ⟨i, hi, rfl⟩ := List.mem_map.mp hx
    exact List.mem_range.mpr (xor_lt' (List.mem_range.mp hi) hd)
theorem S_xor {n d : Nat} (hd : d < 2 ^ n) (F : Nat → Int) : S (2 ^ n) (fun i => F (i ^^^ d)) = S (2 ^ n) F := by
  have := sum_permI ((perm_xor hd).map F)
  rw [List.map_map] at this
  exact this
theorem S_bound {F : Nat → Int} : ∀ {m : Nat}, (∀ i < m, -1 ≤ F i ∧ F i ≤ 1) → -(m : Int) ≤ S m F ∧ S m F ≤ m
  | 0, _ => by rw [S_zero]; omega
  | m + 1, h => by
    have a := S_bound (F := F) (m := m) fun i hi => h i (by omega)
    have b := h m (by omega)
    rw [S_succ]
    omega
/-! ### characters -/
def chi : Nat → Nat → Nat → Int
  | 0, _, _ => 1
  | k + 1, t, r => (if t.testBit k && r.testBit k then -1 else 1) * chi k t r
theorem chi_comm (t r : Nat) : ∀ k, chi k t r = chi k r t
  | 0 => rfl
  | k + 1 => by rw [chi, chi, chi_comm t r k, Bool.and_comm]
theorem chi_congr {t u r : Nat} : ∀ {k : Nat}, (∀ b < k, t.testBit b = u.testBit b) → chi k t r = chi k u r
  | 0, _ => rfl
  | k + 1, h => by rw [chi, chi, chi_congr fun b hb => h b (by omega), h k (by omega)]
theorem chi_xor (t u r : Nat) : ∀ k, chi k (t ^^^ u) r = chi k t r * chi k u r
  | 0 => rfl
  | k + 1 => by
    rw [chi, chi, chi, chi_xor t u r k, Nat.testBit_xor]
    generalize chi k t r = x
    generalize chi k u r = y
    cases t.testBit k <;> cases u.testBit k <;> cases r.testBit k <;> simp [Int.neg_mul, Int.mul_neg]
theorem chi_sq (t r : Nat) : ∀ k, chi k t r * chi k t r = 1
  | 0 => rfl
  | k + 1 => by
    have ih := chi_sq t r k
    rw [chi]
    generalize chi k t r = x at *
    cases (t.testBit k && r.testBit k) <;> simp [ih, Int.neg_mul, Int.mul_neg]
theorem chi_sum : ∀ n < 7, ∀ x < 2 ^ n, S (2 ^ n) (fun j => chi n j x) = if x = 0 then 2 ^ n else 0 := by decide +kernel
theorem chi_row : ∀ n < 7, ∀ i < 2 ^ n, ∀ j < 2 ^ n, chi n i j = if ((List.range n).countP fun s => bitAt n i s && bitAt n j s) % 2 = 1 then -1 else 1 := by decide +kernel
theorem chi_abs (k t r : Nat) : chi k t r = 1 ∨ chi k t r = -1 := by
  have h := chi_sq t r k
  generalize chi k t r = x at *
  have h2 : (x - 1) * (x + 1) = 0 := by rw [Int.sub_mul, Int.mul_add]; omega
  rcases Int.mul_eq_zero.mp h2 with e | e
  · exact .inl (by omega)
  · exact .inr (by omega)
/-- the wave of a -/
def W (n : Nat) (a : Nat → Int) (j : Nat) : Int := S (2 ^ n) fun i => chi n i j * a i
theorem W_congr {n : Nat} {a b : Nat → Int} (h : ∀ i < 2 ^ n, a i = b i) (j : Nat) : W n a j = W n b j := S_congr fun i hi => by rw [h i hi]
theorem W_inv {n : Nat} (hn : n ≤ 6) (a : Nat → Int) {i : Nat} (hi : i < 2 ^ n) : W n (W n a) i = 2 ^ n * a i := by
  have e : W n (W n a) i = S (2 ^ n) fun t => S (2 ^ n) fun j => a t * (if t = i then (chi n j 0) else chi n j (t ^^^ i)) := by
    rw [← S_comm]
    refine S_congr fun j _ => ?_
    rw [W, ← S_mul]
    refine S_congr fun t _ => ?_
    by_cases h : t = i
    · rw [if_pos h, h, ← Int.mul_assoc, chi_comm j i, chi_sq, Int.one_mul, ← Nat.xor_self i, chi_comm j, chi_xor, chi_sq, Int.mul_one]
    · rw [if_neg h, chi_comm j (t ^^^ i), chi_xor, chi_comm j i, ← Int.mul_assoc, Int.mul_comm (chi n i j), Int.mul_comm]
  rw [e]
  have e2 : ∀ t < 2 ^ n, S (2 ^ n) (fun j => a t * (if t = i then chi n j 0 else chi n j (t ^^^ i))) = if t = i then 2 ^ n * a t else 0 := fun t ht => by
    rw [S_mul]
    by_cases h : t = i
    · simp only [if_pos h]
      rw [chi_sum n (by omega) 0 (Nat.two_pow_pos n), if_pos rfl, Int.mul_comm]
    · simp only [if_neg h]
      rw [chi_sum n (by omega) _ (xor_lt' ht hi), if_neg (fun z => h (by have := congrArg (· ^^^ i) z; simpa only [xor_back, Nat.zero_xor] using this)), Int.mul_zero]
  rw [S_congr e2, S_delta (fun t => 2 ^ n * a t), if_pos hi]
/-- how often turned rows agree -/
def Ag (n : Nat) (a : Nat → Int) (d : Nat) : Int := S (2 ^ n) fun i => a i * a (i ^^^ d)
theorem W_auto {n : Nat} (a : Nat → Int) {j : Nat} : W n a j * W n a j = W n (Ag n a) j := by
  have e1 : W n a j * W n a j = S (2 ^ n) fun i => S (2 ^ n) fun d => chi n d j * (a i * a (i ^^^ d)) := by
    conv => lhs; lhs; unfold W
    rw [Int.mul_comm, ← S_mul]
    refine S_congr fun i hi => ?_
    conv => lhs; lhs; rw [W, ← S_xor hi]
    rw [Int.mul_comm, ← S_mul]
    refine S_congr fun d _ => ?_
    rw [chi_xor, Nat.xor_comm d i]
    have q := chi_sq i j n
    generalize chi n i j = x at *
    generalize chi n d j = y
    generalize a (i ^^^ d) = z
    have : x * a i * (y * x * z) = (x * x) * (y * (a i * z)) := by
      rw [Int.mul_assoc x, Int.mul_assoc x x]
      congr 1
      rw [Int.mul_comm y x, Int.mul_assoc x y z, ← Int.mul_assoc (a i) x, Int.mul_comm (a i) x, Int.mul_assoc x]
      congr 1
      rw [← Int.mul_assoc, Int.mul_comm (a i) y, Int.mul_assoc]
    rw [this, q, Int.one_mul]
  rw [e1, S_comm]
  unfold W
  refine S_congr fun d _ => ?_
  rw [S_mul]
  rfl
/-! ### the quick way -/
def gk (k : Nat) (a : Nat → Int) (i : Nat) : Int := S (2 ^ k) fun t => chi k t i * a (i / 2 ^ k * 2 ^ k + t)
def bf (k : Nat) (g : Nat → Int) (i : Nat) : Int := if i.testBit k = true then g (i - 2 ^ k) - g i else g i + g (i + 2 ^ k)
theorem bit_dm (i k : Nat) : i.testBit k = decide (i / 2 ^ k % 2 = 1) := Nat.testBit_eq_decide_div_mod_eq
theorem chi_up (k t i : Nat) : chi k t (2 ^ k + i) = chi k t i := by
  rw [chi_comm t, chi_comm t i]
  exact chi_congr fun b hb => Nat.testBit_two_pow_add_gt hb i
theorem gk_split (k : Nat) (a : Nat → Int) (i : Nat) : gk (k + 1) a i = S (2 ^ k) (fun t => chi k t i * a (i / 2 ^ (k + 1) * 2 ^ (k + 1) + t)) + (if i.testBit k = true then -1 else 1) * S (2 ^ k) fun t => chi k t i * a (i / 2 ^ (k + 1) * 2 ^ (k + 1) + 2 ^ k + t) := by
  unfold gk
  rw [show 2 ^ (k + 1) = 2 ^ k + 2 ^ k by rw [Nat.pow_succ]; omega, S_cat, ← S_mul]
  congr 1
  · refine S_congr fun t ht => ?_
    rw [chi, Nat.testBit_lt_two_pow ht]
    simp
  · refine S_congr fun t ht => ?_
    rw [chi, Nat.testBit_two_pow_add_eq, Nat.testBit_lt_two_pow ht, chi_comm, chi_up, chi_comm, Nat.add_assoc, Int.mul_assoc]
    simp
theorem bf_g (k : Nat) (a : Nat → Int) (i : Nat) : bf k (gk k a) i = gk (k + 1) a i := by
  have hp : 0 < 2 ^ k := Nat.two_pow_pos k
  have hd : i / 2 ^ (k + 1) = i / 2 ^ k / 2 := by rw [Nat.pow_succ, Nat.div_div_eq_div_mul]
  have hm : i / 2 ^ (k + 1) * 2 ^ (k + 1) = i / 2 ^ k / 2 * 2 * 2 ^ k := by rw [hd, Nat.pow_succ, Nat.mul_comm (2 ^ k) 2, Nat.mul_assoc]
  rw [gk_split]
  unfold bf
  by_cases h : i.testBit k = true
  · rw [if_pos h, if_pos h]
    have hq : i / 2 ^ k % 2 = 1 := by rw [bit_dm, decide_eq_true_eq] at h; exact h
    have hge : 2 ^ k ≤ i := by
      rcases Nat.lt_or_ge i (2 ^ k) with z | z
      · rw [Nat.div_eq_of_lt z] at hq; cases hq
      · exact z
    have ei : i = 2 ^ k + (i - 2 ^ k) := by omega
    have e1 : i / 2 ^ k = (i - 2 ^ k) / 2 ^ k + 1 := by
      conv => lhs; rw [ei, Nat.add_comm]
      exact Nat.add_div_right _ hp
    have e2 : i / 2 ^ k / 2 * 2 = (i - 2 ^ k) / 2 ^ k := by omega
    have e3 : gk k a (i - 2 ^ k) = S (2 ^ k) fun t => chi k t i * a (i / 2 ^ (k + 1) * 2 ^ (k + 1) + t) := by
      unfold gk
      refine S_congr fun t _ => ?_
      conv => rhs; lhs; rw [ei, chi_up]
      rw [hm, e2]
    have e4 : gk k a i = S (2 ^ k) fun t => chi k t i * a (i / 2 ^ (k + 1) * 2 ^ (k + 1) + 2 ^ k + t) := by
      unfold gk
      refine S_congr fun t _ => ?_
      rw [hm, e2]
      conv => lhs; rhs; rw [e1, Nat.succ_mul]
    rw [e3, e4]
    omega
  · rw [if_neg h, if_neg h]
    have hq : i / 2 ^ k % 2 = 0 := by
      rw [bit_dm, decide_eq_true_eq] at h
      omega
    have e1 : (i + 2 ^ k) / 2 ^ k = i / 2 ^ k + 1 := Nat.add_div_right i hp
    have e2 : i / 2 ^ k / 2 * 2 = i / 2 ^ k := by omega
    have e3 : gk k a (i + 2 ^ k) = S (2 ^ k) fun t => chi k t i * a (i / 2 ^ (k + 1) * 2 ^ (k + 1) + 2 ^ k + t) := by
      unfold gk
      refine S_congr fun t _ => ?_
      rw [Nat.add_comm i, chi_up, Nat.add_comm (2 ^ k) i, e1, hm, e2, Nat.succ_mul]
    rw [e3, Int.one_mul]
    congr 1
    unfold gk
    rw [hm, e2]
theorem gk_zero (a : Nat → Int) (i : Nat) : gk 0 a i = a i := by
  unfold gk
  rw [Nat.pow_zero, S_succ, S_zero, chi, Nat.div_one, Nat.mul_one, Nat.add_zero]
  omega
theorem gk_end {n : Nat} (a : Nat → Int) {i : Nat} (hi : i < 2 ^ n) : gk n a i = W n a i := by
  unfold gk W
  rw [Nat.div_eq_of_lt hi]
  refine S_congr fun t _ => ?_
  rw [chi_comm, Nat.zero_mul, Nat.zero_add, chi_comm]
/-! ### lists -/
theorem range_cat {α : Type} (F : Nat → α) (a b : Nat) : (List.range (a + b)).map F = (List.range a).map F ++ (List.range b).map fun i => F (a + i) := by
  rw [List.range_add, List.map_append, List.map_map]
  rfl
theorem sIx_natB (n d k : Nat) : sIx n d (some ((k : Nat) : Int)) = min k n := by
  have h0 : ¬ ((k : Int) < 0) := by omega
  show (if (k : Int) < 0 then ((k : Int) + n).toNat else min (k : Int).toNat n) = _
  simp only [if_neg h0]
  rfl
theorem cut_range {α : Type} (F : Nat → α) {N lo m : Nat} (h : lo + m ≤ N) : cutL ((List.range N).map F) (some ((lo : Nat) : Int)) (some ((lo + m : Nat) : Int)) = (List.range m).map fun r => F (lo + r) := by
  unfold cutL
  rw [sIx_natB, sIx_natB, List.length_map, List.length_range, Nat.min_eq_left h, Nat.min_eq_left (show lo ≤ N by omega), Nat.add_sub_cancel_left]
  refine List.ext_getElem? fun i => ?_
  by_cases hi : i < m
  · rw [List.getElem?_take_of_lt hi, List.getElem?_drop, List.getElem?_map, List.getElem?_map, List.getElem?_range (by omega), List.getElem?_range hi]
    rfl
  · rw [List.getElem?_take_eq_none (by omega), List.getElem?_eq_none (by simp; omega)]
theorem whileF_ix {τ γ : Type} {c : τ → M Bool} {f : τ → M (Fl τ τ)} {st : Nat → τ} : ∀ (m a fuel : Nat), m < fuel → (∀ k, a ≤ k → k < a + m → c (st k) = pure true) → c (st (a + m)) = pure false → (∀ k, a ≤ k → k < a + m → f (st k) = pure (.nx (st (k + 1)))) → whileF (γ := γ) c f fuel (st a) = pure (.nx (st (a + m)))
  | 0, a, fuel + 1, _, _, he, _ => by
    rw [Nat.add_zero] at he ⊢
    rw [whileF, he]
    rfl
  | m + 1, a, fuel + 1, hf, hc, he, hs => by
    rw [whileF, hc a (Nat.le_refl _) (by omega), pure_bind, if_pos rfl, hs a (Nat.le_refl _) (by omega), pure_bind]
    have q := whileF_ix (γ := γ) m (a + 1) fuel (by omega) (fun k h1 h2 => hc k (by omega) (by omega)) (by rw [show a + 1 + m = a + (m + 1) by omega]; exact he) fun k h1 h2 => hs k (by omega) (by omega)
    rw [show a + 1 + m = a + (m + 1) by omega] at q
    exact q
end Mir

set_option maxRecDepth 100000
/-! MirP9c: values that are fit to be bent. -/
namespace Mir
open PySem
/-- plain, its tuples short, at most k deep -/
def Fit : Nat → D → Prop
  | 0, d => d.plain = true ∧ ∀ xs, d ≠ .tuple xs
  | k + 1, d => d.plain = true ∧ ∀ xs, d = .tuple xs → xs.length ≤ 1000 ∧ ∀ x ∈ xs, Fit k x
/-- what bending gives -/
def Fin1 (d : D) : Prop := d.plain = true ∧ ∀ xs, d = .tuple xs → xs.length ≤ 3000
theorem Fit.plain {k : Nat} {d : D} (h : Fit k d) : d.plain = true := by cases k <;> exact h.1
theorem Fit.int {k : Nat} (i : Int) : Fit k (.int i) := by cases k <;> exact ⟨rfl, fun xs e => by cases e⟩
theorem Fit.str {k : Nat} (i : Str) : Fit k (.str i) := by cases k <;> exact ⟨rfl, fun xs e => by cases e⟩
theorem plain_tup {xs : List D} (h : ∀ x ∈ xs, x.plain = true) : (PyData.tuple xs).plain = true := by
  rw [PyData.plain]
  have := plainAll_map (f := fun x => x) h
  rwa [List.map_id'] at this
theorem plain_lst {xs : List D} (h : ∀ x ∈ xs, x.plain = true) : (PyData.list xs).plain = true := by
  rw [PyData.plain]
  have := plainAll_map (f := fun x => x) h
  rwa [List.map_id'] at this
theorem Fit.tup {k : Nat} {xs : List D} (h : ∀ x ∈ xs, Fit k x) (hl : xs.length ≤ 1000) : Fit (k + 1) (.tuple xs) :=
  ⟨plain_tup fun x hx => (h x hx).plain, fun ys e => by cases e; exact ⟨hl, h⟩⟩
theorem Fin1.tup {xs : List D} (h : ∀ x ∈ xs, x.plain = true) (hl : xs.length ≤ 3000) : Fin1 (.tuple xs) := ⟨plain_tup h, fun ys e => by cases e; exact hl⟩
theorem Fin1.lst {xs : List D} (h : ∀ x ∈ xs, x.plain = true) : Fin1 (.list xs) := ⟨plain_lst h, fun ys e => by cases e⟩
def okB (d : D) : Bool := d.plain && match d with | .tuple ys => decide (ys.length ≤ 3000) | _ => true
theorem pick_all {xs : List D} (h : xs.all okB = true) {x : D} (hx : x ∈ xs) : Fin1 x := by
  have q := List.all_eq_true.mp h x hx
  unfold okB at q
  have q := Bool.and_eq_true_iff.mp q
  refine ⟨q.1, fun ys e => ?_⟩
  subst e
  exact of_decide_eq_true q.2
theorem dNeg_int (i : Int) : dNeg (.int i) = some (.int (-i)) := rfl
theorem dEq_tnil (d : D) : dEq d (.tuple []) = some (.bool (PyData.eqv d (.tuple []))) := by
  unfold dEq
  rw [if_pos (Nat.le_trans (Nat.min_le_right _ _) (by decide))]
theorem eqv_nil : PyData.eqv (.tuple []) (.tuple []) = true := rfl
theorem eqv_cons (x : D) (r : List D) : PyData.eqv (.tuple (x :: r)) (.tuple []) = false := rfl
theorem isTup_no {d : D} (h : ∀ xs, d ≠ .tuple xs) : dIsi .tuple d = some (.bool false) := by
  cases d <;> first | rfl | exact absurd rfl (h _)
theorem isTup_yes (xs : List D) : dIsi .tuple (.tuple xs) = some (.bool true) := rfl
theorem slT_to (xs : List D) (z : Int) : slc (pure (.tuple xs)) (pure none) (optI (pure (.int z))) = pure (.tuple (cutL xs none (some z))) := rfl
theorem slT_from (xs : List D) (z : Int) : slc (pure (.tuple xs)) (optI (pure (.int z))) (pure none) = pure (.tuple (cutL xs (some z) none)) := rfl
theorem slL_to (xs : List D) (z : Int) : slc (pure (.list xs)) (pure none) (optI (pure (.int z))) = pure (.list (cutL xs none (some z))) := rfl
theorem slL_from (xs : List D) (z : Int) : slc (pure (.list xs)) (optI (pure (.int z))) (pure none) = pure (.list (cutL xs (some z) none)) := rfl
theorem dListL_tup (xs : List D) : dListL (.tuple xs) = some xs := rfl
theorem dListL_lst (xs : List D) : dListL (.list xs) = some xs := rfl
theorem dRev_tup (xs : List D) : dRev (.tuple xs) = some (.tuple xs.reverse) := rfl
end Mir

set_option maxRecDepth 100000
/-! MirP9d: the least, the greatest of integers; pairs of signs and an answer, in order. -/
namespace Mir
open PySem
theorem mnD_ints : ∀ (ns : List Int) (n : Int), mnD (.int n) (ns.map PyData.int) = .int (ns.foldl min n)
  | [], _ => rfl
  | m :: r, n => by
    have e : mnD (.int n) ((m :: r).map PyData.int) = mnD (if PySem.W.dataLt (.int m) (.int n) then .int m else .int n) (r.map PyData.int) := rfl
    rw [e, PySem.W.dataLt_int]
    by_cases h : m < n
    · rw [if_pos (by simpa using h), mnD_ints r m, List.foldl_cons, Int.min_eq_right (Int.le_of_lt h)]
    · rw [if_neg (by simpa using h), mnD_ints r n, List.foldl_cons, Int.min_eq_left (Int.not_lt.mp h)]
theorem dMin_ints (n : Int) (ns : List Int) : dMin (.list ((n :: ns).map PyData.int)) = some (.int (ns.foldl min n)) := by
  show (if alikeB ((n :: ns).map PyData.int) && decide (PyData.depthAll ((n :: ns).map PyData.int) ≤ 60) then some (mnD (.int n) (ns.map PyData.int)) else none) = _
  have h := depthAll_ints (n :: ns)
  rw [alikeB_ints, decide_eq_true (by omega), mnD_ints]
  rfl
theorem foldl_min_is : ∀ (ns : List Int) (n v : Int), (v = n ∨ v ∈ ns) → v ≤ n → (∀ x ∈ ns, v ≤ x) → ns.foldl min n = v
  | [], n, v, h, _, _ => (h.resolve_right (fun z => nomatch z)).symm
  | m :: r, n, v, h, h1, h2 => by
    rw [List.foldl_cons]
    have hm := h2 m List.mem_cons_self
    refine foldl_min_is r (min n m) v ?_ (by omega) fun x hx => h2 x (List.mem_cons_of_mem _ hx)
    rcases h with h | h
    · exact .inl (by omega)
    · rcases List.mem_cons.mp h with h | h
      · exact .inl (by omega)
      · exact .inr h
theorem foldl_max_is : ∀ (ns : List Int) (n v : Int), (v = n ∨ v ∈ ns) → n ≤ v → (∀ x ∈ ns, x ≤ v) → ns.foldl max n = v
  | [], n, v, h, _, _ => (h.resolve_right (fun z => nomatch z)).symm
  | m :: r, n, v, h, h1, h2 => by
    rw [List.foldl_cons]
    have hm := h2 m List.mem_cons_self
    refine foldl_max_is r (max n m) v ?_ (by omega) fun x hx => h2 x (List.mem_cons_of_mem _ hx)
    rcases h with h | h
    · exact .inl (by omega)
    · rcases List.mem_cons.mp h with h | h
      · exact .inl (by omega)
      · exact .inr h
theorem dMin_is {xs : List Int} {v : Int} (hv : v ∈ xs) (h : ∀ x ∈ xs, v ≤ x) : dMin (.list (xs.map PyData.int)) = some (.int v) := by
  cases xs with
  | nil => cases hv
  | cons n ns => rw [dMin_ints, foldl_min_is ns n v (List.mem_cons.mp hv) (h n List.mem_cons_self) fun x hx => h x (List.mem_cons_of_mem _ hx)]
theorem dMax_is {xs : List Int} {v : Int} (hv : v ∈ xs) (h : ∀ x ∈ xs, x ≤ v) : dMax (.list (xs.map PyData.int)) = some (.int v) := by
  cases xs with
  | nil => cases hv
  | cons n ns => rw [dMax_ints, foldl_max_is ns n v (List.mem_cons.mp hv) (h n List.mem_cons_self) fun x hx => h x (List.mem_cons_of_mem _ hx)]
/-! ### pairs -/
def pr (n k : Nat) : D := .tuple [sg n (k / 2), nD (k % 2)]
def prUp (n : Nat) : List Nat := (lexM n).flatMap fun m => [2 * m, 2 * m + 1]
theorem prUp_up : ∀ n < 7, (prUp n).Pairwise fun a b => (PySem.W.dataLt (pr n a) (pr n b) && !(PySem.W.dataLt (pr n b) (pr n a))) = true := by decide +kernel
theorem prUp_nodup : ∀ n < 7, (prUp n).Nodup := by decide +kernel
theorem mem_prUp {n k : Nat} : k ∈ prUp n ↔ k < 2 * 2 ^ n := by
  unfold prUp
  rw [List.mem_flatMap]
  constructor
  · intro ⟨m, hm, hk⟩
    have hm := List.mem_range.mp ((lexM_perm n).mem_iff.mp hm)
    simp only [List.mem_cons, List.not_mem_nil, or_false] at hk
    omega
  · intro h
    refine ⟨k / 2, (lexM_perm n).mem_iff.mpr (List.mem_range.mpr (by omega)), ?_⟩
    simp only [List.mem_cons, List.not_mem_nil, or_false]
    omega
theorem pair_all {α : Type} {R : α → α → Prop} (sym : ∀ a b, R a b → R b a) (self : ∀ a, R a a) : ∀ {xs : List α}, xs.Pairwise R → ∀ a ∈ xs, ∀ b ∈ xs, R a b
  | [], _, a, ha, _, _ => nomatch ha
  | x :: xs, h, a, ha, b, hb => by
    obtain ⟨h1, h2⟩ := List.pairwise_cons.mp h
    rcases List.mem_cons.mp ha with e | ha <;> rcases List.mem_cons.mp hb with e2 | hb
    · rw [e, e2]; exact self x
    · rw [e]; exact h1 b hb
    · rw [e2]; exact sym _ _ (h1 a ha)
    · exact pair_all sym self h2 a ha b hb
theorem pr_anti {n : Nat} (hn : n ≤ 6) {a b : Nat} (ha : a < 2 * 2 ^ n) (hb : b < 2 * 2 ^ n) (h1 : leD (pr n a) (pr n b) = true) (h2 : leD (pr n b) (pr n a) = true) : a = b := by
  have q : a = b ∨ ¬ (leD (pr n a) (pr n b) = true ∧ leD (pr n b) (pr n a) = true) := by
    refine pair_all (R := fun a b => a = b ∨ ¬ (leD (pr n a) (pr n b) = true ∧ leD (pr n b) (pr n a) = true)) (fun a b h => ?_) (fun a => .inl rfl) (List.Pairwise.imp (fun {a b} hab => ?_) (prUp_up n (by omega))) a (mem_prUp.mpr ha) b (mem_prUp.mpr hb)
    · rcases h with e | h
      · exact .inl e.symm
      · exact .inr fun z => h ⟨z.2, z.1⟩
    · refine .inr fun z => ?_
      have := z.2
      unfold leD at this
      rw [(Bool.and_eq_true_iff.mp hab).1] at this
      cases this
  exact q.resolve_right fun z => z ⟨h1, h2⟩
theorem sorted_pr {n : Nat} (hn : n ≤ 6) {xs : List Nat} {p : Nat → Bool} (h : xs.Perm ((prUp n).filter p)) : isort (xs.map (pr n)) = ((prUp n).filter p).map (pr n) := by
  refine isort_eq_of (h.map _) ?_ ?_
  · rw [List.pairwise_map]
    refine List.Pairwise.imp ?_ ((prUp_up n (by omega)).filter p)
    intro a b hab
    unfold leD
    exact (Bool.and_eq_true_iff.mp hab).2
  · intro a ha b hb h1 h2
    obtain ⟨i, hi, rfl⟩ := List.mem_map.mp ha
    obtain ⟨j, hj, rfl⟩ := List.mem_map.mp hb
    rw [pr_anti hn (mem_prUp.mp (List.mem_filter.mp hi).1) (mem_prUp.mp (List.mem_filter.mp hj).1) h1 h2]
theorem pr_ok (n k : Nat) : Ok 2 (pr n k) := by
  have h1 := sgD_ok (sigs n (k / 2))
  refine ⟨?_, ?_⟩
  · show (PyData.tuple [sg n (k / 2), nD (k % 2)]).plain = true
    rw [PyData.plain, PyData.plainAll, PyData.plainAll, PyData.plainAll, h1.1]
    rfl
  · show (PyData.tuple [sg n (k / 2), nD (k % 2)]).depth ≤ 2
    rw [PyData.depth, PyData.depthAll, PyData.depthAll, PyData.depthAll]
    have := sg_depth n (k / 2)
    have e : (nD (k % 2)).depth = 0 := rfl
    omega
theorem sortOk_pr {n : Nat} (hn : n ≤ 6) {xs : List Nat} (h : ∀ i ∈ xs, i < 2 * 2 ^ n) : sortOk (xs.map (pr n)) = true := by
  have dp : PyData.depthAll (xs.map (pr n)) ≤ 2 := depthAll_map fun x _ => (pr_ok n x).2
  unfold sortOk
  rw [Bool.and_eq_true, Bool.and_eq_true]
  refine ⟨⟨?_, decide_eq_true (by omega)⟩, ?_⟩
  · rw [List.all_eq_true]
    intro a ha
    rw [List.all_eq_true]
    intro b hb
    obtain ⟨i, hi, rfl⟩ := List.mem_map.mp ha
    obtain ⟨j, hj, rfl⟩ := List.mem_map.mp hb
    have q := lex_alike n (by omega) (i / 2) (by have := h i hi; omega) (j / 2) (by have := h j hj; omega)
    show PySem.W.alikeAll [sg n (i / 2), nD (i % 2)] [sg n (j / 2), nD (j % 2)] = true
    rw [PySem.W.alikeAll, q]
    rfl
  · rw [Bool.or_eq_true, Bool.or_eq_true]
    refine .inl (.inl ?_)
    rw [List.all_eq_true]
    intro a ha
    obtain ⟨i, hi, rfl⟩ := List.mem_map.mp ha
    rfl
theorem sg_eqv {n : Nat} : ∀ {a b : List Nat}, PyData.eqvAll (a.map nD) (b.map nD) = decide (a = b)
  | [], [] => rfl
  | [], _ :: _ => rfl
  | _ :: _, [] => rfl
  | x :: a, y :: b => by
    have e : PyData.eqv (nD x) (nD y) = decide ((x : Int) = (y : Int)) := rfl
    rw [List.map_cons, List.map_cons, PyData.eqvAll, sg_eqv (n := n), e, ← Bool.decide_and, decide_eq_decide, List.cons.injEq]
    constructor <;> intro ⟨h1, h2⟩ <;> exact ⟨by omega, h2⟩
end Mir

set_option maxRecDepth 100000
set_option maxHeartbeats 2000000
namespace K14
open PySem PySem.Spec PyProof.Rows L2 Mir
/-! ### the text -/
def top (i : Nat) : Stmt := PySem.Challenge.pw_truthtold_k14_whole_flat_functions_by_or.main.body.getD i (.Pass ⟨0, 0, 0, 0⟩)
def K_AND : D := .str "and"
def K_ANSWERS : D := .str "01"
def K_COUNTS : D := .tuple [.tuple [.int 0, .int 2], .tuple [.int 2, .int 8], .tuple [.int 4, .int 896]]
def K_LENGTHS : D := .tuple [.int 1, .int 2, .int 4, .int 8, .int 16, .int 32, .int 64]
def K_MOST : D := .int 6
def K_SUM : D := .str "sum"
def K_WORDS : D := .tuple [.str "and", .str "or", .str "sum"]
def L_COUNTS : List D := [.tuple [.int 0, .int 2], .tuple [.int 2, .int 8], .tuple [.int 4, .int 896]]
def L_LENGTHS : List D := [.int 1, .int 2, .int 4, .int 8, .int 16, .int 32, .int 64]
def arg1N (f : D → M (List D)) : List D → M (List D)
  | [a] => f a
  | _ => bad
structure Top (K : PySem.W.Frag) (mg : Str → Option Value) : Prop where
  d__law_cup : Df K mg "_law_cup" (top 51) ["script"]
  d__law_rows : Df K mg "_law_rows" (top 56) ["many"]
  d__law_sort : Df K mg "_law_sort" (top 54) ["value"]
  d__law_like : Df K mg "_law_like" (top 55) ["one", "other"]
  d_is_integer : Df K mg "is_integer" (top 15) ["value"]
  d_is_whole : Df K mg "is_whole" (top 16) ["value", "low", "high"]
  d_need_whole : Df K mg "need_whole" (top 17) ["value", "low", "high"]
  d_count_flat : Df K mg "count_flat" (top 49) ["many"]
  d_is_word : Df K mg "is_word" (top 19) ["value", "signs", "low", "high"]
  d_fits_function : Df K mg "fits_function" (top 20) ["value"]
  d_need_function : Df K mg "need_function" (top 21) ["value"]
  d_root_of : Df K mg "root_of" (top 37) ["whole"]
  d_folded_wave : Df K mg "folded_wave" (top 33) ["numbers"]
  d_wave_in : Df K mg "wave_in" (top 34) ["function"]
  d_is_flat_in : Df K mg "is_flat_in" (top 38) ["function"]
  d_is_flat : Df K mg "is_flat" (top 45) ["function"]
  d__law_count : Df K mg "_law_count" (top 58) ["function"]
  d__law_wave : Df K mg "_law_wave" (top 60) ["function"]
  d__law_counted_right : Df K mg "_law_counted_right" (top 64) ["many"]
  d_in_common : Df K mg "in_common" (top 40) ["one", "other"]
  d_by_order : Df K mg "by_order" (top 41) ["order", "function"]
  d_is_tuple_of : Df K mg "is_tuple_of" (top 18) ["value", "low", "high"]
  d_fits_order : Df K mg "fits_order" (top 42) ["value"]
  d_flat_by_order : Df K mg "flat_by_order" (top 47) ["order", "function"]
  d_count_in : Df K mg "count_in" (top 23) ["function"]
  d_is_sum_by : Df K mg "is_sum_by" (top 44) ["column", "number"]
  d_order_in : Df K mg "order_in" (top 43) ["function"]
  d_order_of_flat : Df K mg "order_of_flat" (top 48) ["function"]
  d__law_written_right : Df K mg "_law_written_right" (top 65) []
  d__law_roll : Df K mg "_law_roll" (top 52) ["cup", "many"]
  d__law_some : Df K mg "_law_some" (top 53) ["cup", "things"]
  d__law_flat : Df K mg "_law_flat" (top 59) ["cup", "half"]
  d_need_flat : Df K mg "need_flat" (top 39) ["function"]
  d_flat_dual : Df K mg "flat_dual" (top 46) ["function"]
  d_rows_in : Df K mg "rows_in" (top 24) ["many"]
  d_number_in : Df K mg "number_in" (top 25) ["row"]
  d_led_in : Df K mg "led_in" (top 28) ["function", "order"]
  d_led : Df K mg "led" (top 31) ["function", "order"]
  d_sign_count : Df K mg "sign_count" (top 29) ["function"]
  d_need_alike : Df K mg "need_alike" (top 22) ["function", "value"]
  d_function_by : Df K mg "function_by" (top 26) ["answers"]
  d_joined_in : Df K mg "joined_in" (top 27) ["function", "other", "word"]
  d_joined : Df K mg "joined" (top 30) ["function", "other", "word"]
  d__law_right : Df K mg "_law_right" (top 62) ["cup", "half"]
  d__law_order : Df K mg "_law_order" (top 61) ["function"]
  d__law_any_right : Df K mg "_law_any_right" (top 63) ["function"]
  d__law_function : Df K mg "_law_function" (top 57) ["cup", "most"]
  d_law : Df K mg "law" (top 66) ["script"]
  z_abs : mg "abs" = none
  z_all : mg "all" = none
  z_bool : mg "bool" = none
  z_dict : mg "dict" = none
  z_enumerate : mg "enumerate" = none
  z_int : mg "int" = none
  z_isinstance : mg "isinstance" = none
  z_len : mg "len" = none
  z_list : mg "list" = none
  z_range : mg "range" = none
  z_set : mg "set" = none
  z_sorted : mg "sorted" = none
  z_str : mg "str" = none
  z_sum : mg "sum" = none
  z_tuple : mg "tuple" = none
  z_zip : mg "zip" = none
  g_AND : GC K mg "AND" K_AND
  g_ANSWERS : GC K mg "ANSWERS" K_ANSWERS
  g_COUNTS : GC K mg "COUNTS" K_COUNTS
  g_LENGTHS : GC K mg "LENGTHS" K_LENGTHS
  g_MOST : GC K mg "MOST" K_MOST
  g_SUM : GC K mg "SUM" K_SUM
  g_WORDS : GC K mg "WORDS" K_WORDS
  t_COUNTS : GT K mg "COUNTS" L_COUNTS
  t_LENGTHS : GT K mg "LENGTHS" L_LENGTHS
theorem Cl.lift {P : Program} {w : World} {K : PySem.W.Frag} {mg : Str → Option Value} {base : Heap} {j k : Nat} {x : Str} {sp : Sp} (c : Cl P w K mg base j x sp) (h : j ≤ k) : Cl P w K mg base k x sp := by
  obtain ⟨f, fd, ps, F, r⟩ := c.ex
  exact ⟨f, fd, ps, F.mono h, r⟩
section
variable {P : Program} {w : World} {K : PySem.W.Frag} {mg : Str → Option Value} {base : Heap}
theorem sc__law_cup : FnScope ["script", "cell"] ["script"] (defScope (top 51)) := ⟨rfl, rfl, rfl, by decide +kernel, rfl, by decide +kernel, by decide +kernel⟩
def m__law_cup (a0 : D) : M (List D) := (un1 dAbs (bin dIx (bin dAdd (lstM ((pure a0) >>= fun d => lft (dListL d))) (lstM (seqM [(pure (.int 0))]))) (pure (.int 0)))) >>= fun cell_1 => (seqM [(ifM (truth (bin dGe (pure cell_1) (bin dPow (pure (.int 10)) (pure (.int 18))))) (bin dFdiv (pure cell_1) (pure (.int 73))) (pure (.int 0))), (bin dAdd (bin dMod (un1 dInt (bin dAdd (bin dMul (pure cell_1) (pure (.int 283))) (pure (.int 3907)))) (pure (.int 2077503167))) (pure (.int 167)))])
theorem c__law_cup (T : Top K mg) : Cl P w K mg base 2 "_law_cup" (spN K (arg1N m__law_cup)) := by
  have S := sc__law_cup
  refine cl_new T.d__law_cup S (fun _ => rfl) (fun f cdv A outer s H Ex hr a0 => ?_)
  show PSs (XD P w K mg base _ "_law_cup" (top 51) f cdv A outer s H Ex) _ (tN K [.val a0, .un] (m__law_cup a0))
  unfold m__law_cup
  exact n_set (i := 1) S.nd rfl (.inl rfl) (ev_call1 cd_abs rfl T.z_abs rfl (ev_ix (ev_bin od_add (ev_own (eo_list rfl rfl T.z_list (vv 0))) (ev_own (eo_lst (ea_cons ev_int ea_nil) (Nat.le_of_ble_eq_true rfl)))) ev_int)) (fun cell_1 => n_ret (eo_lst (ea_cons (ev_if (et_cmp bo_ge (od_ge hr) (vv 1) (ev_bin od_pow ev_int ev_int) rfl) (ev_bin od_fdiv (vv 1) ev_int) ev_int) (ea_cons (ev_bin od_add (ev_bin od_mod (ev_callT1 cd_int rfl T.z_int rfl (ev_bin od_add (ev_bin od_mul (vv 1) ev_int) ev_int)) ev_int) ev_int) ea_nil)) (Nat.le_of_ble_eq_true rfl)))

theorem sc__law_rows : FnScope ["many", "found", "turn", "longer", "some"] ["many"] (defScope (top 56)) := ⟨rfl, rfl, rfl, by decide +kernel, rfl, by decide +kernel, by decide +kernel⟩
def b__law_rows (a0 : D) : M (Fl Unit Unit) := ((lstM (seqM [(tupM [])])) >>= fun found_2 => (((pure a0) >>= fun d => lft (dRange1 d)) >>= fun ds => seqF (forF (τ := D) (fun d t_3 => lft (some d) >>= fun turn_4 => ((lstM (seqM [])) >>= fun longer_5 => (((pure t_3) >>= fun d => lft (dItems d)) >>= fun ds => seqF (forF (τ := D) (fun d t_6 => lft (some d) >>= fun some_7 => ((bin dAdd (pure t_6) (lstM (seqM [(bin dAdd (pure some_7) (tupM [(pure (.int 0))])), (bin dAdd (pure some_7) (tupM [(pure (.int 1))]))]))) >>= fun longer_8 => (pure (.nx longer_8)))) ds longer_5) (fun t_6 => ((pure t_6) >>= fun found_9 => (pure (.nx found_9))))))) ds found_2) (fun t_3 => ((pure t_3) >>= fun d => pure (.rt d)))))
def m__law_rows (a0 : D) : M D := runF (b__law_rows a0)
theorem c__law_rows (T : Top K mg) : Cl P w K mg base 2 "_law_rows" (spD K mg 1 (arg1 m__law_rows)) := by
  have S := sc__law_rows
  refine cl_of (k := 1) (b := fun ds => match ds with | [a0] => b__law_rows a0 | _ => bad) (ρb := fun _ => [.un, .un, .un, .un, .un]) (ρg := fun _ => []) T.d__law_rows S (fun ds hl => ?_) (fun f cdv A outer s H Ex hr A' ds hl => ?_)
  · match ds, hl with
    | [a0], _ => rfl
  · match ds, hl with
    | [a0], _ =>
      show PSs (XD P w K mg base _ "_law_rows" (top 56) f cdv A outer s H Ex) _ (tB K A' (EB mg Ex) [.val a0, .un, .un, .un, .un] (fun _ => [.un, .un, .un, .un, .un]) (fun _ => []) (b__law_rows a0))
      unfold b__law_rows
      exact (b_set (i := 1) S.nd rfl (by first | exact Or.inl rfl | exact Or.inr rfl) (ev_own (eo_lst (ea_cons (ev_tup ea_nil (Nat.le_of_ble_eq_true rfl)) ea_nil) (Nat.le_of_ble_eq_true rfl))) (fun found_2 => (b_for (ρi := fun t_3 => [.val a0, .val t_3, .un, .un, .un]) (t0 := found_2) (un := some) ownB rfl (ei_rng1 rfl T.z_range (vv 0)) (pg_name (i := 2) S.nd rfl (by first | exact Or.inl rfl | exact Or.inr rfl)) (.eq (.eq (.un (.un (.un .nil))))) (fun t_3 => (tgt_name (is := [2]) (i := 2) (by decide))) (fun t_3 turn_4 => (b_set (i := 3) S.nd rfl (by first | exact Or.inl rfl | exact Or.inr rfl) (ev_own (eo_lst ea_nil (Nat.le_of_ble_eq_true rfl))) (fun longer_5 => (b_for (ρi := fun t_6 => [.val a0, .val t_3, .val turn_4, .val t_6, .un]) (t0 := longer_5) (un := some) ownB rfl (ei_val (vv 1)) (pg_name (i := 4) S.nd rfl (by first | exact Or.inl rfl | exact Or.inr rfl)) (.eq (.eq (.eq (.eq (.un .nil))))) (fun t_6 => (tgt_name (is := [4]) (i := 4) (by decide))) (fun t_6 some_7 => (b_set (i := 3) S.nd rfl (by first | exact Or.inl rfl | exact Or.inr rfl) (ev_bin od_add (vv 3) (ev_own (eo_lst (ea_cons (ev_bin od_add (vv 4) (ev_tup (ea_cons ev_int ea_nil) (Nat.le_of_ble_eq_true rfl))) (ea_cons (ev_bin od_add (vv 4) (ev_tup (ea_cons ev_int ea_nil) (Nat.le_of_ble_eq_true rfl))) ea_nil)) (Nat.le_of_ble_eq_true rfl)))) (fun longer_8 => (b_nil (.eq (.eq (.eq (.eq (.un .nil))))))))) (fun t_6 => (b_set (i := 1) S.nd rfl (by first | exact Or.inl rfl | exact Or.inr rfl) (vv 3) (fun found_9 => (b_nil (.eq (.eq (.un (.un (.un .nil))))))))))))) (fun t_3 => (b_ret (vv 1))))))

theorem sc__law_sort : FnScope ["value"] ["value"] (defScope (top 54)) := ⟨rfl, rfl, rfl, by decide +kernel, rfl, by decide +kernel, by decide +kernel⟩
def b__law_sort (a0 : D) : M (Fl Unit Unit) := ((orT (truth (un1 dIsN (pure a0))) (truth (un1 (dIsi .bool) (pure a0)))) >>= fun t => if t = true then ((ifM (truth (un1 dIsN (pure a0))) (pure (.int 0)) (pure (.int 1))) >>= fun d => pure (.rt d)) else ((orT (truth (un1 (dIsi .int) (pure a0))) (truth (un1 (dIsi .str) (pure a0)))) >>= fun t => if t = true then ((ifM (truth (un1 (dIsi .int) (pure a0))) (pure (.int 2)) (pure (.int 3))) >>= fun d => pure (.rt d)) else ((ifM (truth (un1 (dIsi .tuple) (pure a0))) (pure (.int 4)) (ifM (truth (un1 (dIsi .list) (pure a0))) (pure (.int 5)) (pure (.int 6)))) >>= fun d => pure (.rt d))))
def m__law_sort (a0 : D) : M D := runF (b__law_sort a0)
theorem c__law_sort (T : Top K mg) : Cl P w K mg base 2 "_law_sort" (spD K mg 1 (arg1 m__law_sort)) := by
  have S := sc__law_sort
  refine cl_of (k := 1) (b := fun ds => match ds with | [a0] => b__law_sort a0 | _ => bad) (ρb := fun _ => [.un]) (ρg := fun _ => []) T.d__law_sort S (fun ds hl => ?_) (fun f cdv A outer s H Ex hr A' ds hl => ?_)
  · match ds, hl with
    | [a0], _ => rfl
  · match ds, hl with
    | [a0], _ =>
      show PSs (XD P w K mg base _ "_law_sort" (top 54) f cdv A outer s H Ex) _ (tB K A' (EB mg Ex) [.val a0] (fun _ => [.un]) (fun _ => []) (b__law_sort a0))
      unfold b__law_sort
      exact (b_if (PW.pt (ew_or (et_isN (vv 0)) (ew_or1 (et_truth (ev_isi cd_isBool rfl T.z_isinstance rfl T.z_bool rfl (vv 0)))))) (b_ret (ev_if (et_isN (vv 0)) ev_int ev_int)) (b_if (PW.pt (ew_or (et_truth (ev_isi cd_isInt rfl T.z_isinstance rfl T.z_int rfl (vv 0))) (ew_or1 (et_truth (ev_isi cd_isStr rfl T.z_isinstance rfl T.z_str rfl (vv 0)))))) (b_ret (ev_if (et_truth (ev_isi cd_isInt rfl T.z_isinstance rfl T.z_int rfl (vv 0))) ev_int ev_int)) (b_ret (ev_if (et_truth (ev_isi cd_isTuple rfl T.z_isinstance rfl T.z_tuple rfl (vv 0))) ev_int (ev_if (et_truth (ev_isi cd_isList rfl T.z_isinstance rfl T.z_list rfl (vv 0))) ev_int ev_int)))))

theorem sc__law_like : FnScope ["one", "other", "sort", "first", "second"] ["one", "other"] (defScope (top 55)) := ⟨rfl, rfl, rfl, by decide +kernel, rfl, by decide +kernel, by decide +kernel⟩
def b__law_like (m_k : D → D → M D) (a0 a1 : D) : M (Fl Unit Unit) := (((pure a1) >>= m__law_sort) >>= fun sort_10 => ((orT (truth (bin dNe ((pure a0) >>= m__law_sort) (pure sort_10))) (truth (bin dEq (pure sort_10) (pure (.int 6))))) >>= fun t => if t = true then ((pure (.bool false)) >>= fun d => pure (.rt d)) else ((truth (bin dIn (pure sort_10) (tupM [(pure (.int 4)), (pure (.int 5))]))) >>= fun t => if t = true then ((andV (bin dEq (un1 dLen (pure a0)) (un1 dLen (pure a1))) (bin dEq (lstM (((pure a0) >>= fun d => (pure a1) >>= fun e => lft (dZip d e)) >>= filtC (fun d => lft (par2 d) >>= fun t_11 => whn (notT (truth ((pure t_11.1) >>= fun a_12 => (pure t_11.2) >>= fun a_13 => m_k a_12 a_13))) (pure (.int 1))))) (lstM (seqM [])))) >>= fun d => pure (.rt d)) else ((bin dEq (pure a0) (pure a1)) >>= fun d => pure (.rt d)))))
def m__law_like : Nat → D → D → M D
  | 0, _, _ => bad
  | k + 1, a0, a1 => runF (b__law_like (m__law_like k) a0 a1)
theorem c__law_like (T : Top K mg) : ∀ k : Nat, Cl P w K mg base (k + 4) "_law_like" (spD K mg 2 (arg2 (m__law_like k)))
  | 0 => by
    have S := sc__law_like
    exact Cl.lift (j := 1) (cl_bot (m := arg2 (m__law_like 0)) T.d__law_like S (fun ds c => by cases ds with | nil => rfl | cons x ds => cases ds with | nil => rfl | cons x ds => cases ds with | nil => rfl | cons x ds => cases ds with | nil => rfl | cons x ds => rfl)) (by decide)
  | k + 1 => by
    have S := sc__law_like
    have ih := c__law_like T k
    rw [show k + 1 + 4 = (k + 4) + 1 by omega]
    refine cl_of (k := k + 4) (b := fun ds => match ds with | [a0, a1] => b__law_like (m__law_like k) a0 a1 | _ => bad) (ρb := fun _ => [.un, .un, .un, .un, .un]) (ρg := fun _ => []) T.d__law_like S (fun ds hl => ?_) (fun f cdv A outer s H Ex hr A' ds hl => ?_)
    · match ds, hl with
      | [a0, a1], _ => rfl
    · match ds, hl with
      | [a0, a1], _ =>
        show PSs (XD P w K mg base _ "_law_like" (top 55) f cdv A outer s H Ex) _ (tB K A' (EB mg Ex) [.val a0, .val a1, .un, .un, .un] (fun _ => [.un, .un, .un, .un, .un]) (fun _ => []) (b__law_like (m__law_like k) a0 a1))
        unfold b__law_like
        exact (b_set (i := 2) S.nd rfl (by first | exact Or.inl rfl | exact Or.inr rfl) (ec1 (c__law_sort T) wshB hr (vv 1)) (fun sort_10 => (b_if (PW.pt (ew_or (et_cmp bo_ne (od_ne hr) (ec1 (c__law_sort T) wshB hr (vv 0)) (vv 2) rfl) (ew_or1 (et_cmp bo_eq (od_eq hr) (vv 2) ev_int rfl)))) (b_ret ev_bl) (b_if (et_cmp bo_in (od_in hr) (vv 2) (ev_tup (ea_cons ev_int (ea_cons ev_int ea_nil)) (Nat.le_of_ble_eq_true rfl)) rfl) (b_ret (ev_and (ev_cmp (od_eq hr) (ev_call1 cd_len rfl T.z_len rfl (vv 0)) (ev_call1 cd_len rfl T.z_len rfl (vv 1)) rfl) (ev_one (ev_cmp (od_eq hr) (ev_own (eo_lcif (own := [("first", 3), ("second", 4)]) (un := par2) rfl S.nd (ei_zip rfl T.z_zip (vv 0) (vv 1)) (blkOk rfl) (fun _ _ _ _ _ => (pg_tup rfl (pgs_cons (pg_name (i := 3) S.nd rfl (by first | exact Or.inl rfl | exact Or.inr rfl)) (pgs_cons (pg_name (i := 4) S.nd rfl (by first | exact Or.inl rfl | exact Or.inr rfl)) pgs_nil)))) (tgt_par2 (is := [3, 4]) (i := 3) (j := 4) (by decide) (by decide)) (fun t_11 _ _ _ _ _ => (et_not (et_truth (ec2 ih wshN hr (vv 3) (vv 4))))) (fun t_11 _ _ _ _ _ => ev_int))) (ev_own (eo_lst ea_nil (Nat.le_of_ble_eq_true rfl))) rfl)))) (b_ret (ev_cmp (od_eq hr) (vv 0) (vv 1) rfl))))))

theorem sc_is_integer : FnScope ["value"] ["value"] (defScope (top 15)) := ⟨rfl, rfl, rfl, by decide +kernel, rfl, by decide +kernel, by decide +kernel⟩
def b_is_integer (a0 : D) : M (Fl Unit Unit) := ((andV (un1 (dIsi .int) (pure a0)) (notV (un1 (dIsi .bool) (pure a0)))) >>= fun d => pure (.rt d))
def m_is_integer (a0 : D) : M D := runF (b_is_integer a0)
theorem c_is_integer (T : Top K mg) : Cl P w K mg base 2 "is_integer" (spD K mg 1 (arg1 m_is_integer)) := by
  have S := sc_is_integer
  refine cl_of (k := 1) (b := fun ds => match ds with | [a0] => b_is_integer a0 | _ => bad) (ρb := fun _ => [.un]) (ρg := fun _ => []) T.d_is_integer S (fun ds hl => ?_) (fun f cdv A outer s H Ex hr A' ds hl => ?_)
  · match ds, hl with
    | [a0], _ => rfl
  · match ds, hl with
    | [a0], _ =>
      show PSs (XD P w K mg base _ "is_integer" (top 15) f cdv A outer s H Ex) _ (tB K A' (EB mg Ex) [.val a0] (fun _ => [.un]) (fun _ => []) (b_is_integer a0))
      unfold b_is_integer
      exact (b_ret (ev_and (ev_isi cd_isInt rfl T.z_isinstance rfl T.z_int rfl (vv 0)) (ev_one (ev_not (ev_isi cd_isBool rfl T.z_isinstance rfl T.z_bool rfl (vv 0))))))

theorem sc_is_whole : FnScope ["value", "low", "high"] ["value", "low", "high"] (defScope (top 16)) := ⟨rfl, rfl, rfl, by decide +kernel, rfl, by decide +kernel, by decide +kernel⟩
def b_is_whole (a0 a1 a2 : D) : M (Fl Unit Unit) := ((andV ((pure a0) >>= m_is_integer) (chn dLe dLe (pure a1) (pure a0) (pure a2))) >>= fun d => pure (.rt d))
def m_is_whole (a0 a1 a2 : D) : M D := runF (b_is_whole a0 a1 a2)
theorem c_is_whole (T : Top K mg) : Cl P w K mg base 4 "is_whole" (spD K mg 3 (arg3 m_is_whole)) := by
  have S := sc_is_whole
  refine cl_of (k := 3) (b := fun ds => match ds with | [a0, a1, a2] => b_is_whole a0 a1 a2 | _ => bad) (ρb := fun _ => [.un, .un, .un]) (ρg := fun _ => []) T.d_is_whole S (fun ds hl => ?_) (fun f cdv A outer s H Ex hr A' ds hl => ?_)
  · match ds, hl with
    | [a0, a1, a2], _ => rfl
  · match ds, hl with
    | [a0, a1, a2], _ =>
      show PSs (XD P w K mg base _ "is_whole" (top 16) f cdv A outer s H Ex) _ (tB K A' (EB mg Ex) [.val a0, .val a1, .val a2] (fun _ => [.un, .un, .un]) (fun _ => []) (b_is_whole a0 a1 a2))
      unfold b_is_whole
      exact (b_ret (ev_and (ec1 (c_is_integer T) wshB hr (vv 0)) (ev_one (ev_chn (od_le hr) (od_le hr) (vv 1) (vv 0) (vv 2)))))

theorem sc_need_whole : FnScope ["value", "low", "high"] ["value", "low", "high"] (defScope (top 17)) := ⟨rfl, rfl, rfl, by decide +kernel, rfl, by decide +kernel, by decide +kernel⟩
def b_need_whole (a0 a1 a2 : D) : M (Fl Unit Unit) := ((notT (truth ((pure a0) >>= fun a_14 => (pure a1) >>= fun a_15 => (pure a2) >>= fun a_16 => m_is_whole a_14 a_15 a_16))) >>= fun t => if t = true then bad else (pure (.nx ())))
def m_need_whole (a0 a1 a2 : D) : M D := runF (b_need_whole a0 a1 a2)
theorem c_need_whole (T : Top K mg) : Cl P w K mg base 6 "need_whole" (spD K mg 3 (arg3 m_need_whole)) := by
  have S := sc_need_whole
  refine cl_of (k := 5) (b := fun ds => match ds with | [a0, a1, a2] => b_need_whole a0 a1 a2 | _ => bad) (ρb := fun _ => [.un, .un, .un]) (ρg := fun _ => []) T.d_need_whole S (fun ds hl => ?_) (fun f cdv A outer s H Ex hr A' ds hl => ?_)
  · match ds, hl with
    | [a0, a1, a2], _ => rfl
  · match ds, hl with
    | [a0, a1, a2], _ =>
      show PSs (XD P w K mg base _ "need_whole" (top 17) f cdv A outer s H Ex) _ (tB K A' (EB mg Ex) [.val a0, .val a1, .val a2] (fun _ => [.un, .un, .un]) (fun _ => []) (b_need_whole a0 a1 a2))
      unfold b_need_whole
      exact (b_if (et_not (et_truth (ec3 (c_is_whole T) wshB hr (vv 0) (vv 1) (vv 2)))) b_never (b_nil (.un (.un (.un .nil)))))

theorem sc_count_flat : FnScope ["many"] ["many"] (defScope (top 49)) := ⟨rfl, rfl, rfl, by decide +kernel, rfl, by decide +kernel, by decide +kernel⟩
def b_count_flat (a0 : D) : M (Fl Unit Unit) := (((pure a0) >>= fun a_17 => (pure (.int 0)) >>= fun a_18 => (pure (.int 4)) >>= fun a_19 => m_need_whole a_17 a_18 a_19) >>= fun u_20 => ((lft (dDictPairs (.tuple L_COUNTS)) >>= fun kvs => (pure a0) >>= fun k => (pure (.int 0)) >>= fun z => lft (dGetOr kvs k z)) >>= fun d => pure (.rt d)))
def m_count_flat (a0 : D) : M D := runF (b_count_flat a0)
theorem c_count_flat (T : Top K mg) : Cl P w K mg base 8 "count_flat" (spD K mg 1 (arg1 m_count_flat)) := by
  have S := sc_count_flat
  refine cl_of (k := 7) (b := fun ds => match ds with | [a0] => b_count_flat a0 | _ => bad) (ρb := fun _ => [.un]) (ρg := fun _ => []) T.d_count_flat S (fun ds hl => ?_) (fun f cdv A outer s H Ex hr A' ds hl => ?_)
  · match ds, hl with
    | [a0], _ => rfl
  · match ds, hl with
    | [a0], _ =>
      show PSs (XD P w K mg base _ "count_flat" (top 49) f cdv A outer s H Ex) _ (tB K A' (EB mg Ex) [.val a0] (fun _ => [.un]) (fun _ => []) (b_count_flat a0))
      unfold b_count_flat
      exact (b_expr (ec3 (c_need_whole T) wshB hr (vv 0) ev_int ev_int) (fun u_20 => (b_ret (ev_getOr hr (ek_dictGt rfl rfl T.z_dict T.t_COUNTS rfl) (vv 0) ev_int ⟨rfl, rfl, rfl, rfl⟩))))

theorem sc_is_word : FnScope ["value", "signs", "low", "high", "sign"] ["value", "signs", "low", "high"] (defScope (top 19)) := ⟨rfl, rfl, rfl, by decide +kernel, rfl, by decide +kernel, by decide +kernel⟩
def b_is_word (a0 a1 a2 a3 : D) : M (Fl Unit Unit) := ((andV (un1 (dIsi .str) (pure a0)) (andV (chn dLe dLe (pure a2) (un1 dLen (pure a0)) (pure a3)) (un1 dAll (lstM (((pure a0) >>= fun d => lft (dItems d)) >>= mapC (fun d => lft (some d) >>= fun sign_21 => (bin dIn (pure sign_21) (pure a1)))))))) >>= fun d => pure (.rt d))
def m_is_word (a0 a1 a2 a3 : D) : M D := runF (b_is_word a0 a1 a2 a3)
theorem c_is_word (T : Top K mg) : Cl P w K mg base 2 "is_word" (spD K mg 4 (arg4 m_is_word)) := by
  have S := sc_is_word
  refine cl_of (k := 1) (b := fun ds => match ds with | [a0, a1, a2, a3] => b_is_word a0 a1 a2 a3 | _ => bad) (ρb := fun _ => [.un, .un, .un, .un, .un]) (ρg := fun _ => []) T.d_is_word S (fun ds hl => ?_) (fun f cdv A outer s H Ex hr A' ds hl => ?_)
  · match ds, hl with
    | [a0, a1, a2, a3], _ => rfl
  · match ds, hl with
    | [a0, a1, a2, a3], _ =>
      show PSs (XD P w K mg base _ "is_word" (top 19) f cdv A outer s H Ex) _ (tB K A' (EB mg Ex) [.val a0, .val a1, .val a2, .val a3, .un] (fun _ => [.un, .un, .un, .un, .un]) (fun _ => []) (b_is_word a0 a1 a2 a3))
      unfold b_is_word
      exact (b_ret (ev_and (ev_isi cd_isStr rfl T.z_isinstance rfl T.z_str rfl (vv 0)) (ev_and (ev_chn (od_le hr) (od_le hr) (vv 2) (ev_call1 cd_len rfl T.z_len rfl (vv 0)) (vv 3)) (ev_one (ev_call1 (cd_all rfl) rfl T.z_all rfl (ev_own (eo_lc (own := [("sign", 4)]) (un := some) rfl S.nd (ei_val (vv 0)) (blkOk rfl) (fun _ _ _ _ _ => (pg_name (i := 4) S.nd rfl (by first | exact Or.inl rfl | exact Or.inr rfl))) (tgt_name (is := [4]) (i := 4) (by decide)) (fun sign_21 _ _ _ _ _ => (ev_cmp (od_in hr) (vv 4) (vv 1) rfl)))))))))

theorem sc_fits_function : FnScope ["value"] ["value"] (defScope (top 20)) := ⟨rfl, rfl, rfl, by decide +kernel, rfl, by decide +kernel, by decide +kernel⟩
def b_fits_function (a0 : D) : M (Fl Unit Unit) := ((andV ((pure a0) >>= fun a_22 => (pure K_ANSWERS) >>= fun a_23 => (pure (.int 1)) >>= fun a_24 => (bin dIx (pure K_LENGTHS) (pure K_MOST)) >>= fun a_25 => m_is_word a_22 a_23 a_24 a_25) (bin dIn (un1 dLen (pure a0)) (pure K_LENGTHS))) >>= fun d => pure (.rt d))
def m_fits_function (a0 : D) : M D := runF (b_fits_function a0)
theorem c_fits_function (T : Top K mg) : Cl P w K mg base 4 "fits_function" (spD K mg 1 (arg1 m_fits_function)) := by
  have S := sc_fits_function
  refine cl_of (k := 3) (b := fun ds => match ds with | [a0] => b_fits_function a0 | _ => bad) (ρb := fun _ => [.un]) (ρg := fun _ => []) T.d_fits_function S (fun ds hl => ?_) (fun f cdv A outer s H Ex hr A' ds hl => ?_)
  · match ds, hl with
    | [a0], _ => rfl
  · match ds, hl with
    | [a0], _ =>
      show PSs (XD P w K mg base _ "fits_function" (top 20) f cdv A outer s H Ex) _ (tB K A' (EB mg Ex) [.val a0] (fun _ => [.un]) (fun _ => []) (b_fits_function a0))
      unfold b_fits_function
      exact (b_ret (ev_and (ec4 (c_is_word T) wshB hr (vv 0) (ev_gc T.g_ANSWERS rfl) ev_int (ev_ix (ev_gc T.g_LENGTHS rfl) (ev_gc T.g_MOST rfl))) (ev_one (ev_cmp (od_in hr) (ev_call1 cd_len rfl T.z_len rfl (vv 0)) (ev_gc T.g_LENGTHS rfl) rfl))))

theorem sc_need_function : FnScope ["value"] ["value"] (defScope (top 21)) := ⟨rfl, rfl, rfl, by decide +kernel, rfl, by decide +kernel, by decide +kernel⟩
def b_need_function (a0 : D) : M (Fl Unit Unit) := ((notT (truth ((pure a0) >>= m_fits_function))) >>= fun t => if t = true then bad else (pure (.nx ())))
def m_need_function (a0 : D) : M D := runF (b_need_function a0)
theorem c_need_function (T : Top K mg) : Cl P w K mg base 6 "need_function" (spD K mg 1 (arg1 m_need_function)) := by
  have S := sc_need_function
  refine cl_of (k := 5) (b := fun ds => match ds with | [a0] => b_need_function a0 | _ => bad) (ρb := fun _ => [.un]) (ρg := fun _ => []) T.d_need_function S (fun ds hl => ?_) (fun f cdv A outer s H Ex hr A' ds hl => ?_)
  · match ds, hl with
    | [a0], _ => rfl
  · match ds, hl with
    | [a0], _ =>
      show PSs (XD P w K mg base _ "need_function" (top 21) f cdv A outer s H Ex) _ (tB K A' (EB mg Ex) [.val a0] (fun _ => [.un]) (fun _ => []) (b_need_function a0))
      unfold b_need_function
      exact (b_if (et_not (et_truth (ec1 (c_fits_function T) wshB hr (vv 0)))) b_never (b_nil (.un .nil)))

theorem sc_root_of : FnScope ["whole", "found"] ["whole"] (defScope (top 37)) := ⟨rfl, rfl, rfl, by decide +kernel, rfl, by decide +kernel, by decide +kernel⟩
def b_root_of (a0 : D) : M (Fl Unit Unit) := ((pure (.int 1)) >>= fun found_26 => (seqF (whileF (τ := D) (fun t_27 => (truth (bin dLt (bin dMul (pure t_27) (pure t_27)) (pure a0)))) (fun t_27 => ((bin dMul (pure t_27) (pure (.int 2))) >>= fun found_28 => (pure (.nx found_28)))) 100000 found_26) (fun t_27 => ((ifM (truth (bin dEq (bin dMul (pure t_27) (pure t_27)) (pure a0))) (pure t_27) (pure (.none))) >>= fun d => pure (.rt d)))))
def m_root_of (a0 : D) : M D := runF (b_root_of a0)
theorem c_root_of (T : Top K mg) : Cl P w K mg base 2 "root_of" (spD K mg 1 (arg1 m_root_of)) := by
  have S := sc_root_of
  refine cl_of (k := 1) (b := fun ds => match ds with | [a0] => b_root_of a0 | _ => bad) (ρb := fun _ => [.un, .un]) (ρg := fun _ => []) T.d_root_of S (fun ds hl => ?_) (fun f cdv A outer s H Ex hr A' ds hl => ?_)
  · match ds, hl with
    | [a0], _ => rfl
  · match ds, hl with
    | [a0], _ =>
      show PSs (XD P w K mg base _ "root_of" (top 37) f cdv A outer s H Ex) _ (tB K A' (EB mg Ex) [.val a0, .un] (fun _ => [.un, .un]) (fun _ => []) (b_root_of a0))
      unfold b_root_of
      exact (b_set (i := 1) S.nd rfl (by first | exact Or.inl rfl | exact Or.inr rfl) ev_int (fun found_26 => (b_while (ρi := fun t_27 => [.val a0, .val t_27]) (t0 := found_26) ownB (.eq (.eq .nil)) (fun t_27 => (et_cmp bo_lt (od_lt hr) (ev_bin od_mul (vv 1) (vv 1)) (vv 0) rfl)) (fun t_27 => (b_set (i := 1) S.nd rfl (by first | exact Or.inl rfl | exact Or.inr rfl) (ev_bin od_mul (vv 1) ev_int) (fun found_28 => (b_nil (.eq (.eq .nil)))))) (fun t_27 => (b_ret (ev_if (et_cmp bo_eq (od_eq hr) (ev_bin od_mul (vv 1) (vv 1)) (vv 0) rfl) (vv 1) ev_non))))))

theorem sc_folded_wave : FnScope ["numbers", "found", "step", "later", "begin", "low", "high", "one", "other"] ["numbers"] (defScope (top 33)) := ⟨rfl, rfl, rfl, by decide +kernel, rfl, by decide +kernel, by decide +kernel⟩
def b_folded_wave (a0 : D) : M (Fl Unit Unit) := ((lstM ((pure a0) >>= fun d => lft (dListL d))) >>= fun found_29 => (pure (.int 1)) >>= fun step_30 => (seqF (whileF (τ := D × D) (fun t_31 => (truth (bin dLt (pure t_31.2) (un1 dLen (pure t_31.1))))) (fun t_31 => ((lstM (seqM [])) >>= fun later_32 => (((pure (.int 0)) >>= fun d => (un1 dLen (pure t_31.1)) >>= fun e => (bin dMul (pure (.int 2)) (pure t_31.2)) >>= fun f => lft (dRange3 d e f)) >>= fun ds => seqF (forF (τ := D) (fun d t_33 => lft (some d) >>= fun begin_34 => ((slc (pure t_31.1) (optI (pure begin_34)) (optI (bin dAdd (pure begin_34) (pure t_31.2)))) >>= fun low_35 => (slc (pure t_31.1) (optI (bin dAdd (pure begin_34) (pure t_31.2))) (optI (bin dAdd (pure begin_34) (bin dMul (pure (.int 2)) (pure t_31.2))))) >>= fun high_36 => ((bin dAdd (pure t_33) (lstM (((pure low_35) >>= fun d => (pure high_36) >>= fun e => lft (dZip d e)) >>= mapC (fun d => lft (par2 d) >>= fun t_38 => (bin dAdd (pure t_38.1) (pure t_38.2)))))) >>= fun later_37 => ((bin dAdd (pure later_37) (lstM (((pure low_35) >>= fun d => (pure high_36) >>= fun e => lft (dZip d e)) >>= mapC (fun d => lft (par2 d) >>= fun t_40 => (bin dSub (pure t_40.1) (pure t_40.2)))))) >>= fun later_39 => (pure (.nx later_39)))))) ds later_32) (fun t_33 => ((pure t_33) >>= fun found_41 => (bin dMul (pure (.int 2)) (pure t_31.2)) >>= fun step_42 => (pure (.nx (found_41, step_42)))))))) 100000 (found_29, step_30)) (fun t_31 => ((pure t_31.1) >>= fun d => pure (.rt d)))))
def m_folded_wave (a0 : D) : M D := runF (b_folded_wave a0)
theorem c_folded_wave (T : Top K mg) : Cl P w K mg base 2 "folded_wave" (spD K mg 1 (arg1 m_folded_wave)) := by
  have S := sc_folded_wave
  refine cl_of (k := 1) (b := fun ds => match ds with | [a0] => b_folded_wave a0 | _ => bad) (ρb := fun _ => [.un, .un, .un, .un, .un, .un, .un, .un, .un]) (ρg := fun _ => []) T.d_folded_wave S (fun ds hl => ?_) (fun f cdv A outer s H Ex hr A' ds hl => ?_)
  · match ds, hl with
    | [a0], _ => rfl
  · match ds, hl with
    | [a0], _ =>
      show PSs (XD P w K mg base _ "folded_wave" (top 33) f cdv A outer s H Ex) _ (tB K A' (EB mg Ex) [.val a0, .un, .un, .un, .un, .un, .un, .un, .un] (fun _ => [.un, .un, .un, .un, .un, .un, .un, .un, .un]) (fun _ => []) (b_folded_wave a0))
      unfold b_folded_wave
      exact (b_par2 (i := 1) (j := 2) rfl S.nd rfl rfl (by decide) rfl rfl (sv (ev_own (eo_list rfl rfl T.z_list (vv 0)))) (sv ev_int) (fun found_29 step_30 => (b_while (ρi := fun t_31 => [.val a0, .val t_31.1, .val t_31.2, .un, .un, .un, .un, .un, .un]) (t0 := (found_29, step_30)) ownB (.eq (.eq (.eq (.un (.un (.un (.un (.un (.un .nil))))))))) (fun t_31 => (et_cmp bo_lt (od_lt hr) (vv 2) (ev_call1 cd_len rfl T.z_len rfl (vv 1)) rfl)) (fun t_31 => (b_set (i := 3) S.nd rfl (by first | exact Or.inl rfl | exact Or.inr rfl) (ev_own (eo_lst ea_nil (Nat.le_of_ble_eq_true rfl))) (fun later_32 => (b_for (ρi := fun t_33 => [.val a0, .val t_31.1, .val t_31.2, .val t_33, .un, .un, .un, .un, .un]) (t0 := later_32) (un := some) ownB rfl (ei_rng3 rfl T.z_range ev_int (ev_call1 cd_len rfl T.z_len rfl (vv 1)) (ev_bin od_mul ev_int (vv 2))) (pg_name (i := 4) S.nd rfl (by first | exact Or.inl rfl | exact Or.inr rfl)) (.eq (.eq (.eq (.eq (.un (.un (.un (.un (.un .nil))))))))) (fun t_33 => (tgt_name (is := [4]) (i := 4) (by decide))) (fun t_33 begin_34 => (b_par2 (i := 5) (j := 6) rfl S.nd rfl rfl (by decide) rfl rfl (sv (ev_slc (vv 1) (epo_some (vv 4)) (epo_some (ev_bin od_add (vv 4) (vv 2))))) (sv (ev_slc (vv 1) (epo_some (ev_bin od_add (vv 4) (vv 2))) (epo_some (ev_bin od_add (vv 4) (ev_bin od_mul ev_int (vv 2)))))) (fun low_35 high_36 => (b_set (i := 3) S.nd rfl (by first | exact Or.inl rfl | exact Or.inr rfl) (ev_bin od_add (vv 3) (ev_own (eo_lc (own := [("one", 7), ("other", 8)]) (un := par2) rfl S.nd (ei_zip rfl T.z_zip (vv 5) (vv 6)) (blkOk rfl) (fun _ _ _ _ _ => (pg_tup rfl (pgs_cons (pg_name (i := 7) S.nd rfl (by first | exact Or.inl rfl | exact Or.inr rfl)) (pgs_cons (pg_name (i := 8) S.nd rfl (by first | exact Or.inl rfl | exact Or.inr rfl)) pgs_nil)))) (tgt_par2 (is := [7, 8]) (i := 7) (j := 8) (by decide) (by decide)) (fun t_38 _ _ _ _ _ => (ev_bin od_add (vv 7) (vv 8)))))) (fun later_37 => (b_set (i := 3) S.nd rfl (by first | exact Or.inl rfl | exact Or.inr rfl) (ev_bin od_add (vv 3) (ev_own (eo_lc (own := [("one", 7), ("other", 8)]) (un := par2) rfl S.nd (ei_zip rfl T.z_zip (vv 5) (vv 6)) (blkOk rfl) (fun _ _ _ _ _ => (pg_tup rfl (pgs_cons (pg_name (i := 7) S.nd rfl (by first | exact Or.inl rfl | exact Or.inr rfl)) (pgs_cons (pg_name (i := 8) S.nd rfl (by first | exact Or.inl rfl | exact Or.inr rfl)) pgs_nil)))) (tgt_par2 (is := [7, 8]) (i := 7) (j := 8) (by decide) (by decide)) (fun t_40 _ _ _ _ _ => (ev_bin od_sub (vv 7) (vv 8)))))) (fun later_39 => (b_nil (.eq (.eq (.eq (.eq (.un (.un (.un (.un (.un .nil))))))))))))))) rfl)) (fun t_33 => (b_par2 (i := 1) (j := 2) rfl S.nd rfl rfl (by decide) rfl rfl (sv (vv 3)) (sv (ev_bin od_mul ev_int (vv 2))) (fun found_41 step_42 => (b_nil (.eq (.eq (.eq (.un (.un (.un (.un (.un (.un .nil))))))))))) rfl)))))) (fun t_31 => (b_ret (vv 1))))) rfl)

theorem sc_wave_in : FnScope ["function", "answer"] ["function"] (defScope (top 34)) := ⟨rfl, rfl, rfl, by decide +kernel, rfl, by decide +kernel, by decide +kernel⟩
def b_wave_in (a0 : D) : M (Fl Unit Unit) := (((lstM (((pure a0) >>= fun d => lft (dItems d)) >>= mapC (fun d => lft (some d) >>= fun answer_43 => (ifM (truth (bin dEq (pure answer_43) (pure (.str "0")))) (pure (.int 1)) (un1 dNeg (pure (.int 1))))))) >>= m_folded_wave) >>= fun d => pure (.rt d))
def m_wave_in (a0 : D) : M D := runF (b_wave_in a0)
theorem c_wave_in (T : Top K mg) : Cl P w K mg base 4 "wave_in" (spD K mg 1 (arg1 m_wave_in)) := by
  have S := sc_wave_in
  refine cl_of (k := 3) (b := fun ds => match ds with | [a0] => b_wave_in a0 | _ => bad) (ρb := fun _ => [.un, .un]) (ρg := fun _ => []) T.d_wave_in S (fun ds hl => ?_) (fun f cdv A outer s H Ex hr A' ds hl => ?_)
  · match ds, hl with
    | [a0], _ => rfl
  · match ds, hl with
    | [a0], _ =>
      show PSs (XD P w K mg base _ "wave_in" (top 34) f cdv A outer s H Ex) _ (tB K A' (EB mg Ex) [.val a0, .un] (fun _ => [.un, .un]) (fun _ => []) (b_wave_in a0))
      unfold b_wave_in
      exact (b_ret (ec1 (c_folded_wave T) wshB hr (ev_own (eo_lc (own := [("answer", 1)]) (un := some) rfl S.nd (ei_val (vv 0)) (blkOk rfl) (fun _ _ _ _ _ => (pg_name (i := 1) S.nd rfl (by first | exact Or.inl rfl | exact Or.inr rfl))) (tgt_name (is := [1]) (i := 1) (by decide)) (fun answer_43 _ _ _ _ _ => (ev_if (et_cmp bo_eq (od_eq hr) (vv 1) ev_str rfl) ev_int (ev_un ud_neg ev_int)))))))

theorem sc_is_flat_in : FnScope ["function", "root", "number"] ["function"] (defScope (top 38)) := ⟨rfl, rfl, rfl, by decide +kernel, rfl, by decide +kernel, by decide +kernel⟩
def b_is_flat_in (a0 : D) : M (Fl Unit Unit) := (((un1 dLen (pure a0)) >>= m_root_of) >>= fun root_44 => ((andV (un1 dNotN (pure root_44)) (un1 dAll (lstM ((((pure a0) >>= m_wave_in) >>= fun d => lft (dItems d)) >>= mapC (fun d => lft (some d) >>= fun number_45 => (bin dIn (pure number_45) (tupM [(pure root_44), (bin dSub (pure (.int 0)) (pure root_44))]))))))) >>= fun d => pure (.rt d)))
def m_is_flat_in (a0 : D) : M D := runF (b_is_flat_in a0)
theorem c_is_flat_in (T : Top K mg) : Cl P w K mg base 6 "is_flat_in" (spD K mg 1 (arg1 m_is_flat_in)) := by
  have S := sc_is_flat_in
  refine cl_of (k := 5) (b := fun ds => match ds with | [a0] => b_is_flat_in a0 | _ => bad) (ρb := fun _ => [.un, .un, .un]) (ρg := fun _ => []) T.d_is_flat_in S (fun ds hl => ?_) (fun f cdv A outer s H Ex hr A' ds hl => ?_)
  · match ds, hl with
    | [a0], _ => rfl
  · match ds, hl with
    | [a0], _ =>
      show PSs (XD P w K mg base _ "is_flat_in" (top 38) f cdv A outer s H Ex) _ (tB K A' (EB mg Ex) [.val a0, .un, .un] (fun _ => [.un, .un, .un]) (fun _ => []) (b_is_flat_in a0))
      unfold b_is_flat_in
      exact (b_set (i := 1) S.nd rfl (by first | exact Or.inl rfl | exact Or.inr rfl) (ec1 (c_root_of T) wshB hr (ev_call1 cd_len rfl T.z_len rfl (vv 0))) (fun root_44 => (b_ret (ev_and (ev_notN (vv 1)) (ev_one (ev_call1 (cd_all rfl) rfl T.z_all rfl (ev_own (eo_lc (own := [("number", 2)]) (un := some) rfl S.nd (ei_val (ec1 (c_wave_in T) wshB hr (vv 0))) (blkOk rfl) (fun _ _ _ _ _ => (pg_name (i := 2) S.nd rfl (by first | exact Or.inl rfl | exact Or.inr rfl))) (tgt_name (is := [2]) (i := 2) (by decide)) (fun number_45 _ _ _ _ _ => (ev_cmp (od_in hr) (vv 2) (ev_tup (ea_cons (vv 1) (ea_cons (ev_bin od_sub ev_int (vv 1)) ea_nil)) (Nat.le_of_ble_eq_true rfl)) rfl))))))))))

theorem sc_is_flat : FnScope ["function"] ["function"] (defScope (top 45)) := ⟨rfl, rfl, rfl, by decide +kernel, rfl, by decide +kernel, by decide +kernel⟩
def b_is_flat (a0 : D) : M (Fl Unit Unit) := (((pure a0) >>= m_need_function) >>= fun u_46 => (((pure a0) >>= m_is_flat_in) >>= fun d => pure (.rt d)))
def m_is_flat (a0 : D) : M D := runF (b_is_flat a0)
theorem c_is_flat (T : Top K mg) : Cl P w K mg base 8 "is_flat" (spD K mg 1 (arg1 m_is_flat)) := by
  have S := sc_is_flat
  refine cl_of (k := 7) (b := fun ds => match ds with | [a0] => b_is_flat a0 | _ => bad) (ρb := fun _ => [.un]) (ρg := fun _ => []) T.d_is_flat S (fun ds hl => ?_) (fun f cdv A outer s H Ex hr A' ds hl => ?_)
  · match ds, hl with
    | [a0], _ => rfl
  · match ds, hl with
    | [a0], _ =>
      show PSs (XD P w K mg base _ "is_flat" (top 45) f cdv A outer s H Ex) _ (tB K A' (EB mg Ex) [.val a0] (fun _ => [.un]) (fun _ => []) (b_is_flat a0))
      unfold b_is_flat
      exact (b_expr (ec1 (c_need_function T) wshB hr (vv 0)) (fun u_46 => (b_ret (ec1 (c_is_flat_in T) wshB hr (vv 0)))))

theorem sc__law_count : FnScope ["function", "found", "size"] ["function"] (defScope (top 58)) := ⟨rfl, rfl, rfl, by decide +kernel, rfl, by decide +kernel, by decide +kernel⟩
def b__law_count (a0 : D) : M (Fl Unit Unit) := ((pure (.int 0)) >>= fun found_47 => (un1 dLen (pure a0)) >>= fun size_48 => (seqF (whileF (τ := D × D) (fun t_49 => (truth (bin dGt (pure t_49.2) (pure (.int 1))))) (fun t_49 => ((bin dAdd (pure t_49.1) (pure (.int 1))) >>= fun found_50 => (un1 dInt (bin dFdiv (pure t_49.2) (pure (.int 2)))) >>= fun size_51 => (pure (.nx (found_50, size_51))))) 100000 (found_47, size_48)) (fun t_49 => ((pure t_49.1) >>= fun d => pure (.rt d)))))
def m__law_count (a0 : D) : M D := runF (b__law_count a0)
theorem c__law_count (T : Top K mg) : Cl P w K mg base 2 "_law_count" (spD K mg 1 (arg1 m__law_count)) := by
  have S := sc__law_count
  refine cl_of (k := 1) (b := fun ds => match ds with | [a0] => b__law_count a0 | _ => bad) (ρb := fun _ => [.un, .un, .un]) (ρg := fun _ => []) T.d__law_count S (fun ds hl => ?_) (fun f cdv A outer s H Ex hr A' ds hl => ?_)
  · match ds, hl with
    | [a0], _ => rfl
  · match ds, hl with
    | [a0], _ =>
      show PSs (XD P w K mg base _ "_law_count" (top 58) f cdv A outer s H Ex) _ (tB K A' (EB mg Ex) [.val a0, .un, .un] (fun _ => [.un, .un, .un]) (fun _ => []) (b__law_count a0))
      unfold b__law_count
      exact (b_par2 (i := 1) (j := 2) rfl S.nd rfl rfl (by decide) rfl rfl (sv ev_int) (sv (ev_call1 cd_len rfl T.z_len rfl (vv 0))) (fun found_47 size_48 => (b_while (ρi := fun t_49 => [.val a0, .val t_49.1, .val t_49.2]) (t0 := (found_47, size_48)) ownB (.eq (.eq (.eq .nil))) (fun t_49 => (et_cmp bo_gt (od_gt hr) (vv 2) ev_int rfl)) (fun t_49 => (b_par2 (i := 1) (j := 2) rfl S.nd rfl rfl (by decide) rfl rfl (sv (ev_bin od_add (vv 1) ev_int)) (sv (ev_callT1 cd_int rfl T.z_int rfl (ev_bin od_fdiv (vv 2) ev_int))) (fun found_50 size_51 => (b_nil (.eq (.eq (.eq .nil))))) rfl)) (fun t_49 => (b_ret (vv 1))))) rfl)

theorem sc__law_wave : FnScope ["function", "rows", "found", "lot", "number", "row", "answer", "whole", "one", "own"] ["function"] (defScope (top 60)) := ⟨rfl, rfl, rfl, by decide +kernel, rfl, by decide +kernel, by decide +kernel⟩
def b__law_wave (a0 : D) : M (Fl Unit Unit) := ((((pure a0) >>= m__law_count) >>= m__law_rows) >>= fun rows_52 => (seqM []) >>= fun found_53 => (((pure rows_52) >>= fun d => lft (dItems d)) >>= fun ds => seqF (forF (τ := List D) (fun d t_54 => lft (some d) >>= fun lot_55 => ((pure (.int 0)) >>= fun number_56 => (((pure rows_52) >>= fun d => (pure a0) >>= fun e => lft (dZip d e)) >>= fun ds => seqF (forF (τ := D) (fun d t_57 => lft (par2 d) >>= fun t_58 => ((un1 dSum (lstM (((pure t_58.1) >>= fun d => (pure lot_55) >>= fun e => lft (dZip d e)) >>= filtC (fun d => lft (par2 d) >>= fun t_60 => whn (truth (bin dEq (pure t_60.2) (pure (.int 1)))) (pure t_60.1))))) >>= fun whole_59 => ((bin dAdd (pure t_57) (ifM (truth (bin dEq (bin dMod (un1 dInt (pure whole_59)) (pure (.int 2))) (un1 dInt (pure t_58.2)))) (pure (.int 1)) (un1 dNeg (pure (.int 1))))) >>= fun number_61 => (pure (.nx number_61))))) ds number_56) (fun t_57 => ((pure t_57) >>= fun v_62 => lft (fitL t_54) >>= fun y => (fun found_63 => (pure (.nx found_63))) (y ++ [v_62])))))) ds found_53) (fun t_54 => ((un1 dTuple (pure (.list t_54))) >>= fun d => pure (.rt d)))))
def m__law_wave (a0 : D) : M D := runF (b__law_wave a0)
theorem c__law_wave (T : Top K mg) : Cl P w K mg base 4 "_law_wave" (spD K mg 1 (arg1 m__law_wave)) := by
  have S := sc__law_wave
  refine cl_of (k := 3) (b := fun ds => match ds with | [a0] => b__law_wave a0 | _ => bad) (ρb := fun _ => [.un, .un, .un, .un, .un, .un, .un, .un, .un, .un]) (ρg := fun _ => []) T.d__law_wave S (fun ds hl => ?_) (fun f cdv A outer s H Ex hr A' ds hl => ?_)
  · match ds, hl with
    | [a0], _ => rfl
  · match ds, hl with
    | [a0], _ =>
      show PSs (XD P w K mg base _ "_law_wave" (top 60) f cdv A outer s H Ex) _ (tB K A' (EB mg Ex) [.val a0, .un, .un, .un, .un, .un, .un, .un, .un, .un] (fun _ => [.un, .un, .un, .un, .un, .un, .un, .un, .un, .un]) (fun _ => []) (b__law_wave a0))
      unfold b__law_wave
      exact (b_par2 (i := 1) (j := 2) rfl S.nd rfl rfl (by decide) rfl rfl (sv (ec1 (c__law_rows T) wshB hr (ec1 (c__law_count T) wshB hr (vv 0)))) (so (eo_lst ea_nil (Nat.le_of_ble_eq_true rfl))) (fun rows_52 found_53 => (b_for (ρi := fun t_54 => [.val a0, .val rows_52, .own t_54, .un, .un, .un, .un, .un, .un, .un]) (t0 := found_53) (un := some) ownB rfl (ei_val (vv 1)) (pg_name (i := 3) S.nd rfl (by first | exact Or.inl rfl | exact Or.inr rfl)) (.eq (.eq (.eq (.un (.un (.un (.un (.un (.un (.un .nil)))))))))) (fun t_54 => (tgt_name (is := [3]) (i := 3) (by decide))) (fun t_54 lot_55 => (b_set (i := 4) S.nd rfl (by first | exact Or.inl rfl | exact Or.inr rfl) ev_int (fun number_56 => (b_for (ρi := fun t_57 => [.val a0, .val rows_52, .own t_54, .val lot_55, .val t_57, .un, .un, .un, .un, .un]) (t0 := number_56) (un := par2) ownB rfl (ei_zip rfl T.z_zip (vv 1) (vv 0)) (pg_tup rfl (pgs_cons (pg_name (i := 5) S.nd rfl (by first | exact Or.inl rfl | exact Or.inr rfl)) (pgs_cons (pg_name (i := 6) S.nd rfl (by first | exact Or.inl rfl | exact Or.inr rfl)) pgs_nil))) (.eq (.eq (.eq (.eq (.eq (.un (.un (.un (.un (.un .nil)))))))))) (fun t_57 => (tgt_par2 (is := [5, 6]) (i := 5) (j := 6) (by decide) (by decide))) (fun t_57 t_58 => (b_set (i := 7) S.nd rfl (by first | exact Or.inl rfl | exact Or.inr rfl) (ev_call1 (cd_sum rfl) rfl T.z_sum rfl (ev_own (eo_lcif (own := [("one", 8), ("own", 9)]) (un := par2) rfl S.nd (ei_zip rfl T.z_zip (vv 5) (vv 3)) (blkOk rfl) (fun _ _ _ _ _ => (pg_tup rfl (pgs_cons (pg_name (i := 8) S.nd rfl (by first | exact Or.inl rfl | exact Or.inr rfl)) (pgs_cons (pg_name (i := 9) S.nd rfl (by first | exact Or.inl rfl | exact Or.inr rfl)) pgs_nil)))) (tgt_par2 (is := [8, 9]) (i := 8) (j := 9) (by decide) (by decide)) (fun t_60 _ _ _ _ _ => (et_cmp bo_eq (od_eq hr) (vv 9) ev_int rfl)) (fun t_60 _ _ _ _ _ => (vv 8))))) (fun whole_59 => (b_set (i := 4) S.nd rfl (by first | exact Or.inl rfl | exact Or.inr rfl) (ev_bin od_add (vv 4) (ev_if (et_cmp bo_eq (od_eq hr) (ev_bin od_mod (ev_callT1 cd_int rfl T.z_int rfl (vv 7)) ev_int) (ev_callT1 cd_int rfl T.z_int rfl (vv 6)) rfl) ev_int (ev_un ud_neg ev_int))) (fun number_61 => (b_nil (.eq (.eq (.eq (.eq (.eq (.un (.un (.un (.un (.un .nil)))))))))))))))) (fun t_57 => (b_app (i := 2) (mr := fun found_63 => (pure (.nx found_63))) rfl (pv 2) (vv 4) (fun found_63 => (b_nil (.eq (.eq (.eq (.un (.un (.un (.un (.un (.un (.un .nil)))))))))))))))))) (fun t_54 => (b_freeze (i := 2) rfl (b_ret (ev_callT1 (cd_tuple rfl) rfl T.z_tuple rfl (vv 2))))))) rfl)

theorem sc__law_counted_right : FnScope ["many", "functions", "row", "flat", "some", "function", "number"] ["many"] (defScope (top 64)) := ⟨rfl, rfl, rfl, by decide +kernel, rfl, by decide +kernel, by decide +kernel⟩
def b__law_counted_right (a0 : D) : M (Fl Unit Unit) := ((lstM (seqM [(pure (.str ""))])) >>= fun functions_64 => ((((pure a0) >>= m__law_rows) >>= fun d => lft (dItems d)) >>= fun ds => seqF (forF (τ := D) (fun d t_65 => lft (some d) >>= fun row_66 => ((bin dAdd (lstM (((pure t_65) >>= fun d => lft (dItems d)) >>= mapC (fun d => lft (some d) >>= fun some_68 => (bin dAdd (pure some_68) (pure (.str "0")))))) (lstM (((pure t_65) >>= fun d => lft (dItems d)) >>= mapC (fun d => lft (some d) >>= fun some_69 => (bin dAdd (pure some_69) (pure (.str "1"))))))) >>= fun functions_67 => (pure (.nx functions_67)))) ds functions_64) (fun t_65 => (lstM (((pure t_65) >>= fun d => lft (dItems d)) >>= filtC (fun d => lft (some d) >>= fun function_71 => whn (truth (bin dEq ((lstM ((((pure function_71) >>= m__law_wave) >>= fun d => lft (dItems d)) >>= mapC (fun d => lft (some d) >>= fun number_72 => (un1 dAbs (pure number_72))))) >>= fun d => lft (dLenSet d)) (pure (.int 1)))) (pure function_71))) >>= fun flat_70 => ((andV (((pure a0) >>= m_count_flat) >>= fun a_73 => (un1 dLen (pure flat_70)) >>= fun a_74 => (m__law_like 10) a_73 a_74) (bin dEq (lstM (((pure flat_70) >>= fun d => lft (dItems d)) >>= filtC (fun d => lft (some d) >>= fun function_75 => whn (truth (bin dNotB ((pure function_75) >>= m_is_flat) (pure (.bool true)))) (pure function_75)))) (lstM (seqM [])))) >>= fun d => pure (.rt d))))))
def m__law_counted_right (a0 : D) : M D := runF (b__law_counted_right a0)
theorem c__law_counted_right (T : Top K mg) : Cl P w K mg base 16 "_law_counted_right" (spD K mg 1 (arg1 m__law_counted_right)) := by
  have S := sc__law_counted_right
  refine cl_of (k := 15) (b := fun ds => match ds with | [a0] => b__law_counted_right a0 | _ => bad) (ρb := fun _ => [.un, .un, .un, .un, .un, .un, .un]) (ρg := fun _ => []) T.d__law_counted_right S (fun ds hl => ?_) (fun f cdv A outer s H Ex hr A' ds hl => ?_)
  · match ds, hl with
    | [a0], _ => rfl
  · match ds, hl with
    | [a0], _ =>
      show PSs (XD P w K mg base _ "_law_counted_right" (top 64) f cdv A outer s H Ex) _ (tB K A' (EB mg Ex) [.val a0, .un, .un, .un, .un, .un, .un] (fun _ => [.un, .un, .un, .un, .un, .un, .un]) (fun _ => []) (b__law_counted_right a0))
      unfold b__law_counted_right
      exact (b_set (i := 1) S.nd rfl (by first | exact Or.inl rfl | exact Or.inr rfl) (ev_own (eo_lst (ea_cons ev_str ea_nil) (Nat.le_of_ble_eq_true rfl))) (fun functions_64 => (b_for (ρi := fun t_65 => [.val a0, .val t_65, .un, .un, .un, .un, .un]) (t0 := functions_64) (un := some) ownB rfl (ei_val (ec1 (c__law_rows T) wshB hr (vv 0))) (pg_name (i := 2) S.nd rfl (by first | exact Or.inl rfl | exact Or.inr rfl)) (.eq (.eq (.un (.un (.un (.un (.un .nil))))))) (fun t_65 => (tgt_name (is := [2]) (i := 2) (by decide))) (fun t_65 row_66 => (b_set (i := 1) S.nd rfl (by first | exact Or.inl rfl | exact Or.inr rfl) (ev_bin od_add (ev_own (eo_lc (own := [("some", 4)]) (un := some) rfl S.nd (ei_val (vv 1)) (blkOk rfl) (fun _ _ _ _ _ => (pg_name (i := 4) S.nd rfl (by first | exact Or.inl rfl | exact Or.inr rfl))) (tgt_name (is := [4]) (i := 4) (by decide)) (fun some_68 _ _ _ _ _ => (ev_bin od_add (vv 4) ev_str)))) (ev_own (eo_lc (own := [("some", 4)]) (un := some) rfl S.nd (ei_val (vv 1)) (blkOk rfl) (fun _ _ _ _ _ => (pg_name (i := 4) S.nd rfl (by first | exact Or.inl rfl | exact Or.inr rfl))) (tgt_name (is := [4]) (i := 4) (by decide)) (fun some_69 _ _ _ _ _ => (ev_bin od_add (vv 4) ev_str))))) (fun functions_67 => (b_nil (.eq (.eq (.un (.un (.un (.un (.un .nil))))))))))) (fun t_65 => (b_setP (i := 3) (ps_lst (ps_lcifO (own := [("function", 5)]) (un := some) rfl S.nd (ei_val (vv 1)) (blkOk rfl) (fun _ _ _ _ _ => (pg_name (i := 5) S.nd rfl (by first | exact Or.inl rfl | exact Or.inr rfl))) (tgt_name (is := [5]) (i := 5) (by decide)) rfl rfl rfl (fun function_71 _ _ _ _ _ => (et_cmp bo_eq (od_eq hr) (ev_lenSet rfl rfl T.z_len rfl T.z_set (ev_own (eo_lc (own := [("number", 6)]) (un := some) rfl S.nd (ei_val (ec1 (c__law_wave T) wshN hr (vv 5))) (blkOk rfl) (fun _ _ _ _ _ => (pg_name (i := 6) S.nd rfl (by first | exact Or.inl rfl | exact Or.inr rfl))) (tgt_name (is := [6]) (i := 6) (by decide)) (fun number_72 _ _ _ _ _ => (ev_call1 cd_abs rfl T.z_abs rfl (vv 6)))))) ev_int rfl)) (fun function_71 _ _ _ _ _ => (vv 5)))) (fun flat_70 => (b_ret (ev_and (ec2 (c__law_like T 10) wshB hr (ec1 (c_count_flat T) wshB hr (vv 0)) (ev_call1 cd_len rfl T.z_len rfl (vv 3))) (ev_one (ev_cmp (od_eq hr) (ev_own (eo_lcif (own := [("function", 5)]) (un := some) rfl S.nd (ei_val (vv 3)) (blkOk rfl) (fun _ _ _ _ _ => (pg_name (i := 5) S.nd rfl (by first | exact Or.inl rfl | exact Or.inr rfl))) (tgt_name (is := [5]) (i := 5) (by decide)) (fun function_75 _ _ _ _ _ => (et_cmp bo_notB od_notB (ec1 (c_is_flat T) wshN hr (vv 5)) ev_bl rfl)) (fun function_75 _ _ _ _ _ => (vv 5)))) (ev_own (eo_lst ea_nil (Nat.le_of_ble_eq_true rfl))) rfl))))))))))

theorem sc_in_common : FnScope ["one", "other", "both", "found"] ["one", "other"] (defScope (top 40)) := ⟨rfl, rfl, rfl, by decide +kernel, rfl, by decide +kernel, by decide +kernel⟩
def b_in_common (a0 a1 : D) : M (Fl Unit Unit) := ((bin dBand (pure a0) (pure a1)) >>= fun both_76 => (pure (.int 0)) >>= fun found_77 => (seqF (whileF (τ := D × D) (fun t_78 => (truth (bin dGt (pure t_78.1) (pure (.int 0))))) (fun t_78 => ((bin dShr (pure t_78.1) (pure (.int 1))) >>= fun both_79 => (bin dBxor (pure t_78.2) (bin dBand (pure t_78.1) (pure (.int 1)))) >>= fun found_80 => (pure (.nx (both_79, found_80))))) 100000 (both_76, found_77)) (fun t_78 => ((pure t_78.2) >>= fun d => pure (.rt d)))))
def m_in_common (a0 a1 : D) : M D := runF (b_in_common a0 a1)
theorem c_in_common (T : Top K mg) : Cl P w K mg base 2 "in_common" (spD K mg 2 (arg2 m_in_common)) := by
  have S := sc_in_common
  refine cl_of (k := 1) (b := fun ds => match ds with | [a0, a1] => b_in_common a0 a1 | _ => bad) (ρb := fun _ => [.un, .un, .un, .un]) (ρg := fun _ => []) T.d_in_common S (fun ds hl => ?_) (fun f cdv A outer s H Ex hr A' ds hl => ?_)
  · match ds, hl with
    | [a0, a1], _ => rfl
  · match ds, hl with
    | [a0, a1], _ =>
      show PSs (XD P w K mg base _ "in_common" (top 40) f cdv A outer s H Ex) _ (tB K A' (EB mg Ex) [.val a0, .val a1, .un, .un] (fun _ => [.un, .un, .un, .un]) (fun _ => []) (b_in_common a0 a1))
      unfold b_in_common
      exact (b_par2 (i := 2) (j := 3) rfl S.nd rfl rfl (by decide) rfl rfl (sv (ev_bin od_band (vv 0) (vv 1))) (sv ev_int) (fun both_76 found_77 => (b_while (ρi := fun t_78 => [.val a0, .val a1, .val t_78.1, .val t_78.2]) (t0 := (both_76, found_77)) ownB (.eq (.eq (.eq (.eq .nil)))) (fun t_78 => (et_cmp bo_gt (od_gt hr) (vv 2) ev_int rfl)) (fun t_78 => (b_par2 (i := 2) (j := 3) rfl S.nd rfl rfl (by decide) rfl rfl (sv (ev_bin od_shr (vv 2) ev_int)) (sv (ev_bin od_bxor (vv 3) (ev_bin od_band (vv 2) ev_int))) (fun both_79 found_80 => (b_nil (.eq (.eq (.eq (.eq .nil)))))) rfl)) (fun t_78 => (b_ret (vv 3))))) rfl)

theorem sc_by_order : FnScope ["order", "function", "found", "first", "second", "answer"] ["order", "function"] (defScope (top 41)) := ⟨rfl, rfl, rfl, by decide +kernel, rfl, by decide +kernel, by decide +kernel⟩
def b_by_order (a0 a1 : D) : M (Fl Unit Unit) := ((seqM []) >>= fun found_81 => (((un1 dLen (pure a1)) >>= fun d => lft (dRange1 d)) >>= fun ds => seqF (forF (τ := List D) (fun d t_82 => lft (some d) >>= fun first_83 => (((pure a1) >>= fun d => lft (dEnum d)) >>= fun ds => seqF (forF (τ := List D) (fun d t_84 => lft (par2 d) >>= fun t_85 => ((un1 dStr (bin dBxor ((pure first_83) >>= fun a_86 => (bin dIx (pure a0) (pure t_85.1)) >>= fun a_87 => m_in_common a_86 a_87) (un1 dInt (pure t_85.2)))) >>= fun v_88 => lft (fitL t_84) >>= fun y => (fun found_89 => (pure (.nx found_89))) (y ++ [v_88]))) ds t_82) (fun t_84 => (pure (.nx t_84))))) ds found_81) (fun t_82 => ((joinM (pure (.str "")) (pure (.list t_82))) >>= fun d => pure (.rt d)))))
def m_by_order (a0 a1 : D) : M D := runF (b_by_order a0 a1)
theorem c_by_order (T : Top K mg) : Cl P w K mg base 4 "by_order" (spD K mg 2 (arg2 m_by_order)) := by
  have S := sc_by_order
  refine cl_of (k := 3) (b := fun ds => match ds with | [a0, a1] => b_by_order a0 a1 | _ => bad) (ρb := fun _ => [.un, .un, .un, .un, .un, .un]) (ρg := fun _ => []) T.d_by_order S (fun ds hl => ?_) (fun f cdv A outer s H Ex hr A' ds hl => ?_)
  · match ds, hl with
    | [a0, a1], _ => rfl
  · match ds, hl with
    | [a0, a1], _ =>
      show PSs (XD P w K mg base _ "by_order" (top 41) f cdv A outer s H Ex) _ (tB K A' (EB mg Ex) [.val a0, .val a1, .un, .un, .un, .un] (fun _ => [.un, .un, .un, .un, .un, .un]) (fun _ => []) (b_by_order a0 a1))
      unfold b_by_order
      exact (b_own (i := 2) S.nd rfl (by first | exact Or.inl rfl | exact Or.inr rfl) (eo_lst ea_nil (Nat.le_of_ble_eq_true rfl)) (fun found_81 => (b_for (ρi := fun t_82 => [.val a0, .val a1, .own t_82, .un, .un, .un]) (t0 := found_81) (un := some) ownB rfl (ei_rng1 rfl T.z_range (ev_call1 cd_len rfl T.z_len rfl (vv 1))) (pg_name (i := 3) S.nd rfl (by first | exact Or.inl rfl | exact Or.inr rfl)) (.eq (.eq (.eq (.un (.un (.un .nil)))))) (fun t_82 => (tgt_name (is := [3]) (i := 3) (by decide))) (fun t_82 first_83 => (b_for (ρi := fun t_84 => [.val a0, .val a1, .own t_84, .val first_83, .un, .un]) (t0 := t_82) (un := par2) ownB rfl (ei_enum rfl T.z_enumerate (vv 1)) (pg_tup rfl (pgs_cons (pg_name (i := 4) S.nd rfl (by first | exact Or.inl rfl | exact Or.inr rfl)) (pgs_cons (pg_name (i := 5) S.nd rfl (by first | exact Or.inl rfl | exact Or.inr rfl)) pgs_nil))) (.eq (.eq (.eq (.eq (.un (.un .nil)))))) (fun t_84 => (tgt_par2 (is := [4, 5]) (i := 4) (j := 5) (by decide) (by decide))) (fun t_84 t_85 => (b_app (i := 2) (mr := fun found_89 => (pure (.nx found_89))) rfl (pv 2) (ev_callT1 cd_str rfl T.z_str rfl (ev_bin od_bxor (ec2 (c_in_common T) wshB hr (vv 3) (ev_ix (vv 0) (vv 4))) (ev_callT1 cd_int rfl T.z_int rfl (vv 5)))) (fun found_89 => (b_nil (.eq (.eq (.eq (.eq (.un (.un .nil)))))))))) (fun t_84 => (b_nil (.eq (.eq (.eq (.un (.un (.un .nil)))))))))) (fun t_82 => (b_freeze (i := 2) rfl (b_ret (ev_join ev_str (vv 2))))))))

theorem sc_is_tuple_of : FnScope ["value", "low", "high"] ["value", "low", "high"] (defScope (top 18)) := ⟨rfl, rfl, rfl, by decide +kernel, rfl, by decide +kernel, by decide +kernel⟩
def b_is_tuple_of (a0 a1 a2 : D) : M (Fl Unit Unit) := ((andV (un1 (dIsi .tuple) (pure a0)) (chn dLe dLe (pure a1) (un1 dLen (pure a0)) (pure a2))) >>= fun d => pure (.rt d))
def m_is_tuple_of (a0 a1 a2 : D) : M D := runF (b_is_tuple_of a0 a1 a2)
theorem c_is_tuple_of (T : Top K mg) : Cl P w K mg base 2 "is_tuple_of" (spD K mg 3 (arg3 m_is_tuple_of)) := by
  have S := sc_is_tuple_of
  refine cl_of (k := 1) (b := fun ds => match ds with | [a0, a1, a2] => b_is_tuple_of a0 a1 a2 | _ => bad) (ρb := fun _ => [.un, .un, .un]) (ρg := fun _ => []) T.d_is_tuple_of S (fun ds hl => ?_) (fun f cdv A outer s H Ex hr A' ds hl => ?_)
  · match ds, hl with
    | [a0, a1, a2], _ => rfl
  · match ds, hl with
    | [a0, a1, a2], _ =>
      show PSs (XD P w K mg base _ "is_tuple_of" (top 18) f cdv A outer s H Ex) _ (tB K A' (EB mg Ex) [.val a0, .val a1, .val a2] (fun _ => [.un, .un, .un]) (fun _ => []) (b_is_tuple_of a0 a1 a2))
      unfold b_is_tuple_of
      exact (b_ret (ev_and (ev_isi cd_isTuple rfl T.z_isinstance rfl T.z_tuple rfl (vv 0)) (ev_one (ev_chn (od_le hr) (od_le hr) (vv 1) (ev_call1 cd_len rfl T.z_len rfl (vv 0)) (vv 2)))))

theorem sc_fits_order : FnScope ["value", "number"] ["value"] (defScope (top 42)) := ⟨rfl, rfl, rfl, by decide +kernel, rfl, by decide +kernel, by decide +kernel⟩
def b_fits_order (a0 : D) : M (Fl Unit Unit) := ((orT (notT (truth ((pure a0) >>= fun a_90 => (pure (.int 1)) >>= fun a_91 => (pure (.int 8)) >>= fun a_92 => m_is_tuple_of a_90 a_91 a_92))) (truth (bin dNotIn (un1 dLen (pure a0)) (tupM [(pure (.int 1)), (pure (.int 2)), (pure (.int 4)), (pure (.int 8))])))) >>= fun t => if t = true then ((pure (.bool false)) >>= fun d => pure (.rt d)) else ((andV (un1 dAll (lstM (((pure a0) >>= fun d => lft (dItems d)) >>= mapC (fun d => lft (some d) >>= fun number_93 => ((pure number_93) >>= fun a_94 => (pure (.int 0)) >>= fun a_95 => (bin dSub (un1 dLen (pure a0)) (pure (.int 1))) >>= fun a_96 => m_is_whole a_94 a_95 a_96))))) (bin dEq ((pure a0) >>= fun d => lft (dLenSet d)) (un1 dLen (pure a0)))) >>= fun d => pure (.rt d)))
def m_fits_order (a0 : D) : M D := runF (b_fits_order a0)
theorem c_fits_order (T : Top K mg) : Cl P w K mg base 6 "fits_order" (spD K mg 1 (arg1 m_fits_order)) := by
  have S := sc_fits_order
  refine cl_of (k := 5) (b := fun ds => match ds with | [a0] => b_fits_order a0 | _ => bad) (ρb := fun _ => [.un, .un]) (ρg := fun _ => []) T.d_fits_order S (fun ds hl => ?_) (fun f cdv A outer s H Ex hr A' ds hl => ?_)
  · match ds, hl with
    | [a0], _ => rfl
  · match ds, hl with
    | [a0], _ =>
      show PSs (XD P w K mg base _ "fits_order" (top 42) f cdv A outer s H Ex) _ (tB K A' (EB mg Ex) [.val a0, .un] (fun _ => [.un, .un]) (fun _ => []) (b_fits_order a0))
      unfold b_fits_order
      exact (b_if (PW.pt (ew_or (et_not (et_truth (ec3 (c_is_tuple_of T) wshB hr (vv 0) ev_int ev_int))) (ew_or1 (et_cmp bo_notIn (od_notIn hr) (ev_call1 cd_len rfl T.z_len rfl (vv 0)) (ev_tup (ea_cons ev_int (ea_cons ev_int (ea_cons ev_int (ea_cons ev_int ea_nil)))) (Nat.le_of_ble_eq_true rfl)) rfl)))) (b_ret ev_bl) (b_ret (ev_and (ev_call1 (cd_all rfl) rfl T.z_all rfl (ev_own (eo_lc (own := [("number", 1)]) (un := some) rfl S.nd (ei_val (vv 0)) (blkOk rfl) (fun _ _ _ _ _ => (pg_name (i := 1) S.nd rfl (by first | exact Or.inl rfl | exact Or.inr rfl))) (tgt_name (is := [1]) (i := 1) (by decide)) (fun number_93 _ _ _ _ _ => (ec3 (c_is_whole T) wshN hr (vv 1) ev_int (ev_bin od_sub (ev_call1 cd_len rfl T.z_len rfl (vv 0)) ev_int)))))) (ev_one (ev_cmp (od_eq hr) (ev_lenSet rfl rfl T.z_len rfl T.z_set (vv 0)) (ev_call1 cd_len rfl T.z_len rfl (vv 0)) rfl)))))

theorem sc_flat_by_order : FnScope ["order", "function"] ["order", "function"] (defScope (top 47)) := ⟨rfl, rfl, rfl, by decide +kernel, rfl, by decide +kernel, by decide +kernel⟩
def b_flat_by_order (a0 a1 : D) : M (Fl Unit Unit) := ((notT (truth ((pure a0) >>= m_fits_order))) >>= fun t => if t = true then bad else (((pure a1) >>= m_need_function) >>= fun u_97 => ((truth (bin dNe (un1 dLen (pure a1)) (un1 dLen (pure a0)))) >>= fun t => if t = true then bad else (((pure a0) >>= fun a_98 => (pure a1) >>= fun a_99 => m_by_order a_98 a_99) >>= fun d => pure (.rt d)))))
def m_flat_by_order (a0 a1 : D) : M D := runF (b_flat_by_order a0 a1)
theorem c_flat_by_order (T : Top K mg) : Cl P w K mg base 8 "flat_by_order" (spD K mg 2 (arg2 m_flat_by_order)) := by
  have S := sc_flat_by_order
  refine cl_of (k := 7) (b := fun ds => match ds with | [a0, a1] => b_flat_by_order a0 a1 | _ => bad) (ρb := fun _ => [.un, .un]) (ρg := fun _ => []) T.d_flat_by_order S (fun ds hl => ?_) (fun f cdv A outer s H Ex hr A' ds hl => ?_)
  · match ds, hl with
    | [a0, a1], _ => rfl
  · match ds, hl with
    | [a0, a1], _ =>
      show PSs (XD P w K mg base _ "flat_by_order" (top 47) f cdv A outer s H Ex) _ (tB K A' (EB mg Ex) [.val a0, .val a1] (fun _ => [.un, .un]) (fun _ => []) (b_flat_by_order a0 a1))
      unfold b_flat_by_order
      exact (b_if (et_not (et_truth (ec1 (c_fits_order T) wshB hr (vv 0)))) b_never (b_expr (ec1 (c_need_function T) wshB hr (vv 1)) (fun u_97 => (b_if (et_cmp bo_ne (od_ne hr) (ev_call1 cd_len rfl T.z_len rfl (vv 1)) (ev_call1 cd_len rfl T.z_len rfl (vv 0)) rfl) b_never (b_ret (ec2 (c_by_order T) wshB hr (vv 0) (vv 1)))))))

theorem sc_count_in : FnScope ["function"] ["function"] (defScope (top 23)) := ⟨rfl, rfl, rfl, by decide +kernel, rfl, by decide +kernel, by decide +kernel⟩
def b_count_in (a0 : D) : M (Fl Unit Unit) := (((un1 dLen (pure a0)) >>= fun d => lft (indexIn L_LENGTHS d)) >>= fun d => pure (.rt d))
def m_count_in (a0 : D) : M D := runF (b_count_in a0)
theorem c_count_in (T : Top K mg) : Cl P w K mg base 2 "count_in" (spD K mg 1 (arg1 m_count_in)) := by
  have S := sc_count_in
  refine cl_of (k := 1) (b := fun ds => match ds with | [a0] => b_count_in a0 | _ => bad) (ρb := fun _ => [.un]) (ρg := fun _ => []) T.d_count_in S (fun ds hl => ?_) (fun f cdv A outer s H Ex hr A' ds hl => ?_)
  · match ds, hl with
    | [a0], _ => rfl
  · match ds, hl with
    | [a0], _ =>
      show PSs (XD P w K mg base _ "count_in" (top 23) f cdv A outer s H Ex) _ (tB K A' (EB mg Ex) [.val a0] (fun _ => [.un]) (fun _ => []) (b_count_in a0))
      unfold b_count_in
      exact (b_ret (ev_gIndex hr T.t_LENGTHS rfl (ev_call1 cd_len rfl T.z_len rfl (vv 0))))

theorem sc_is_sum_by : FnScope ["column", "number", "first", "answer"] ["column", "number"] (defScope (top 44)) := ⟨rfl, rfl, rfl, by decide +kernel, rfl, by decide +kernel, by decide +kernel⟩
def b_is_sum_by (a0 a1 : D) : M (Fl Unit Unit) := ((un1 dAll (lstM (((pure a0) >>= fun d => lft (dEnum d)) >>= mapC (fun d => lft (par2 d) >>= fun t_100 => (bin dEq (bin dBxor (un1 dInt (pure t_100.2)) ((pure t_100.1) >>= fun a_101 => (pure a1) >>= fun a_102 => m_in_common a_101 a_102)) (un1 dInt (bin dIx (pure a0) (pure (.int 0))))))))) >>= fun d => pure (.rt d))
def m_is_sum_by (a0 a1 : D) : M D := runF (b_is_sum_by a0 a1)
theorem c_is_sum_by (T : Top K mg) : Cl P w K mg base 4 "is_sum_by" (spD K mg 2 (arg2 m_is_sum_by)) := by
  have S := sc_is_sum_by
  refine cl_of (k := 3) (b := fun ds => match ds with | [a0, a1] => b_is_sum_by a0 a1 | _ => bad) (ρb := fun _ => [.un, .un, .un, .un]) (ρg := fun _ => []) T.d_is_sum_by S (fun ds hl => ?_) (fun f cdv A outer s H Ex hr A' ds hl => ?_)
  · match ds, hl with
    | [a0, a1], _ => rfl
  · match ds, hl with
    | [a0, a1], _ =>
      show PSs (XD P w K mg base _ "is_sum_by" (top 44) f cdv A outer s H Ex) _ (tB K A' (EB mg Ex) [.val a0, .val a1, .un, .un] (fun _ => [.un, .un, .un, .un]) (fun _ => []) (b_is_sum_by a0 a1))
      unfold b_is_sum_by
      exact (b_ret (ev_call1 (cd_all rfl) rfl T.z_all rfl (ev_own (eo_lc (own := [("first", 2), ("answer", 3)]) (un := par2) rfl S.nd (ei_enum rfl T.z_enumerate (vv 0)) (blkOk rfl) (fun _ _ _ _ _ => (pg_tup rfl (pgs_cons (pg_name (i := 2) S.nd rfl (by first | exact Or.inl rfl | exact Or.inr rfl)) (pgs_cons (pg_name (i := 3) S.nd rfl (by first | exact Or.inl rfl | exact Or.inr rfl)) pgs_nil)))) (tgt_par2 (is := [2, 3]) (i := 2) (j := 3) (by decide) (by decide)) (fun t_100 _ _ _ _ _ => (ev_cmp (od_eq hr) (ev_bin od_bxor (ev_callT1 cd_int rfl T.z_int rfl (vv 3)) (ec2 (c_in_common T) wshN hr (vv 2) (vv 1))) (ev_callT1 cd_int rfl T.z_int rfl (ev_ix (vv 0) ev_int)) rfl))))))

theorem sc_order_in : FnScope ["function", "many", "half", "order", "answers", "second", "column", "able", "first", "number"] ["function"] (defScope (top 43)) := ⟨rfl, rfl, rfl, by decide +kernel, rfl, by decide +kernel, by decide +kernel⟩
def b_order_in (a0 : D) : M (Fl Unit Unit) := (((pure a0) >>= m_count_in) >>= fun many_103 => ((truth (bin dEq (bin dMod (pure many_103) (pure (.int 2))) (pure (.int 1)))) >>= fun t => if t = true then ((pure (.none)) >>= fun d => pure (.rt d)) else (((un1 dLen (pure a0)) >>= m_root_of) >>= fun half_104 => ((seqM []) >>= fun order_105 => (pure (.str "")) >>= fun answers_106 => (((pure half_104) >>= fun d => lft (dRange1 d)) >>= fun ds => seqF (forF (τ := List D × D) (fun d t_107 => lft (some d) >>= fun second_108 => ((lstM (((pure half_104) >>= fun d => lft (dRange1 d)) >>= mapC (fun d => lft (some d) >>= fun first_110 => (bin dIx (pure a0) (bin dAdd (bin dMul (pure first_110) (pure half_104)) (pure second_108)))))) >>= fun column_109 => (lstM (((pure half_104) >>= fun d => lft (dRange1 d)) >>= filtC (fun d => lft (some d) >>= fun number_112 => whn (truth ((pure column_109) >>= fun a_113 => (pure number_112) >>= fun a_114 => m_is_sum_by a_113 a_114)) (pure number_112))) >>= fun able_111 => ((nex (orT (truth (bin dEq (pure able_111) (lstM (seqM [])))) (truth (bin dIn (bin dIx (pure able_111) (pure (.int 0))) (pure (.list t_107.1)))))) >>= fun t => if t = true then ((pure (.none)) >>= fun d => pure (.rt d)) else ((bin dIx (pure able_111) (pure (.int 0))) >>= fun v_115 => lft (fitL t_107.1) >>= fun y => (fun order_116 => ((bin dAdd (pure t_107.2) (bin dIx (pure column_109) (pure (.int 0)))) >>= fun answers_117 => (pure (.nx (order_116, answers_117))))) (y ++ [v_115])))))) ds (order_105, answers_106)) (fun t_107 => ((tupM [(un1 dTuple (pure (.list t_107.1))), (pure t_107.2)]) >>= fun d => pure (.rt d))))))))
def m_order_in (a0 : D) : M D := runF (b_order_in a0)
theorem c_order_in (T : Top K mg) : Cl P w K mg base 6 "order_in" (spD K mg 1 (arg1 m_order_in)) := by
  have S := sc_order_in
  refine cl_of (k := 5) (b := fun ds => match ds with | [a0] => b_order_in a0 | _ => bad) (ρb := fun _ => [.un, .un, .un, .un, .un, .un, .un, .un, .un, .un]) (ρg := fun _ => []) T.d_order_in S (fun ds hl => ?_) (fun f cdv A outer s H Ex hr A' ds hl => ?_)
  · match ds, hl with
    | [a0], _ => rfl
  · match ds, hl with
    | [a0], _ =>
      show PSs (XD P w K mg base _ "order_in" (top 43) f cdv A outer s H Ex) _ (tB K A' (EB mg Ex) [.val a0, .un, .un, .un, .un, .un, .un, .un, .un, .un] (fun _ => [.un, .un, .un, .un, .un, .un, .un, .un, .un, .un]) (fun _ => []) (b_order_in a0))
      unfold b_order_in
      exact (b_set (i := 1) S.nd rfl (by first | exact Or.inl rfl | exact Or.inr rfl) (ec1 (c_count_in T) wshB hr (vv 0)) (fun many_103 => (b_if (et_cmp bo_eq (od_eq hr) (ev_bin od_mod (vv 1) ev_int) ev_int rfl) (b_ret ev_non) (b_set (i := 2) S.nd rfl (by first | exact Or.inl rfl | exact Or.inr rfl) (ec1 (c_root_of T) wshB hr (ev_call1 cd_len rfl T.z_len rfl (vv 0))) (fun half_104 => (b_par2 (i := 3) (j := 4) rfl S.nd rfl rfl (by decide) rfl rfl (so (eo_lst ea_nil (Nat.le_of_ble_eq_true rfl))) (sv ev_str) (fun order_105 answers_106 => (b_for (ρi := fun t_107 => [.val a0, .val many_103, .val half_104, .own t_107.1, .val t_107.2, .un, .un, .un, .un, .un]) (t0 := (order_105, answers_106)) (un := some) ownB rfl (ei_rng1 rfl T.z_range (vv 2)) (pg_name (i := 5) S.nd rfl (by first | exact Or.inl rfl | exact Or.inr rfl)) (.eq (.eq (.eq (.eq (.eq (.un (.un (.un (.un (.un .nil)))))))))) (fun t_107 => (tgt_name (is := [5]) (i := 5) (by decide))) (fun t_107 second_108 => (b_set (i := 6) S.nd rfl (by first | exact Or.inl rfl | exact Or.inr rfl) (ev_own (eo_lc (own := [("first", 8)]) (un := some) rfl S.nd (ei_rng1 rfl T.z_range (vv 2)) (blkOk rfl) (fun _ _ _ _ _ => (pg_name (i := 8) S.nd rfl (by first | exact Or.inl rfl | exact Or.inr rfl))) (tgt_name (is := [8]) (i := 8) (by decide)) (fun first_110 _ _ _ _ _ => (ev_ix (vv 0) (ev_bin od_add (ev_bin od_mul (vv 8) (vv 2)) (vv 5)))))) (fun column_109 => (b_setP (i := 7) (ps_lst (ps_lcifO (own := [("number", 9)]) (un := some) rfl S.nd (ei_rng1 rfl T.z_range (vv 2)) (blkOk rfl) (fun _ _ _ _ _ => (pg_name (i := 9) S.nd rfl (by first | exact Or.inl rfl | exact Or.inr rfl))) (tgt_name (is := [9]) (i := 9) (by decide)) rfl rfl rfl (fun number_112 _ _ _ _ _ => (et_truth (ec2 (c_is_sum_by T) wshN hr (vv 6) (vv 9)))) (fun number_112 _ _ _ _ _ => (vv 9)))) (fun able_111 => (b_if (et_nex (et_bor (i := 3) rfl (PW.pt (ew_or (et_cmp bo_eq (od_eq hr) (vv 7) (ev_own (eo_lst ea_nil (Nat.le_of_ble_eq_true rfl))) rfl) (ew_or1 (et_cmp bo_in (od_in hr) (ev_ix (vv 7) ev_int) (vv 3) rfl)))))) (b_ret ev_non) (b_app (i := 3) (mr := fun order_116 => ((bin dAdd (pure t_107.2) (bin dIx (pure column_109) (pure (.int 0)))) >>= fun answers_117 => (pure (.nx (order_116, answers_117))))) rfl (pv 3) (ev_ix (vv 7) ev_int) (fun order_116 => (b_set (i := 4) S.nd rfl (by first | exact Or.inl rfl | exact Or.inr rfl) (ev_bin od_add (vv 4) (ev_ix (vv 6) ev_int)) (fun answers_117 => (b_nil (.eq (.eq (.eq (.eq (.eq (.un (.un (.un (.un (.un .nil))))))))))))))))))))) (fun t_107 => (b_freeze (i := 3) rfl (b_ret (ev_tup (ea_cons (ev_callT1 (cd_tuple rfl) rfl T.z_tuple rfl (vv 3)) (ea_cons (vv 4) ea_nil)) (Nat.le_of_ble_eq_true rfl))))))) rfl))))))

theorem sc_order_of_flat : FnScope ["function"] ["function"] (defScope (top 48)) := ⟨rfl, rfl, rfl, by decide +kernel, rfl, by decide +kernel, by decide +kernel⟩
def b_order_of_flat (a0 : D) : M (Fl Unit Unit) := (((pure a0) >>= m_need_function) >>= fun u_118 => (((pure a0) >>= m_order_in) >>= fun d => pure (.rt d)))
def m_order_of_flat (a0 : D) : M D := runF (b_order_of_flat a0)
theorem c_order_of_flat (T : Top K mg) : Cl P w K mg base 8 "order_of_flat" (spD K mg 1 (arg1 m_order_of_flat)) := by
  have S := sc_order_of_flat
  refine cl_of (k := 7) (b := fun ds => match ds with | [a0] => b_order_of_flat a0 | _ => bad) (ρb := fun _ => [.un]) (ρg := fun _ => []) T.d_order_of_flat S (fun ds hl => ?_) (fun f cdv A outer s H Ex hr A' ds hl => ?_)
  · match ds, hl with
    | [a0], _ => rfl
  · match ds, hl with
    | [a0], _ =>
      show PSs (XD P w K mg base _ "order_of_flat" (top 48) f cdv A outer s H Ex) _ (tB K A' (EB mg Ex) [.val a0] (fun _ => [.un]) (fun _ => []) (b_order_of_flat a0))
      unfold b_order_of_flat
      exact (b_expr (ec1 (c_need_function T) wshB hr (vv 0)) (fun u_118 => (b_ret (ec1 (c_order_in T) wshB hr (vv 0)))))

theorem sc__law_written_right : FnScope ["told", "many"] [] (defScope (top 65)) := ⟨rfl, rfl, rfl, by decide +kernel, rfl, by decide +kernel, by decide +kernel⟩
def b__law_written_right : M (Fl Unit Unit) := ((lstM (seqM [((tupM [(pure (.int 0)), (pure (.int 1))]) >>= fun a_120 => (pure (.str "00")) >>= fun a_121 => m_flat_by_order a_120 a_121), ((tupM [(pure (.int 1)), (pure (.int 0))]) >>= fun a_122 => (pure (.str "01")) >>= fun a_123 => m_flat_by_order a_122 a_123), ((tupM [(pure (.int 0))]) >>= fun a_124 => (pure (.str "1")) >>= fun a_125 => m_flat_by_order a_124 a_125), ((pure (.str "0001")) >>= m_order_of_flat), ((pure (.str "0011")) >>= m_order_of_flat)])) >>= fun told_119 => ((bin dAdd (pure told_119) (lstM (seqM [((pure (.str "01")) >>= m_order_of_flat), (lstM (((tupM [(pure (.int 0)), (pure (.int 1)), (pure (.int 2)), (pure (.int 3)), (pure (.int 4))]) >>= fun d => lft (dItems d)) >>= mapC (fun d => lft (some d) >>= fun many_127 => ((pure many_127) >>= m_count_flat))))]))) >>= fun told_126 => ((notT (truth ((pure told_126) >>= fun a_128 => (lstM (seqM [(pure (.str "0001")), (pure (.str "0111")), (pure (.str "1")), (tupM [(tupM [(pure (.int 0)), (pure (.int 1))]), (pure (.str "00"))]), (pure (.none)), (pure (.none)), (lstM (seqM [(pure (.int 2)), (pure (.int 0)), (pure (.int 8)), (pure (.int 0)), (pure (.int 896))]))])) >>= fun a_129 => (m__law_like 10) a_128 a_129))) >>= fun t => if t = true then ((pure (.bool false)) >>= fun d => pure (.rt d)) else ((lstM (seqM [((pure (.str "0")) >>= m_order_of_flat), ((tupM [(pure (.int 0)), (pure (.int 1)), (pure (.int 2)), (pure (.int 3))]) >>= fun a_131 => (pure (.str "0000")) >>= fun a_132 => m_flat_by_order a_131 a_132), ((pure (.str "0001000100011110")) >>= m_order_of_flat), ((tupM [(pure (.int 0)), (pure (.int 2)), (pure (.int 1)), (pure (.int 3))]) >>= fun a_133 => (pure (.str "0000")) >>= fun a_134 => m_flat_by_order a_133 a_134)])) >>= fun told_130 => (((pure told_130) >>= fun a_135 => (lstM (seqM [(tupM [(tupM [(pure (.int 0))]), (pure (.str "0"))]), (pure (.str "0000010100110110")), (pure (.none)), (pure (.str "0000001101010110"))])) >>= fun a_136 => (m__law_like 10) a_135 a_136) >>= fun d => pure (.rt d))))))
@[irreducible] def m__law_written_right : M D := runF b__law_written_right
theorem e__law_written_right : m__law_written_right = runF b__law_written_right := by delta m__law_written_right; exact rfl
theorem c__law_written_right (T : Top K mg) : Cl P w K mg base 16 "_law_written_right" (spD K mg 0 (arg0 m__law_written_right)) := by
  have S := sc__law_written_right
  refine cl_of (k := 15) (b := cstB b__law_written_right) (ρb := fun _ => [.un, .un]) (ρg := fun _ => []) T.d__law_written_right S (fun ds hl => ?_) (fun f cdv A outer s H Ex hr A' ds hl => ?_)
  · rw [len0 hl, arg0_nil, cstB_nil, e__law_written_right]
  · rw [len0 hl, cstB_nil]
    show PSs (XD P w K mg base _ "_law_written_right" (top 65) f cdv A outer s H Ex) _ (tB K A' (EB mg Ex) [.un, .un] (fun _ => [.un, .un]) (fun _ => []) b__law_written_right)
    unfold b__law_written_right
    exact (b_set (i := 0) S.nd rfl (by first | exact Or.inl rfl | exact Or.inr rfl) (ev_own (eo_lst (ea_cons (ec2 (c_flat_by_order T) wshB hr (ev_tup (ea_cons ev_int (ea_cons ev_int ea_nil)) (Nat.le_of_ble_eq_true rfl)) ev_str) (ea_cons (ec2 (c_flat_by_order T) wshB hr (ev_tup (ea_cons ev_int (ea_cons ev_int ea_nil)) (Nat.le_of_ble_eq_true rfl)) ev_str) (ea_cons (ec2 (c_flat_by_order T) wshB hr (ev_tup (ea_cons ev_int ea_nil) (Nat.le_of_ble_eq_true rfl)) ev_str) (ea_cons (ec1 (c_order_of_flat T) wshB hr ev_str) (ea_cons (ec1 (c_order_of_flat T) wshB hr ev_str) ea_nil))))) (Nat.le_of_ble_eq_true rfl))) (fun told_119 => (b_set (i := 0) S.nd rfl (by first | exact Or.inl rfl | exact Or.inr rfl) (ev_bin od_add (vv 0) (ev_own (eo_lst (ea_cons (ec1 (c_order_of_flat T) wshB hr ev_str) (ea_cons (ev_own (eo_lc (own := [("many", 1)]) (un := some) rfl S.nd (ei_val (ev_tup (ea_cons ev_int (ea_cons ev_int (ea_cons ev_int (ea_cons ev_int (ea_cons ev_int ea_nil))))) (Nat.le_of_ble_eq_true rfl))) (blkOk rfl) (fun _ _ _ _ _ => (pg_name (i := 1) S.nd rfl (by first | exact Or.inl rfl | exact Or.inr rfl))) (tgt_name (is := [1]) (i := 1) (by decide)) (fun many_127 _ _ _ _ _ => (ec1 (c_count_flat T) wshN hr (vv 1))))) ea_nil)) (Nat.le_of_ble_eq_true rfl)))) (fun told_126 => (b_if (et_not (et_truth (ec2 (c__law_like T 10) wshB hr (vv 0) (ev_own (eo_lst (ea_cons ev_str (ea_cons ev_str (ea_cons ev_str (ea_cons (ev_tup (ea_cons (ev_tup (ea_cons ev_int (ea_cons ev_int ea_nil)) (Nat.le_of_ble_eq_true rfl)) (ea_cons ev_str ea_nil)) (Nat.le_of_ble_eq_true rfl)) (ea_cons ev_non (ea_cons ev_non (ea_cons (ev_own (eo_lst (ea_cons ev_int (ea_cons ev_int (ea_cons ev_int (ea_cons ev_int (ea_cons ev_int ea_nil))))) (Nat.le_of_ble_eq_true rfl))) ea_nil))))))) (Nat.le_of_ble_eq_true rfl)))))) (b_ret ev_bl) (b_set (i := 0) S.nd rfl (by first | exact Or.inl rfl | exact Or.inr rfl) (ev_own (eo_lst (ea_cons (ec1 (c_order_of_flat T) wshB hr ev_str) (ea_cons (ec2 (c_flat_by_order T) wshB hr (ev_tup (ea_cons ev_int (ea_cons ev_int (ea_cons ev_int (ea_cons ev_int ea_nil)))) (Nat.le_of_ble_eq_true rfl)) ev_str) (ea_cons (ec1 (c_order_of_flat T) wshB hr ev_str) (ea_cons (ec2 (c_flat_by_order T) wshB hr (ev_tup (ea_cons ev_int (ea_cons ev_int (ea_cons ev_int (ea_cons ev_int ea_nil)))) (Nat.le_of_ble_eq_true rfl)) ev_str) ea_nil)))) (Nat.le_of_ble_eq_true rfl))) (fun told_130 => (b_ret (ec2 (c__law_like T 10) wshB hr (vv 0) (ev_own (eo_lst (ea_cons (ev_tup (ea_cons (ev_tup (ea_cons ev_int ea_nil) (Nat.le_of_ble_eq_true rfl)) (ea_cons ev_str ea_nil)) (Nat.le_of_ble_eq_true rfl)) (ea_cons ev_str (ea_cons ev_non (ea_cons ev_str ea_nil)))) (Nat.le_of_ble_eq_true rfl))))))))))))

theorem sc__law_roll : FnScope ["cup", "many", "found", "deep"] ["cup", "many"] (defScope (top 52)) := ⟨rfl, rfl, rfl, by decide +kernel, rfl, by decide +kernel, by decide +kernel⟩
def b__law_roll (a1 : D) : M (Fl Unit Unit) := ((truth (bin dGt (getC 0) (pure (.int 0)))) >>= fun t => if t = true then ((bin dMod (un1 dInt (getC 0)) (pure a1)) >>= fun found_137 => ((bin dFdiv (getC 0) (pure a1)) >>= fun v => lft (asInt v) >>= fun n => setC 0 n >>= fun _ => ((pure found_137) >>= fun d => pure (.rt d)))) else ((bin dMod (un1 dInt (bin dAdd (bin dMul (getC 1) (pure (.int 31051))) (pure (.int 7993)))) (pure (.int 2147483543))) >>= fun v => lft (asInt v) >>= fun n => setC 1 n >>= fun _ => ((bin dMod (un1 dInt (bin dMul (getC 1) (bin dAdd (getC 1) (pure (.int 229))))) (pure (.int 2147483587))) >>= fun deep_138 => ((bin dMod (un1 dInt (bin dFdiv (pure deep_138) (pure (.int 821)))) (pure a1)) >>= fun d => pure (.rt d)))))
def m__law_roll (a1 : D) : M D := runF (b__law_roll a1)
theorem c__law_roll (T : Top K mg) : Cl P w K mg base 2 "_law_roll" (spC K mg 1 (arg1 m__law_roll)) := by
  have S := sc__law_roll
  refine cl_cup (k := 1) (b := fun ds => match ds with | [a1] => b__law_roll a1 | _ => bad) (ρb := fun _ => [.un, .un, .un, .un]) (ρg := fun _ => []) T.d__law_roll S rfl (fun ds hl => ?_) (fun f cdv A outer s H Ex hr A' ds hl => ?_)
  · match ds, hl with
    | [a1], _ => rfl
  · match ds, hl with
    | [a1], _ =>
      show PSs (XD P w K mg base _ "_law_roll" (top 52) f cdv A outer s H Ex) _ (tB K A' (EB mg Ex) [.cup, .val a1, .un, .un] (fun _ => [.un, .un, .un, .un]) (fun _ => []) (b__law_roll a1))
      unfold b__law_roll
      exact (b_if (et_cmp bo_gt (od_gt hr) (ev_cup0 (i := 0) rfl (pv 0)) ev_int rfl) (b_set (i := 2) S.nd rfl (by first | exact Or.inl rfl | exact Or.inr rfl) (ev_bin od_mod (ev_callT1 cd_int rfl T.z_int rfl (ev_cup0 (i := 0) rfl (pv 0))) (vv 1)) (fun found_137 => (b_cupset (i := 0) (k := 0) (by decide) rfl (pv 0) (ev_bin od_fdiv (ev_cup0 (i := 0) rfl (pv 0)) (vv 1)) (b_ret (vv 2))))) (b_cupset (i := 0) (k := 1) (by decide) rfl (pv 0) (ev_bin od_mod (ev_callT1 cd_int rfl T.z_int rfl (ev_bin od_add (ev_bin od_mul (ev_cup1 (i := 0) rfl (pv 0)) ev_int) ev_int)) ev_int) (b_set (i := 3) S.nd rfl (by first | exact Or.inl rfl | exact Or.inr rfl) (ev_bin od_mod (ev_callT1 cd_int rfl T.z_int rfl (ev_bin od_mul (ev_cup1 (i := 0) rfl (pv 0)) (ev_bin od_add (ev_cup1 (i := 0) rfl (pv 0)) ev_int))) ev_int) (fun deep_138 => (b_ret (ev_bin od_mod (ev_callT1 cd_int rfl T.z_int rfl (ev_bin od_fdiv (vv 3) ev_int)) (vv 1)))))))

theorem sc__law_some : FnScope ["cup", "things"] ["cup", "things"] (defScope (top 53)) := ⟨rfl, rfl, rfl, by decide +kernel, rfl, by decide +kernel, by decide +kernel⟩
def b__law_some (a1 : D) : M (Fl Unit Unit) := ((bin dIx (pure a1) ((un1 dLen (pure a1)) >>= m__law_roll)) >>= fun d => pure (.rt d))
def m__law_some (a1 : D) : M D := runF (b__law_some a1)
theorem c__law_some (T : Top K mg) : Cl P w K mg base 4 "_law_some" (spC K mg 1 (arg1 m__law_some)) := by
  have S := sc__law_some
  refine cl_cup (k := 3) (b := fun ds => match ds with | [a1] => b__law_some a1 | _ => bad) (ρb := fun _ => [.un, .un]) (ρg := fun _ => []) T.d__law_some S rfl (fun ds hl => ?_) (fun f cdv A outer s H Ex hr A' ds hl => ?_)
  · match ds, hl with
    | [a1], _ => rfl
  · match ds, hl with
    | [a1], _ =>
      show PSs (XD P w K mg base _ "_law_some" (top 53) f cdv A outer s H Ex) _ (tB K A' (EB mg Ex) [.cup, .val a1] (fun _ => [.un, .un]) (fun _ => []) (b__law_some a1))
      unfold b__law_some
      exact (b_ret (ev_ix (vv 1) (cc1 0 (c__law_roll T) wshB hr (ev_call1 cd_len rfl T.z_len rfl (vv 1)))))

theorem sc__law_flat : FnScope ["cup", "half", "rows", "left", "order", "own", "found", "first", "second", "both", "row", "one", "other", "answer"] ["cup", "half"] (defScope (top 59)) := ⟨rfl, rfl, rfl, by decide +kernel, rfl, by decide +kernel, by decide +kernel⟩
def b__law_flat (a1 : D) : M (Fl Unit Unit) := (((pure a1) >>= m__law_rows) >>= fun rows_139 => ((un1 dLen ((pure a1) >>= m__law_rows)) >>= fun d => lft (dRange1 d)) >>= fun left_140 => ((seqM []) >>= fun order_141 => (lstM (((pure rows_139) >>= fun d => lft (dItems d)) >>= mapC (fun d => lft (some d) >>= fun row_143 => ((pure (.int 2)) >>= m__law_roll)))) >>= fun own_142 => (seqF (whileF (τ := List D × List D) (fun t_144 => (nex (truth (bin dNe (pure (.list t_144.1)) (lstM (seqM [])))))) (fun t_144 => ((nex (((un1 dLen (pure (.list t_144.1))) >>= m__law_roll) >>= fun d => lft (flatO d))) >>= fun d => lft (popI t_144.1 d) >>= fun r => lft (fitL t_144.2) >>= fun y => (fun left_145 order_146 => (pure (.nx (left_145, order_146)))) r.2 (y ++ [r.1]))) 100000 (left_140, order_141)) (fun t_144 => ((pure (.str "")) >>= fun found_147 => (((pure rows_139) >>= fun d => lft (dItems d)) >>= fun ds => seqF (forF (τ := D) (fun d t_148 => lft (some d) >>= fun first_149 => (((un1 dLen (pure rows_139)) >>= fun d => lft (dRange1 d)) >>= fun ds => seqF (forF (τ := D) (fun d t_150 => lft (some d) >>= fun second_151 => ((un1 dSum (lstM (((pure first_149) >>= fun d => (bin dIx (pure rows_139) (bin dIx (pure (.list t_144.2)) (pure second_151))) >>= fun e => lft (dZip d e)) >>= filtC (fun d => lft (par2 d) >>= fun t_153 => whn (andT (truth (bin dEq (pure t_153.1) (pure (.int 1)))) (truth (bin dEq (pure t_153.2) (pure (.int 1))))) (pure (.int 1)))))) >>= fun both_152 => ((bin dAdd (pure t_150) (un1 dStr (bin dMod (un1 dInt (bin dAdd (pure both_152) (bin dIx (pure own_142) (pure second_151)))) (pure (.int 2))))) >>= fun found_154 => (pure (.nx found_154))))) ds t_148) (fun t_150 => (pure (.nx t_150))))) ds found_147) (fun t_148 => ((tupM [(un1 dTuple (pure (.list t_144.2))), (joinM (pure (.str "")) (lstM (((pure own_142) >>= fun d => lft (dItems d)) >>= mapC (fun d => lft (some d) >>= fun answer_155 => (un1 dStr (pure answer_155)))))), (pure t_148)]) >>= fun d => pure (.rt d)))))))))
def m__law_flat (a1 : D) : M D := runF (b__law_flat a1)
theorem c__law_flat (T : Top K mg) : Cl P w K mg base 4 "_law_flat" (spC K mg 1 (arg1 m__law_flat)) := by
  have S := sc__law_flat
  refine cl_cup (k := 3) (b := fun ds => match ds with | [a1] => b__law_flat a1 | _ => bad) (ρb := fun _ => [.un, .un, .un, .un, .un, .un, .un, .un, .un, .un, .un, .un, .un, .un]) (ρg := fun _ => []) T.d__law_flat S rfl (fun ds hl => ?_) (fun f cdv A outer s H Ex hr A' ds hl => ?_)
  · match ds, hl with
    | [a1], _ => rfl
  · match ds, hl with
    | [a1], _ =>
      show PSs (XD P w K mg base _ "_law_flat" (top 59) f cdv A outer s H Ex) _ (tB K A' (EB mg Ex) [.cup, .val a1, .un, .un, .un, .un, .un, .un, .un, .un, .un, .un, .un, .un] (fun _ => [.un, .un, .un, .un, .un, .un, .un, .un, .un, .un, .un, .un, .un, .un]) (fun _ => []) (b__law_flat a1))
      unfold b__law_flat
      exact (b_par2 (i := 2) (j := 3) rfl S.nd rfl rfl (by decide) rfl rfl (sv (ec1 (c__law_rows T) wshB hr (vv 1))) (so (eo_listRg1 rfl rfl T.z_list rfl T.z_range (ev_call1 cd_len rfl T.z_len rfl (ec1 (c__law_rows T) wshB hr (vv 1))))) (fun rows_139 left_140 => (b_par2 (i := 4) (j := 5) rfl S.nd rfl rfl (by decide) rfl rfl (so (eo_lst ea_nil (Nat.le_of_ble_eq_true rfl))) (sv (ev_own (eo_lc (own := [("row", 10)]) (un := some) rfl S.nd (ei_val (vv 2)) (blkOk rfl) (fun _ _ _ _ _ => (pg_name (i := 10) S.nd rfl (by first | exact Or.inl rfl | exact Or.inr rfl))) (tgt_name (is := [10]) (i := 10) (by decide)) (fun row_143 _ _ _ _ _ => (cc1 0 (c__law_roll T) wshN hr ev_int))))) (fun order_141 own_142 => (b_while (ρi := fun t_144 => [.cup, .val a1, .val rows_139, .own t_144.1, .own t_144.2, .val own_142, .un, .un, .un, .un, .un, .un, .un, .un]) (t0 := (left_140, order_141)) ownB (.eq (.eq (.eq (.eq (.eq (.eq (.un (.un (.un (.un (.un (.un (.un (.un .nil)))))))))))))) (fun t_144 => (et_nex (et_bor (i := 3) rfl (et_cmp bo_ne (od_ne hr) (vv 3) (ev_own (eo_lst ea_nil (Nat.le_of_ble_eq_true rfl))) rfl)))) (fun t_144 => (b_appPop (i := 3) (j := 4) (mr := fun left_145 order_146 => (pure (.nx (left_145, order_146)))) (by decide) rfl rfl (pv 3) (pv 4) (ev_nex (ev_bor (i := 3) rfl (cc1 0 (c__law_roll T) wshN hr (ev_call1 cd_len rfl T.z_len rfl (vv 3))))) (fun left_145 order_146 => (b_nil (.eq (.eq (.eq (.eq (.eq (.eq (.un (.un (.un (.un (.un (.un (.un (.un .nil)))))))))))))))))) (fun t_144 => (b_freeze (i := 3) rfl (b_freeze (i := 4) rfl (b_set (i := 6) S.nd rfl (by first | exact Or.inl rfl | exact Or.inr rfl) ev_str (fun found_147 => (b_for (ρi := fun t_148 => [.cup, .val a1, .val rows_139, .val (.list t_144.1), .val (.list t_144.2), .val own_142, .val t_148, .un, .un, .un, .un, .un, .un, .un]) (t0 := found_147) (un := some) ownB rfl (ei_val (vv 2)) (pg_name (i := 7) S.nd rfl (by first | exact Or.inl rfl | exact Or.inr rfl)) (.eq (.eq (.eq (.eq (.eq (.eq (.eq (.un (.un (.un (.un (.un (.un (.un .nil)))))))))))))) (fun t_148 => (tgt_name (is := [7]) (i := 7) (by decide))) (fun t_148 first_149 => (b_for (ρi := fun t_150 => [.cup, .val a1, .val rows_139, .val (.list t_144.1), .val (.list t_144.2), .val own_142, .val t_150, .val first_149, .un, .un, .un, .un, .un, .un]) (t0 := t_148) (un := some) ownB rfl (ei_rng1 rfl T.z_range (ev_call1 cd_len rfl T.z_len rfl (vv 2))) (pg_name (i := 8) S.nd rfl (by first | exact Or.inl rfl | exact Or.inr rfl)) (.eq (.eq (.eq (.eq (.eq (.eq (.eq (.eq (.un (.un (.un (.un (.un (.un .nil)))))))))))))) (fun t_150 => (tgt_name (is := [8]) (i := 8) (by decide))) (fun t_150 second_151 => (b_set (i := 9) S.nd rfl (by first | exact Or.inl rfl | exact Or.inr rfl) (ev_call1 (cd_sum rfl) rfl T.z_sum rfl (ev_own (eo_lcif (own := [("one", 11), ("other", 12)]) (un := par2) rfl S.nd (ei_zip rfl T.z_zip (vv 7) (ev_ix (vv 2) (ev_ix (vv 4) (vv 8)))) (blkOk rfl) (fun _ _ _ _ _ => (pg_tup rfl (pgs_cons (pg_name (i := 11) S.nd rfl (by first | exact Or.inl rfl | exact Or.inr rfl)) (pgs_cons (pg_name (i := 12) S.nd rfl (by first | exact Or.inl rfl | exact Or.inr rfl)) pgs_nil)))) (tgt_par2 (is := [11, 12]) (i := 11) (j := 12) (by decide) (by decide)) (fun t_153 _ _ _ _ _ => (PW.pt (ew_and (et_cmp bo_eq (od_eq hr) (vv 11) ev_int rfl) (ew_and1 (et_cmp bo_eq (od_eq hr) (vv 12) ev_int rfl))))) (fun t_153 _ _ _ _ _ => ev_int)))) (fun both_152 => (b_set (i := 6) S.nd rfl (by first | exact Or.inl rfl | exact Or.inr rfl) (ev_bin od_add (vv 6) (ev_callT1 cd_str rfl T.z_str rfl (ev_bin od_mod (ev_callT1 cd_int rfl T.z_int rfl (ev_bin od_add (vv 9) (ev_ix (vv 5) (vv 8)))) ev_int))) (fun found_154 => (b_nil (.eq (.eq (.eq (.eq (.eq (.eq (.eq (.eq (.un (.un (.un (.un (.un (.un .nil)))))))))))))))))))) (fun t_150 => (b_nil (.eq (.eq (.eq (.eq (.eq (.eq (.eq (.un (.un (.un (.un (.un (.un (.un .nil)))))))))))))))))) (fun t_148 => (b_ret (ev_tup (ea_cons (ev_callT1 (cd_tuple rfl) rfl T.z_tuple rfl (vv 4)) (ea_cons (ev_join ev_str (ev_own (eo_lc (own := [("answer", 13)]) (un := some) rfl S.nd (ei_val (vv 5)) (blkOk rfl) (fun _ _ _ _ _ => (pg_name (i := 13) S.nd rfl (by first | exact Or.inl rfl | exact Or.inr rfl))) (tgt_name (is := [13]) (i := 13) (by decide)) (fun answer_155 _ _ _ _ _ => (ev_callT1 cd_str rfl T.z_str rfl (vv 13)))))) (ea_cons (vv 6) ea_nil))) (Nat.le_of_ble_eq_true rfl)))))))))))) rfl)) rfl)

theorem sc_need_flat : FnScope ["function"] ["function"] (defScope (top 39)) := ⟨rfl, rfl, rfl, by decide +kernel, rfl, by decide +kernel, by decide +kernel⟩
def b_need_flat (a0 : D) : M (Fl Unit Unit) := (((pure a0) >>= m_need_function) >>= fun u_156 => ((notT (truth ((pure a0) >>= m_is_flat_in))) >>= fun t => if t = true then bad else (pure (.nx ()))))
def m_need_flat (a0 : D) : M D := runF (b_need_flat a0)
theorem c_need_flat (T : Top K mg) : Cl P w K mg base 8 "need_flat" (spD K mg 1 (arg1 m_need_flat)) := by
  have S := sc_need_flat
  refine cl_of (k := 7) (b := fun ds => match ds with | [a0] => b_need_flat a0 | _ => bad) (ρb := fun _ => [.un]) (ρg := fun _ => []) T.d_need_flat S (fun ds hl => ?_) (fun f cdv A outer s H Ex hr A' ds hl => ?_)
  · match ds, hl with
    | [a0], _ => rfl
  · match ds, hl with
    | [a0], _ =>
      show PSs (XD P w K mg base _ "need_flat" (top 39) f cdv A outer s H Ex) _ (tB K A' (EB mg Ex) [.val a0] (fun _ => [.un]) (fun _ => []) (b_need_flat a0))
      unfold b_need_flat
      exact (b_expr (ec1 (c_need_function T) wshB hr (vv 0)) (fun u_156 => (b_if (et_not (et_truth (ec1 (c_is_flat_in T) wshB hr (vv 0)))) b_never (b_nil (.un .nil)))))

theorem sc_flat_dual : FnScope ["function", "number"] ["function"] (defScope (top 46)) := ⟨rfl, rfl, rfl, by decide +kernel, rfl, by decide +kernel, by decide +kernel⟩
def b_flat_dual (a0 : D) : M (Fl Unit Unit) := (((pure a0) >>= m_need_flat) >>= fun u_157 => ((joinM (pure (.str "")) (lstM ((((pure a0) >>= m_wave_in) >>= fun d => lft (dItems d)) >>= mapC (fun d => lft (some d) >>= fun number_158 => (ifM (truth (bin dGt (pure number_158) (pure (.int 0)))) (pure (.str "0")) (pure (.str "1"))))))) >>= fun d => pure (.rt d)))
def m_flat_dual (a0 : D) : M D := runF (b_flat_dual a0)
theorem c_flat_dual (T : Top K mg) : Cl P w K mg base 10 "flat_dual" (spD K mg 1 (arg1 m_flat_dual)) := by
  have S := sc_flat_dual
  refine cl_of (k := 9) (b := fun ds => match ds with | [a0] => b_flat_dual a0 | _ => bad) (ρb := fun _ => [.un, .un]) (ρg := fun _ => []) T.d_flat_dual S (fun ds hl => ?_) (fun f cdv A outer s H Ex hr A' ds hl => ?_)
  · match ds, hl with
    | [a0], _ => rfl
  · match ds, hl with
    | [a0], _ =>
      show PSs (XD P w K mg base _ "flat_dual" (top 46) f cdv A outer s H Ex) _ (tB K A' (EB mg Ex) [.val a0, .un] (fun _ => [.un, .un]) (fun _ => []) (b_flat_dual a0))
      unfold b_flat_dual
      exact (b_expr (ec1 (c_need_flat T) wshB hr (vv 0)) (fun u_157 => (b_ret (ev_join ev_str (ev_own (eo_lc (own := [("number", 1)]) (un := some) rfl S.nd (ei_val (ec1 (c_wave_in T) wshB hr (vv 0))) (blkOk rfl) (fun _ _ _ _ _ => (pg_name (i := 1) S.nd rfl (by first | exact Or.inl rfl | exact Or.inr rfl))) (tgt_name (is := [1]) (i := 1) (by decide)) (fun number_158 _ _ _ _ _ => (ev_if (et_cmp bo_gt (od_gt hr) (vv 1) ev_int rfl) ev_str ev_str))))))))

theorem sc_rows_in : FnScope ["many", "found", "turn", "row"] ["many"] (defScope (top 24)) := ⟨rfl, rfl, rfl, by decide +kernel, rfl, by decide +kernel, by decide +kernel⟩
def b_rows_in (a0 : D) : M (Fl Unit Unit) := ((lstM (seqM [(tupM [])])) >>= fun found_159 => (((pure a0) >>= fun d => lft (dRange1 d)) >>= fun ds => seqF (forF (τ := D) (fun d t_160 => lft (some d) >>= fun turn_161 => ((bin dAdd (lstM (((pure t_160) >>= fun d => lft (dItems d)) >>= mapC (fun d => lft (some d) >>= fun row_163 => (bin dAdd (pure row_163) (tupM [(pure (.int 0))]))))) (lstM (((pure t_160) >>= fun d => lft (dItems d)) >>= mapC (fun d => lft (some d) >>= fun row_164 => (bin dAdd (pure row_164) (tupM [(pure (.int 1))])))))) >>= fun found_162 => (pure (.nx found_162)))) ds found_159) (fun t_160 => ((lstM ((pure t_160) >>= fun d => lft (dSortL d))) >>= fun d => pure (.rt d)))))
def m_rows_in (a0 : D) : M D := runF (b_rows_in a0)
theorem c_rows_in (T : Top K mg) : Cl P w K mg base 2 "rows_in" (spD K mg 1 (arg1 m_rows_in)) := by
  have S := sc_rows_in
  refine cl_of (k := 1) (b := fun ds => match ds with | [a0] => b_rows_in a0 | _ => bad) (ρb := fun _ => [.un, .un, .un, .un]) (ρg := fun _ => []) T.d_rows_in S (fun ds hl => ?_) (fun f cdv A outer s H Ex hr A' ds hl => ?_)
  · match ds, hl with
    | [a0], _ => rfl
  · match ds, hl with
    | [a0], _ =>
      show PSs (XD P w K mg base _ "rows_in" (top 24) f cdv A outer s H Ex) _ (tB K A' (EB mg Ex) [.val a0, .un, .un, .un] (fun _ => [.un, .un, .un, .un]) (fun _ => []) (b_rows_in a0))
      unfold b_rows_in
      exact (b_set (i := 1) S.nd rfl (by first | exact Or.inl rfl | exact Or.inr rfl) (ev_own (eo_lst (ea_cons (ev_tup ea_nil (Nat.le_of_ble_eq_true rfl)) ea_nil) (Nat.le_of_ble_eq_true rfl))) (fun found_159 => (b_for (ρi := fun t_160 => [.val a0, .val t_160, .un, .un]) (t0 := found_159) (un := some) ownB rfl (ei_rng1 rfl T.z_range (vv 0)) (pg_name (i := 2) S.nd rfl (by first | exact Or.inl rfl | exact Or.inr rfl)) (.eq (.eq (.un (.un .nil)))) (fun t_160 => (tgt_name (is := [2]) (i := 2) (by decide))) (fun t_160 turn_161 => (b_set (i := 1) S.nd rfl (by first | exact Or.inl rfl | exact Or.inr rfl) (ev_bin od_add (ev_own (eo_lc (own := [("row", 3)]) (un := some) rfl S.nd (ei_val (vv 1)) (blkOk rfl) (fun _ _ _ _ _ => (pg_name (i := 3) S.nd rfl (by first | exact Or.inl rfl | exact Or.inr rfl))) (tgt_name (is := [3]) (i := 3) (by decide)) (fun row_163 _ _ _ _ _ => (ev_bin od_add (vv 3) (ev_tup (ea_cons ev_int ea_nil) (Nat.le_of_ble_eq_true rfl)))))) (ev_own (eo_lc (own := [("row", 3)]) (un := some) rfl S.nd (ei_val (vv 1)) (blkOk rfl) (fun _ _ _ _ _ => (pg_name (i := 3) S.nd rfl (by first | exact Or.inl rfl | exact Or.inr rfl))) (tgt_name (is := [3]) (i := 3) (by decide)) (fun row_164 _ _ _ _ _ => (ev_bin od_add (vv 3) (ev_tup (ea_cons ev_int ea_nil) (Nat.le_of_ble_eq_true rfl))))))) (fun found_162 => (b_nil (.eq (.eq (.un (.un .nil)))))))) (fun t_160 => (b_ret (ev_own (eo_sorted hr rfl T.z_sorted (vv 1))))))))

theorem sc_number_in : FnScope ["row", "found", "sign"] ["row"] (defScope (top 25)) := ⟨rfl, rfl, rfl, by decide +kernel, rfl, by decide +kernel, by decide +kernel⟩
def b_number_in (a0 : D) : M (Fl Unit Unit) := ((pure (.int 0)) >>= fun found_165 => (((pure a0) >>= fun d => lft (dItems d)) >>= fun ds => seqF (forF (τ := D) (fun d t_166 => lft (some d) >>= fun sign_167 => ((bin dAdd (bin dMul (pure (.int 2)) (pure t_166)) (pure sign_167)) >>= fun found_168 => (pure (.nx found_168)))) ds found_165) (fun t_166 => ((pure t_166) >>= fun d => pure (.rt d)))))
def m_number_in (a0 : D) : M D := runF (b_number_in a0)
theorem c_number_in (T : Top K mg) : Cl P w K mg base 2 "number_in" (spD K mg 1 (arg1 m_number_in)) := by
  have S := sc_number_in
  refine cl_of (k := 1) (b := fun ds => match ds with | [a0] => b_number_in a0 | _ => bad) (ρb := fun _ => [.un, .un, .un]) (ρg := fun _ => []) T.d_number_in S (fun ds hl => ?_) (fun f cdv A outer s H Ex hr A' ds hl => ?_)
  · match ds, hl with
    | [a0], _ => rfl
  · match ds, hl with
    | [a0], _ =>
      show PSs (XD P w K mg base _ "number_in" (top 25) f cdv A outer s H Ex) _ (tB K A' (EB mg Ex) [.val a0, .un, .un] (fun _ => [.un, .un, .un]) (fun _ => []) (b_number_in a0))
      unfold b_number_in
      exact (b_set (i := 1) S.nd rfl (by first | exact Or.inl rfl | exact Or.inr rfl) ev_int (fun found_165 => (b_for (ρi := fun t_166 => [.val a0, .val t_166, .un]) (t0 := found_165) (un := some) ownB rfl (ei_val (vv 0)) (pg_name (i := 2) S.nd rfl (by first | exact Or.inl rfl | exact Or.inr rfl)) (.eq (.eq (.un .nil))) (fun t_166 => (tgt_name (is := [2]) (i := 2) (by decide))) (fun t_166 sign_167 => (b_set (i := 1) S.nd rfl (by first | exact Or.inl rfl | exact Or.inr rfl) (ev_bin od_add (ev_bin od_mul ev_int (vv 1)) (vv 2)) (fun found_168 => (b_nil (.eq (.eq (.un .nil))))))) (fun t_166 => (b_ret (vv 1))))))

theorem sc_led_in : FnScope ["function", "order", "found", "row", "places", "sign"] ["function", "order"] (defScope (top 28)) := ⟨rfl, rfl, rfl, by decide +kernel, rfl, by decide +kernel, by decide +kernel⟩
def b_led_in (a0 a1 : D) : M (Fl Unit Unit) := ((seqM []) >>= fun found_169 => (((((pure a0) >>= m_count_in) >>= m_rows_in) >>= fun d => lft (dItems d)) >>= fun ds => seqF (forF (τ := List D) (fun d t_170 => lft (some d) >>= fun row_171 => ((pure a1) >>= fun d => (pure row_171) >>= fun e => lft (dDictZip d e) >>= fun places_172 => ((bin dIx (pure a0) ((lstM (((un1 dLen (pure row_171)) >>= fun d => lft (dRange1 d)) >>= mapC (fun d => lft (some d) >>= fun sign_173 => ((pure sign_173) >>= fun d => lft (dGet places_172 d))))) >>= m_number_in)) >>= fun v_174 => lft (fitL t_170) >>= fun y => (fun found_175 => (pure (.nx found_175))) (y ++ [v_174])))) ds found_169) (fun t_170 => ((joinM (pure (.str "")) (pure (.list t_170))) >>= fun d => pure (.rt d)))))
def m_led_in (a0 a1 : D) : M D := runF (b_led_in a0 a1)
theorem c_led_in (T : Top K mg) : Cl P w K mg base 4 "led_in" (spD K mg 2 (arg2 m_led_in)) := by
  have S := sc_led_in
  refine cl_of (k := 3) (b := fun ds => match ds with | [a0, a1] => b_led_in a0 a1 | _ => bad) (ρb := fun _ => [.un, .un, .un, .un, .un, .un]) (ρg := fun _ => []) T.d_led_in S (fun ds hl => ?_) (fun f cdv A outer s H Ex hr A' ds hl => ?_)
  · match ds, hl with
    | [a0, a1], _ => rfl
  · match ds, hl with
    | [a0, a1], _ =>
      show PSs (XD P w K mg base _ "led_in" (top 28) f cdv A outer s H Ex) _ (tB K A' (EB mg Ex) [.val a0, .val a1, .un, .un, .un, .un] (fun _ => [.un, .un, .un, .un, .un, .un]) (fun _ => []) (b_led_in a0 a1))
      unfold b_led_in
      exact (b_own (i := 2) S.nd rfl (by first | exact Or.inl rfl | exact Or.inr rfl) (eo_lst ea_nil (Nat.le_of_ble_eq_true rfl)) (fun found_169 => (b_for (ρi := fun t_170 => [.val a0, .val a1, .own t_170, .un, .un, .un]) (t0 := found_169) (un := some) ownB rfl (ei_val (ec1 (c_rows_in T) wshB hr (ec1 (c_count_in T) wshB hr (vv 0)))) (pg_name (i := 3) S.nd rfl (by first | exact Or.inl rfl | exact Or.inr rfl)) (.eq (.eq (.eq (.un (.un (.un .nil)))))) (fun t_170 => (tgt_name (is := [3]) (i := 3) (by decide))) (fun t_170 row_171 => (b_kn2 (i := 4) S.nd rfl (by first | exact Or.inl rfl | exact Or.inr rfl) (ek_dictZip rfl rfl T.z_dict rfl T.z_zip (vv 1) (vv 3)) (fun places_172 => (b_app (i := 2) (mr := fun found_175 => (pure (.nx found_175))) rfl (pv 2) (ev_ix (vv 0) (ec1 (c_number_in T) wshB hr (ev_own (eo_lc (own := [("sign", 5)]) (un := some) rfl S.nd (ei_rng1 rfl T.z_range (ev_call1 cd_len rfl T.z_len rfl (vv 3))) (blkOk rfl) (fun _ _ _ _ _ => (pg_name (i := 5) S.nd rfl (by first | exact Or.inl rfl | exact Or.inr rfl))) (tgt_name (is := [5]) (i := 5) (by decide)) (fun sign_173 _ _ _ _ _ => (ev_dget (i := 4) hr (vv 5) rfl (pv 4) (fun _ _ => rfl))))))) (fun found_175 => (b_nil (.eq (.eq (.eq (.un (.un (.un .nil)))))))))))) (fun t_170 => (b_freeze (i := 2) rfl (b_ret (ev_join ev_str (vv 2))))))))

theorem sc_led : FnScope ["function", "order", "many", "sign"] ["function", "order"] (defScope (top 31)) := ⟨rfl, rfl, rfl, by decide +kernel, rfl, by decide +kernel, by decide +kernel⟩
def b_led (a0 a1 : D) : M (Fl Unit Unit) := (((pure a0) >>= m_need_function) >>= fun u_176 => (((pure a0) >>= m_count_in) >>= fun many_177 => ((orT (notT (truth ((pure a1) >>= fun a_178 => (pure many_177) >>= fun a_179 => (pure many_177) >>= fun a_180 => m_is_tuple_of a_178 a_179 a_180))) (notT (truth (un1 dAll (lstM (((pure a1) >>= fun d => lft (dItems d)) >>= mapC (fun d => lft (some d) >>= fun sign_181 => ((pure sign_181) >>= fun a_182 => (pure (.int 0)) >>= fun a_183 => (bin dSub (pure many_177) (pure (.int 1))) >>= fun a_184 => m_is_whole a_182 a_183 a_184)))))))) >>= fun t => if t = true then bad else ((truth (bin dNe (lstM ((pure a1) >>= fun d => lft (dSortL d))) (lstM ((pure many_177) >>= fun d => lft (dRange1 d))))) >>= fun t => if t = true then bad else (((pure a0) >>= fun a_185 => (pure a1) >>= fun a_186 => m_led_in a_185 a_186) >>= fun d => pure (.rt d))))))
def m_led (a0 a1 : D) : M D := runF (b_led a0 a1)
theorem c_led (T : Top K mg) : Cl P w K mg base 8 "led" (spD K mg 2 (arg2 m_led)) := by
  have S := sc_led
  refine cl_of (k := 7) (b := fun ds => match ds with | [a0, a1] => b_led a0 a1 | _ => bad) (ρb := fun _ => [.un, .un, .un, .un]) (ρg := fun _ => []) T.d_led S (fun ds hl => ?_) (fun f cdv A outer s H Ex hr A' ds hl => ?_)
  · match ds, hl with
    | [a0, a1], _ => rfl
  · match ds, hl with
    | [a0, a1], _ =>
      show PSs (XD P w K mg base _ "led" (top 31) f cdv A outer s H Ex) _ (tB K A' (EB mg Ex) [.val a0, .val a1, .un, .un] (fun _ => [.un, .un, .un, .un]) (fun _ => []) (b_led a0 a1))
      unfold b_led
      exact (b_expr (ec1 (c_need_function T) wshB hr (vv 0)) (fun u_176 => (b_set (i := 2) S.nd rfl (by first | exact Or.inl rfl | exact Or.inr rfl) (ec1 (c_count_in T) wshB hr (vv 0)) (fun many_177 => (b_if (PW.pt (ew_or (et_not (et_truth (ec3 (c_is_tuple_of T) wshB hr (vv 1) (vv 2) (vv 2)))) (ew_or1 (et_not (et_truth (ev_call1 (cd_all rfl) rfl T.z_all rfl (ev_own (eo_lc (own := [("sign", 3)]) (un := some) rfl S.nd (ei_val (vv 1)) (blkOk rfl) (fun _ _ _ _ _ => (pg_name (i := 3) S.nd rfl (by first | exact Or.inl rfl | exact Or.inr rfl))) (tgt_name (is := [3]) (i := 3) (by decide)) (fun sign_181 _ _ _ _ _ => (ec3 (c_is_whole T) wshN hr (vv 3) ev_int (ev_bin od_sub (vv 2) ev_int))))))))))) b_never (b_if (et_cmp bo_ne (od_ne hr) (ev_own (eo_sorted hr rfl T.z_sorted (vv 1))) (ev_own (eo_listRg1 rfl rfl T.z_list rfl T.z_range (vv 2))) rfl) b_never (b_ret (ec2 (c_led_in T) wshB hr (vv 0) (vv 1)))))))))

theorem sc_sign_count : FnScope ["function"] ["function"] (defScope (top 29)) := ⟨rfl, rfl, rfl, by decide +kernel, rfl, by decide +kernel, by decide +kernel⟩
def b_sign_count (a0 : D) : M (Fl Unit Unit) := (((pure a0) >>= m_need_function) >>= fun u_187 => (((pure a0) >>= m_count_in) >>= fun d => pure (.rt d)))
def m_sign_count (a0 : D) : M D := runF (b_sign_count a0)
theorem c_sign_count (T : Top K mg) : Cl P w K mg base 8 "sign_count" (spD K mg 1 (arg1 m_sign_count)) := by
  have S := sc_sign_count
  refine cl_of (k := 7) (b := fun ds => match ds with | [a0] => b_sign_count a0 | _ => bad) (ρb := fun _ => [.un]) (ρg := fun _ => []) T.d_sign_count S (fun ds hl => ?_) (fun f cdv A outer s H Ex hr A' ds hl => ?_)
  · match ds, hl with
    | [a0], _ => rfl
  · match ds, hl with
    | [a0], _ =>
      show PSs (XD P w K mg base _ "sign_count" (top 29) f cdv A outer s H Ex) _ (tB K A' (EB mg Ex) [.val a0] (fun _ => [.un]) (fun _ => []) (b_sign_count a0))
      unfold b_sign_count
      exact (b_expr (ec1 (c_need_function T) wshB hr (vv 0)) (fun u_187 => (b_ret (ec1 (c_count_in T) wshB hr (vv 0)))))

theorem sc_need_alike : FnScope ["function", "value"] ["function", "value"] (defScope (top 22)) := ⟨rfl, rfl, rfl, by decide +kernel, rfl, by decide +kernel, by decide +kernel⟩
def b_need_alike (a0 a1 : D) : M (Fl Unit Unit) := ((orT (notT (truth ((pure a1) >>= m_fits_function))) (truth (bin dNe (un1 dLen (pure a1)) (un1 dLen (pure a0))))) >>= fun t => if t = true then bad else (pure (.nx ())))
def m_need_alike (a0 a1 : D) : M D := runF (b_need_alike a0 a1)
theorem c_need_alike (T : Top K mg) : Cl P w K mg base 6 "need_alike" (spD K mg 2 (arg2 m_need_alike)) := by
  have S := sc_need_alike
  refine cl_of (k := 5) (b := fun ds => match ds with | [a0, a1] => b_need_alike a0 a1 | _ => bad) (ρb := fun _ => [.un, .un]) (ρg := fun _ => []) T.d_need_alike S (fun ds hl => ?_) (fun f cdv A outer s H Ex hr A' ds hl => ?_)
  · match ds, hl with
    | [a0, a1], _ => rfl
  · match ds, hl with
    | [a0, a1], _ =>
      show PSs (XD P w K mg base _ "need_alike" (top 22) f cdv A outer s H Ex) _ (tB K A' (EB mg Ex) [.val a0, .val a1] (fun _ => [.un, .un]) (fun _ => []) (b_need_alike a0 a1))
      unfold b_need_alike
      exact (b_if (PW.pt (ew_or (et_not (et_truth (ec1 (c_fits_function T) wshB hr (vv 1)))) (ew_or1 (et_cmp bo_ne (od_ne hr) (ev_call1 cd_len rfl T.z_len rfl (vv 1)) (ev_call1 cd_len rfl T.z_len rfl (vv 0)) rfl)))) b_never (b_nil (.un (.un .nil))))

theorem sc_function_by : FnScope ["answers", "answer"] ["answers"] (defScope (top 26)) := ⟨rfl, rfl, rfl, by decide +kernel, rfl, by decide +kernel, by decide +kernel⟩
def b_function_by (a0 : D) : M (Fl Unit Unit) := ((joinM (pure (.str "")) (lstM (((pure a0) >>= fun d => lft (dItems d)) >>= mapC (fun d => lft (some d) >>= fun answer_188 => (ifM (truth (pure answer_188)) (pure (.str "1")) (pure (.str "0"))))))) >>= fun d => pure (.rt d))
def m_function_by (a0 : D) : M D := runF (b_function_by a0)
theorem c_function_by (T : Top K mg) : Cl P w K mg base 2 "function_by" (spD K mg 1 (arg1 m_function_by)) := by
  have S := sc_function_by
  refine cl_of (k := 1) (b := fun ds => match ds with | [a0] => b_function_by a0 | _ => bad) (ρb := fun _ => [.un, .un]) (ρg := fun _ => []) T.d_function_by S (fun ds hl => ?_) (fun f cdv A outer s H Ex hr A' ds hl => ?_)
  · match ds, hl with
    | [a0], _ => rfl
  · match ds, hl with
    | [a0], _ =>
      show PSs (XD P w K mg base _ "function_by" (top 26) f cdv A outer s H Ex) _ (tB K A' (EB mg Ex) [.val a0, .un] (fun _ => [.un, .un]) (fun _ => []) (b_function_by a0))
      unfold b_function_by
      exact (b_ret (ev_join ev_str (ev_own (eo_lc (own := [("answer", 1)]) (un := some) rfl S.nd (ei_val (vv 0)) (blkOk rfl) (fun _ _ _ _ _ => (pg_name (i := 1) S.nd rfl (by first | exact Or.inl rfl | exact Or.inr rfl))) (tgt_name (is := [1]) (i := 1) (by decide)) (fun answer_188 _ _ _ _ _ => (ev_if (et_truth (vv 1)) ev_str ev_str))))))

theorem sc_joined_in : FnScope ["function", "other", "word", "pairs", "one", "two"] ["function", "other", "word"] (defScope (top 27)) := ⟨rfl, rfl, rfl, by decide +kernel, rfl, by decide +kernel, by decide +kernel⟩
def b_joined_in (a0 a1 a2 : D) : M (Fl Unit Unit) := ((lstM ((pure a0) >>= fun d => (pure a1) >>= fun e => lft (dZipL d e))) >>= fun pairs_189 => ((truth (bin dEq (pure a2) (pure K_SUM))) >>= fun t => if t = true then (((lstM (((pure pairs_189) >>= fun d => lft (dItems d)) >>= mapC (fun d => lft (par2 d) >>= fun t_190 => (bin dNe (pure t_190.1) (pure t_190.2))))) >>= m_function_by) >>= fun d => pure (.rt d)) else ((truth (bin dEq (pure a2) (pure K_AND))) >>= fun t => if t = true then (((lstM (((pure pairs_189) >>= fun d => lft (dItems d)) >>= mapC (fun d => lft (par2 d) >>= fun t_191 => (chn dEq dEq (pure t_191.1) (pure t_191.2) (pure (.str "1")))))) >>= m_function_by) >>= fun d => pure (.rt d)) else (((lstM (((pure pairs_189) >>= fun d => lft (dItems d)) >>= mapC (fun d => lft (par2 d) >>= fun t_192 => (orV (bin dEq (pure t_192.1) (pure (.str "1"))) (bin dEq (pure t_192.2) (pure (.str "1"))))))) >>= m_function_by) >>= fun d => pure (.rt d)))))
def m_joined_in (a0 a1 a2 : D) : M D := runF (b_joined_in a0 a1 a2)
theorem c_joined_in (T : Top K mg) : Cl P w K mg base 4 "joined_in" (spD K mg 3 (arg3 m_joined_in)) := by
  have S := sc_joined_in
  refine cl_of (k := 3) (b := fun ds => match ds with | [a0, a1, a2] => b_joined_in a0 a1 a2 | _ => bad) (ρb := fun _ => [.un, .un, .un, .un, .un, .un]) (ρg := fun _ => []) T.d_joined_in S (fun ds hl => ?_) (fun f cdv A outer s H Ex hr A' ds hl => ?_)
  · match ds, hl with
    | [a0, a1, a2], _ => rfl
  · match ds, hl with
    | [a0, a1, a2], _ =>
      show PSs (XD P w K mg base _ "joined_in" (top 27) f cdv A outer s H Ex) _ (tB K A' (EB mg Ex) [.val a0, .val a1, .val a2, .un, .un, .un] (fun _ => [.un, .un, .un, .un, .un, .un]) (fun _ => []) (b_joined_in a0 a1 a2))
      unfold b_joined_in
      exact (b_set (i := 3) S.nd rfl (by first | exact Or.inl rfl | exact Or.inr rfl) (ev_own (eo_listZip rfl rfl T.z_list rfl T.z_zip (vv 0) (vv 1))) (fun pairs_189 => (b_if (et_cmp bo_eq (od_eq hr) (vv 2) (ev_gc T.g_SUM rfl) rfl) (b_ret (ec1 (c_function_by T) wshB hr (ev_own (eo_lc (own := [("one", 4), ("two", 5)]) (un := par2) rfl S.nd (ei_val (vv 3)) (blkOk rfl) (fun _ _ _ _ _ => (pg_tup rfl (pgs_cons (pg_name (i := 4) S.nd rfl (by first | exact Or.inl rfl | exact Or.inr rfl)) (pgs_cons (pg_name (i := 5) S.nd rfl (by first | exact Or.inl rfl | exact Or.inr rfl)) pgs_nil)))) (tgt_par2 (is := [4, 5]) (i := 4) (j := 5) (by decide) (by decide)) (fun t_190 _ _ _ _ _ => (ev_cmp (od_ne hr) (vv 4) (vv 5) rfl)))))) (b_if (et_cmp bo_eq (od_eq hr) (vv 2) (ev_gc T.g_AND rfl) rfl) (b_ret (ec1 (c_function_by T) wshB hr (ev_own (eo_lc (own := [("one", 4), ("two", 5)]) (un := par2) rfl S.nd (ei_val (vv 3)) (blkOk rfl) (fun _ _ _ _ _ => (pg_tup rfl (pgs_cons (pg_name (i := 4) S.nd rfl (by first | exact Or.inl rfl | exact Or.inr rfl)) (pgs_cons (pg_name (i := 5) S.nd rfl (by first | exact Or.inl rfl | exact Or.inr rfl)) pgs_nil)))) (tgt_par2 (is := [4, 5]) (i := 4) (j := 5) (by decide) (by decide)) (fun t_191 _ _ _ _ _ => (ev_chn (od_eq hr) (od_eq hr) (vv 4) (vv 5) ev_str)))))) (b_ret (ec1 (c_function_by T) wshB hr (ev_own (eo_lc (own := [("one", 4), ("two", 5)]) (un := par2) rfl S.nd (ei_val (vv 3)) (blkOk rfl) (fun _ _ _ _ _ => (pg_tup rfl (pgs_cons (pg_name (i := 4) S.nd rfl (by first | exact Or.inl rfl | exact Or.inr rfl)) (pgs_cons (pg_name (i := 5) S.nd rfl (by first | exact Or.inl rfl | exact Or.inr rfl)) pgs_nil)))) (tgt_par2 (is := [4, 5]) (i := 4) (j := 5) (by decide) (by decide)) (fun t_192 _ _ _ _ _ => (ev_or (ev_cmp (od_eq hr) (vv 4) ev_str rfl) (ev_one (ev_cmp (od_eq hr) (vv 5) ev_str rfl))))))))))))

theorem sc_joined : FnScope ["function", "other", "word"] ["function", "other", "word"] (defScope (top 30)) := ⟨rfl, rfl, rfl, by decide +kernel, rfl, by decide +kernel, by decide +kernel⟩
def b_joined (a0 a1 a2 : D) : M (Fl Unit Unit) := (((pure a0) >>= m_need_function) >>= fun u_193 => (((pure a0) >>= fun a_194 => (pure a1) >>= fun a_195 => m_need_alike a_194 a_195) >>= fun u_196 => ((orT (notT (truth (un1 (dIsi .str) (pure a2)))) (truth (bin dNotIn (pure a2) (pure K_WORDS)))) >>= fun t => if t = true then bad else (((pure a0) >>= fun a_197 => (pure a1) >>= fun a_198 => (pure a2) >>= fun a_199 => m_joined_in a_197 a_198 a_199) >>= fun d => pure (.rt d)))))
def m_joined (a0 a1 a2 : D) : M D := runF (b_joined a0 a1 a2)
theorem c_joined (T : Top K mg) : Cl P w K mg base 8 "joined" (spD K mg 3 (arg3 m_joined)) := by
  have S := sc_joined
  refine cl_of (k := 7) (b := fun ds => match ds with | [a0, a1, a2] => b_joined a0 a1 a2 | _ => bad) (ρb := fun _ => [.un, .un, .un]) (ρg := fun _ => []) T.d_joined S (fun ds hl => ?_) (fun f cdv A outer s H Ex hr A' ds hl => ?_)
  · match ds, hl with
    | [a0, a1, a2], _ => rfl
  · match ds, hl with
    | [a0, a1, a2], _ =>
      show PSs (XD P w K mg base _ "joined" (top 30) f cdv A outer s H Ex) _ (tB K A' (EB mg Ex) [.val a0, .val a1, .val a2] (fun _ => [.un, .un, .un]) (fun _ => []) (b_joined a0 a1 a2))
      unfold b_joined
      exact (b_expr (ec1 (c_need_function T) wshB hr (vv 0)) (fun u_193 => (b_expr (ec2 (c_need_alike T) wshB hr (vv 0) (vv 1)) (fun u_196 => (b_if (PW.pt (ew_or (et_not (et_truth (ev_isi cd_isStr rfl T.z_isinstance rfl T.z_str rfl (vv 2)))) (ew_or1 (et_cmp bo_notIn (od_notIn hr) (vv 2) (ev_gc T.g_WORDS rfl) rfl)))) b_never (b_ret (ec3 (c_joined_in T) wshB hr (vv 0) (vv 1) (vv 2))))))))

theorem sc__law_right : FnScope ["cup", "half", "order", "own", "function", "rows", "more", "other", "back", "at", "number", "turned", "due", "row", "one", "second"] ["cup", "half"] (defScope (top 62)) := ⟨rfl, rfl, rfl, by decide +kernel, rfl, by decide +kernel, by decide +kernel⟩
def b__law_right (a1 : D) : M (Fl Unit Unit) := (((pure a1) >>= m__law_flat) >>= fun d => lft (par3 d) >>= fun t_200 => ((notT (truth ((lstM (seqM [((pure t_200.1) >>= fun a_201 => (pure t_200.2.1) >>= fun a_202 => m_flat_by_order a_201 a_202), ((pure t_200.2.2) >>= m_order_of_flat), ((pure t_200.2.2) >>= m_is_flat)])) >>= fun a_203 => (lstM (seqM [(pure t_200.2.2), (tupM [(pure t_200.1), (pure t_200.2.1)]), (pure (.bool true))])) >>= fun a_204 => (m__law_like 10) a_203 a_204))) >>= fun t => if t = true then ((pure (.bool false)) >>= fun d => pure (.rt d)) else (((pure a1) >>= m__law_rows) >>= fun rows_205 => ((joinM (pure (.str "")) (lstM (((pure rows_205) >>= fun d => lft (dItems d)) >>= mapC (fun d => lft (some d) >>= fun row_207 => (un1 dStr ((pure (.int 2)) >>= m__law_roll)))))) >>= fun more_206 => ((joinM (pure (.str "")) (lstM (((pure t_200.2.1) >>= fun d => (pure more_206) >>= fun e => lft (dZip d e)) >>= mapC (fun d => lft (par2 d) >>= fun t_209 => (un1 dStr (un1 dInt (bin dNe (pure t_209.1) (pure t_209.2)))))))) >>= fun other_208 => ((notT (truth ((lstM (seqM [((pure t_200.2.2) >>= fun a_210 => (bin dMul (pure more_206) (un1 dLen (pure rows_205))) >>= fun a_211 => (pure (.str "sum")) >>= fun a_212 => m_joined a_210 a_211 a_212), ((pure t_200.1) >>= fun a_213 => (pure other_208) >>= fun a_214 => m_flat_by_order a_213 a_214)])) >>= fun a_218 => (lstM ((seqM [((pure t_200.1) >>= fun a_215 => (pure other_208) >>= fun a_216 => m_flat_by_order a_215 a_216)]) >>= fun xs_217 => (pure (.int 2)) >>= fun k => lft (repL xs_217 k))) >>= fun a_219 => (m__law_like 10) a_218 a_219))) >>= fun t => if t = true then ((pure (.bool false)) >>= fun d => pure (.rt d)) else (((seqM [(pure (.int 0))]) >>= fun xs_221 => (un1 dLen (pure t_200.1)) >>= fun k => lft (repL xs_221 k)) >>= fun back_220 => (((pure t_200.1) >>= fun d => lft (dEnum d)) >>= fun ds => seqF (forF (τ := List D) (fun d t_222 => lft (par2 d) >>= fun t_223 => ((pure t_223.1) >>= fun v_224 => (pure t_223.2) >>= fun k_225 => lft (setAt t_222 k_225 v_224) >>= fun back_226 => (pure (.nx back_226)))) ds back_220) (fun t_222 => ((bin dAdd ((pure a1) >>= fun d => (bin dMul (pure (.int 2)) (pure a1)) >>= fun e => lft (dRange2 d e) >>= fun xs => pure (.tuple xs)) ((pure a1) >>= fun d => lft (dRange1 d) >>= fun xs => pure (.tuple xs))) >>= fun turned_227 => (((un1 dTuple (pure (.list t_222))) >>= fun a_230 => (joinM (pure (.str "")) (lstM (((un1 dLen (pure (.list t_222))) >>= fun d => lft (dRange1 d)) >>= mapC (fun d => lft (some d) >>= fun at_229 => (bin dIx (pure t_200.2.1) (bin dIx (pure (.list t_222)) (pure at_229))))))) >>= fun a_231 => m_flat_by_order a_230 a_231) >>= fun due_228 => ((andV (((pure t_200.2.2) >>= m_flat_dual) >>= fun a_234 => ((pure due_228) >>= fun a_232 => (pure turned_227) >>= fun a_233 => m_led a_232 a_233) >>= fun a_235 => (m__law_like 10) a_234 a_235) (bin dEq ((pure t_200.2.2) >>= m_sign_count) (bin dMul (pure (.int 2)) (pure a1)))) >>= fun d => pure (.rt d)))))))))))))
def m__law_right (a1 : D) : M D := runF (b__law_right a1)
theorem c__law_right (T : Top K mg) : Cl P w K mg base 16 "_law_right" (spC K mg 1 (arg1 m__law_right)) := by
  have S := sc__law_right
  refine cl_cup (k := 15) (b := fun ds => match ds with | [a1] => b__law_right a1 | _ => bad) (ρb := fun _ => [.un, .un, .un, .un, .un, .un, .un, .un, .un, .un, .un, .un, .un, .un, .un, .un]) (ρg := fun _ => []) T.d__law_right S rfl (fun ds hl => ?_) (fun f cdv A outer s H Ex hr A' ds hl => ?_)
  · match ds, hl with
    | [a1], _ => rfl
  · match ds, hl with
    | [a1], _ =>
      show PSs (XD P w K mg base _ "_law_right" (top 62) f cdv A outer s H Ex) _ (tB K A' (EB mg Ex) [.cup, .val a1, .un, .un, .un, .un, .un, .un, .un, .un, .un, .un, .un, .un, .un, .un] (fun _ => [.un, .un, .un, .un, .un, .un, .un, .un, .un, .un, .un, .un, .un, .un, .un, .un]) (fun _ => []) (b__law_right a1))
      unfold b__law_right
      exact (b_asg (un := par3) (cc1 0 (c__law_flat T) wshB hr (vv 1)) (pg_tup rfl (pgs_cons (pg_name (i := 2) S.nd rfl (by first | exact Or.inl rfl | exact Or.inr rfl)) (pgs_cons (pg_name (i := 3) S.nd rfl (by first | exact Or.inl rfl | exact Or.inr rfl)) (pgs_cons (pg_name (i := 4) S.nd rfl (by first | exact Or.inl rfl | exact Or.inr rfl)) pgs_nil)))) (tgt_par3 (is := [2, 3, 4]) (i := 2) (j := 3) (k := 4) (by decide) (by decide) (by decide)) (fun t_200 => (b_if (et_not (et_truth (ec2 (c__law_like T 10) wshB hr (ev_own (eo_lst (ea_cons (ec2 (c_flat_by_order T) wshB hr (vv 2) (vv 3)) (ea_cons (ec1 (c_order_of_flat T) wshB hr (vv 4)) (ea_cons (ec1 (c_is_flat T) wshB hr (vv 4)) ea_nil))) (Nat.le_of_ble_eq_true rfl))) (ev_own (eo_lst (ea_cons (vv 4) (ea_cons (ev_tup (ea_cons (vv 2) (ea_cons (vv 3) ea_nil)) (Nat.le_of_ble_eq_true rfl)) (ea_cons ev_bl ea_nil))) (Nat.le_of_ble_eq_true rfl)))))) (b_ret ev_bl) (b_set (i := 5) S.nd rfl (by first | exact Or.inl rfl | exact Or.inr rfl) (ec1 (c__law_rows T) wshB hr (vv 1)) (fun rows_205 => (b_set (i := 6) S.nd rfl (by first | exact Or.inl rfl | exact Or.inr rfl) (ev_join ev_str (ev_own (eo_lc (own := [("row", 13)]) (un := some) rfl S.nd (ei_val (vv 5)) (blkOk rfl) (fun _ _ _ _ _ => (pg_name (i := 13) S.nd rfl (by first | exact Or.inl rfl | exact Or.inr rfl))) (tgt_name (is := [13]) (i := 13) (by decide)) (fun row_207 _ _ _ _ _ => (ev_callT1 cd_str rfl T.z_str rfl (cc1 0 (c__law_roll T) wshN hr ev_int)))))) (fun more_206 => (b_set (i := 7) S.nd rfl (by first | exact Or.inl rfl | exact Or.inr rfl) (ev_join ev_str (ev_own (eo_lc (own := [("one", 14), ("second", 15)]) (un := par2) rfl S.nd (ei_zip rfl T.z_zip (vv 3) (vv 6)) (blkOk rfl) (fun _ _ _ _ _ => (pg_tup rfl (pgs_cons (pg_name (i := 14) S.nd rfl (by first | exact Or.inl rfl | exact Or.inr rfl)) (pgs_cons (pg_name (i := 15) S.nd rfl (by first | exact Or.inl rfl | exact Or.inr rfl)) pgs_nil)))) (tgt_par2 (is := [14, 15]) (i := 14) (j := 15) (by decide) (by decide)) (fun t_209 _ _ _ _ _ => (ev_callT1 cd_str rfl T.z_str rfl (ev_callT1 cd_int rfl T.z_int rfl (ev_cmp (od_ne hr) (vv 14) (vv 15) rfl))))))) (fun other_208 => (b_if (et_not (et_truth (ec2 (c__law_like T 10) wshB hr (ev_own (eo_lst (ea_cons (ec3 (c_joined T) wshB hr (vv 4) (ev_bin od_mul (vv 6) (ev_call1 cd_len rfl T.z_len rfl (vv 5))) ev_str) (ea_cons (ec2 (c_flat_by_order T) wshB hr (vv 2) (vv 7)) ea_nil)) (Nat.le_of_ble_eq_true rfl))) (ev_own (eo_rep (eo_lst (ea_cons (ec2 (c_flat_by_order T) wshB hr (vv 2) (vv 7)) ea_nil) (Nat.le_of_ble_eq_true rfl)) ev_int))))) (b_ret ev_bl) (b_own (i := 8) S.nd rfl (by first | exact Or.inl rfl | exact Or.inr rfl) (eo_rep (eo_lst (ea_cons ev_int ea_nil) (Nat.le_of_ble_eq_true rfl)) (ev_call1 cd_len rfl T.z_len rfl (vv 2))) (fun back_220 => (b_for (ρi := fun t_222 => [.cup, .val a1, .val t_200.1, .val t_200.2.1, .val t_200.2.2, .val rows_205, .val more_206, .val other_208, .own t_222, .un, .un, .un, .un, .un, .un, .un]) (t0 := back_220) (un := par2) ownB rfl (ei_enum rfl T.z_enumerate (vv 2)) (pg_tup rfl (pgs_cons (pg_name (i := 9) S.nd rfl (by first | exact Or.inl rfl | exact Or.inr rfl)) (pgs_cons (pg_name (i := 10) S.nd rfl (by first | exact Or.inl rfl | exact Or.inr rfl)) pgs_nil))) (.eq (.eq (.eq (.eq (.eq (.eq (.eq (.eq (.eq (.un (.un (.un (.un (.un (.un (.un .nil)))))))))))))))) (fun t_222 => (tgt_par2 (is := [9, 10]) (i := 9) (j := 10) (by decide) (by decide))) (fun t_222 t_223 => (b_seti (i := 8) rfl (pv 8) (vv 9) (vv 10) (fun back_226 => (b_nil (.eq (.eq (.eq (.eq (.eq (.eq (.eq (.eq (.eq (.un (.un (.un (.un (.un (.un (.un .nil)))))))))))))))))))) (fun t_222 => (b_freeze (i := 8) rfl (b_set (i := 11) S.nd rfl (by first | exact Or.inl rfl | exact Or.inr rfl) (ev_bin od_add (ev_tupRg2 rfl rfl T.z_tuple rfl T.z_range (vv 1) (ev_bin od_mul ev_int (vv 1))) (ev_tupRg1 rfl rfl T.z_tuple rfl T.z_range (vv 1))) (fun turned_227 => (b_set (i := 12) S.nd rfl (by first | exact Or.inl rfl | exact Or.inr rfl) (ec2 (c_flat_by_order T) wshB hr (ev_callT1 (cd_tuple rfl) rfl T.z_tuple rfl (vv 8)) (ev_join ev_str (ev_own (eo_lc (own := [("at", 9)]) (un := some) rfl S.nd (ei_rng1 rfl T.z_range (ev_call1 cd_len rfl T.z_len rfl (vv 8))) (blkOk rfl) (fun _ _ _ _ _ => (pg_name (i := 9) S.nd rfl (by first | exact Or.inl rfl | exact Or.inr rfl))) (tgt_name (is := [9]) (i := 9) (by decide)) (fun at_229 _ _ _ _ _ => (ev_ix (vv 3) (ev_ix (vv 8) (vv 9)))))))) (fun due_228 => (b_ret (ev_and (ec2 (c__law_like T 10) wshB hr (ec1 (c_flat_dual T) wshB hr (vv 4)) (ec2 (c_led T) wshB hr (vv 12) (vv 11))) (ev_one (ev_cmp (od_eq hr) (ec1 (c_sign_count T) wshB hr (vv 4)) (ev_bin od_mul ev_int (vv 1)) rfl)))))))))))))))))))))))

theorem sc__law_order : FnScope ["function", "many", "half", "order", "own", "second", "column", "good", "number", "lot", "sums", "row", "first", "one", "other"] ["function"] (defScope (top 61)) := ⟨rfl, rfl, rfl, by decide +kernel, rfl, by decide +kernel, by decide +kernel⟩
def b__law_order (a0 : D) : M (Fl Unit Unit) := (((pure a0) >>= m__law_count) >>= fun many_236 => ((truth (bin dEq (bin dMod (un1 dInt (pure many_236)) (pure (.int 2))) (pure (.int 1)))) >>= fun t => if t = true then ((pure (.none)) >>= fun d => pure (.rt d)) else (((un1 dInt (bin dFdiv (pure many_236) (pure (.int 2)))) >>= m__law_rows) >>= fun half_237 => ((lstM (seqM [])) >>= fun order_238 => (pure (.str "")) >>= fun own_239 => (((un1 dLen (pure half_237)) >>= fun d => lft (dRange1 d)) >>= fun ds => seqF (forF (τ := D × D) (fun d t_240 => lft (some d) >>= fun second_241 => ((lstM (((un1 dLen (pure half_237)) >>= fun d => lft (dRange1 d)) >>= mapC (fun d => lft (some d) >>= fun first_243 => (un1 dInt (bin dIx (pure a0) (bin dAdd (bin dMul (pure first_243) (un1 dLen (pure half_237))) (pure second_241))))))) >>= fun column_242 => (seqM []) >>= fun good_244 => (((pure half_237) >>= fun d => lft (dEnum d)) >>= fun ds => seqF (forF (τ := List D) (fun d t_245 => lft (par2 d) >>= fun t_246 => ((seqM []) >>= fun sums_247 => (((pure half_237) >>= fun d => lft (dItems d)) >>= fun ds => seqF (forF (τ := List D) (fun d t_248 => lft (some d) >>= fun row_249 => ((bin dMod (un1 dInt (bin dAdd (un1 dSum (lstM (((pure row_249) >>= fun d => (pure t_246.2) >>= fun e => lft (dZip d e)) >>= filtC (fun d => lft (par2 d) >>= fun t_250 => whn (truth (bin dEq (pure t_250.2) (pure (.int 1)))) (pure t_250.1))))) (bin dIx (pure column_242) (pure (.int 0))))) (pure (.int 2))) >>= fun v_251 => lft (fitL t_248) >>= fun y => (fun sums_252 => (pure (.nx sums_252))) (y ++ [v_251]))) ds sums_247) (fun t_248 => ((nex (truth (bin dEq (pure (.list t_248)) (pure column_242)))) >>= fun t => if t = true then ((pure t_246.1) >>= fun v_253 => lft (fitL t_245) >>= fun y => (fun good_254 => (pure (.nx good_254))) (y ++ [v_253])) else (pure (.nx t_245))))))) ds good_244) (fun t_245 => ((nex (truth (bin dEq (pure (.list t_245)) (lstM (seqM []))))) >>= fun t => if t = true then ((pure (.none)) >>= fun d => pure (.rt d)) else ((lstM ((pure t_240.1) >>= fun d => lft (dCatL d (.list t_245)))) >>= fun order_255 => (bin dAdd (pure t_240.2) (un1 dStr (bin dIx (pure column_242) (pure (.int 0))))) >>= fun own_256 => (pure (.nx (order_255, own_256))))))))) ds (order_238, own_239)) (fun t_240 => ((ifM (truth (bin dEq ((pure t_240.1) >>= fun d => lft (dLenSet d)) (un1 dLen (pure t_240.1)))) (tupM [(un1 dTuple (pure t_240.1)), (pure t_240.2)]) (pure (.none))) >>= fun d => pure (.rt d))))))))
def m__law_order (a0 : D) : M D := runF (b__law_order a0)
theorem c__law_order (T : Top K mg) : Cl P w K mg base 4 "_law_order" (spD K mg 1 (arg1 m__law_order)) := by
  have S := sc__law_order
  refine cl_of (k := 3) (b := fun ds => match ds with | [a0] => b__law_order a0 | _ => bad) (ρb := fun _ => [.un, .un, .un, .un, .un, .un, .un, .un, .un, .un, .un, .un, .un, .un, .un]) (ρg := fun _ => []) T.d__law_order S (fun ds hl => ?_) (fun f cdv A outer s H Ex hr A' ds hl => ?_)
  · match ds, hl with
    | [a0], _ => rfl
  · match ds, hl with
    | [a0], _ =>
      show PSs (XD P w K mg base _ "_law_order" (top 61) f cdv A outer s H Ex) _ (tB K A' (EB mg Ex) [.val a0, .un, .un, .un, .un, .un, .un, .un, .un, .un, .un, .un, .un, .un, .un] (fun _ => [.un, .un, .un, .un, .un, .un, .un, .un, .un, .un, .un, .un, .un, .un, .un]) (fun _ => []) (b__law_order a0))
      unfold b__law_order
      exact (b_set (i := 1) S.nd rfl (by first | exact Or.inl rfl | exact Or.inr rfl) (ec1 (c__law_count T) wshB hr (vv 0)) (fun many_236 => (b_if (et_cmp bo_eq (od_eq hr) (ev_bin od_mod (ev_callT1 cd_int rfl T.z_int rfl (vv 1)) ev_int) ev_int rfl) (b_ret ev_non) (b_set (i := 2) S.nd rfl (by first | exact Or.inl rfl | exact Or.inr rfl) (ec1 (c__law_rows T) wshB hr (ev_callT1 cd_int rfl T.z_int rfl (ev_bin od_fdiv (vv 1) ev_int))) (fun half_237 => (b_par2 (i := 3) (j := 4) rfl S.nd rfl rfl (by decide) rfl rfl (sv (ev_own (eo_lst ea_nil (Nat.le_of_ble_eq_true rfl)))) (sv ev_str) (fun order_238 own_239 => (b_for (ρi := fun t_240 => [.val a0, .val many_236, .val half_237, .val t_240.1, .val t_240.2, .un, .un, .un, .un, .un, .un, .un, .un, .un, .un]) (t0 := (order_238, own_239)) (un := some) ownB rfl (ei_rng1 rfl T.z_range (ev_call1 cd_len rfl T.z_len rfl (vv 2))) (pg_name (i := 5) S.nd rfl (by first | exact Or.inl rfl | exact Or.inr rfl)) (.eq (.eq (.eq (.eq (.eq (.un (.un (.un (.un (.un (.un (.un (.un (.un (.un .nil))))))))))))))) (fun t_240 => (tgt_name (is := [5]) (i := 5) (by decide))) (fun t_240 second_241 => (b_par2 (i := 6) (j := 7) rfl S.nd rfl rfl (by decide) rfl rfl (sv (ev_own (eo_lc (own := [("first", 12)]) (un := some) rfl S.nd (ei_rng1 rfl T.z_range (ev_call1 cd_len rfl T.z_len rfl (vv 2))) (blkOk rfl) (fun _ _ _ _ _ => (pg_name (i := 12) S.nd rfl (by first | exact Or.inl rfl | exact Or.inr rfl))) (tgt_name (is := [12]) (i := 12) (by decide)) (fun first_243 _ _ _ _ _ => (ev_callT1 cd_int rfl T.z_int rfl (ev_ix (vv 0) (ev_bin od_add (ev_bin od_mul (vv 12) (ev_call1 cd_len rfl T.z_len rfl (vv 2))) (vv 5)))))))) (so (eo_lst ea_nil (Nat.le_of_ble_eq_true rfl))) (fun column_242 good_244 => (b_for (ρi := fun t_245 => [.val a0, .val many_236, .val half_237, .val t_240.1, .val t_240.2, .val second_241, .val column_242, .own t_245, .un, .un, .un, .un, .un, .un, .un]) (t0 := good_244) (un := par2) ownB rfl (ei_enum rfl T.z_enumerate (vv 2)) (pg_tup rfl (pgs_cons (pg_name (i := 8) S.nd rfl (by first | exact Or.inl rfl | exact Or.inr rfl)) (pgs_cons (pg_name (i := 9) S.nd rfl (by first | exact Or.inl rfl | exact Or.inr rfl)) pgs_nil))) (.eq (.eq (.eq (.eq (.eq (.eq (.eq (.eq (.un (.un (.un (.un (.un (.un (.un .nil))))))))))))))) (fun t_245 => (tgt_par2 (is := [8, 9]) (i := 8) (j := 9) (by decide) (by decide))) (fun t_245 t_246 => (b_own (i := 10) S.nd rfl (by first | exact Or.inl rfl | exact Or.inr rfl) (eo_lst ea_nil (Nat.le_of_ble_eq_true rfl)) (fun sums_247 => (b_for (ρi := fun t_248 => [.val a0, .val many_236, .val half_237, .val t_240.1, .val t_240.2, .val second_241, .val column_242, .own t_245, .val t_246.1, .val t_246.2, .own t_248, .un, .un, .un, .un]) (t0 := sums_247) (un := some) ownB rfl (ei_val (vv 2)) (pg_name (i := 11) S.nd rfl (by first | exact Or.inl rfl | exact Or.inr rfl)) (.eq (.eq (.eq (.eq (.eq (.eq (.eq (.eq (.eq (.eq (.eq (.un (.un (.un (.un .nil))))))))))))))) (fun t_248 => (tgt_name (is := [11]) (i := 11) (by decide))) (fun t_248 row_249 => (b_app (i := 10) (mr := fun sums_252 => (pure (.nx sums_252))) rfl (pv 10) (ev_bin od_mod (ev_callT1 cd_int rfl T.z_int rfl (ev_bin od_add (ev_call1 (cd_sum rfl) rfl T.z_sum rfl (ev_own (eo_lcif (own := [("one", 13), ("other", 14)]) (un := par2) rfl S.nd (ei_zip rfl T.z_zip (vv 11) (vv 9)) (blkOk rfl) (fun _ _ _ _ _ => (pg_tup rfl (pgs_cons (pg_name (i := 13) S.nd rfl (by first | exact Or.inl rfl | exact Or.inr rfl)) (pgs_cons (pg_name (i := 14) S.nd rfl (by first | exact Or.inl rfl | exact Or.inr rfl)) pgs_nil)))) (tgt_par2 (is := [13, 14]) (i := 13) (j := 14) (by decide) (by decide)) (fun t_250 _ _ _ _ _ => (et_cmp bo_eq (od_eq hr) (vv 14) ev_int rfl)) (fun t_250 _ _ _ _ _ => (vv 13))))) (ev_ix (vv 6) ev_int))) ev_int) (fun sums_252 => (b_nil (.eq (.eq (.eq (.eq (.eq (.eq (.eq (.eq (.eq (.eq (.eq (.un (.un (.un (.un .nil))))))))))))))))))) (fun t_248 => (b_if (et_nex (et_bor (i := 10) rfl (et_cmp bo_eq (od_eq hr) (vv 10) (vv 6) rfl))) (b_app (i := 7) (mr := fun good_254 => (pure (.nx good_254))) rfl (pv 7) (vv 8) (fun good_254 => (b_nil (.eq (.eq (.eq (.eq (.eq (.eq (.eq (.eq (.un (.un (.un (.un (.un (.un (.un .nil)))))))))))))))))) (b_nil (.eq (.eq (.eq (.eq (.eq (.eq (.eq (.eq (.un (.un (.un (.un (.un (.un (.un .nil)))))))))))))))))))))) (fun t_245 => (b_if (et_nex (et_bor (i := 7) rfl (et_cmp bo_eq (od_eq hr) (vv 7) (ev_own (eo_lst ea_nil (Nat.le_of_ble_eq_true rfl))) rfl))) (b_ret ev_non) (b_par2 (i := 3) (j := 4) rfl S.nd rfl rfl (by decide) rfl rfl (sv (ev_own (eo_catV (j := 7) (vv 3) rfl (pv 7)))) (sv (ev_bin od_add (vv 4) (ev_callT1 cd_str rfl T.z_str rfl (ev_ix (vv 6) ev_int)))) (fun order_255 own_256 => (b_nil (.eq (.eq (.eq (.eq (.eq (.un (.un (.un (.un (.un (.un (.un (.un (.un (.un .nil))))))))))))))))) rfl))))) rfl)) (fun t_240 => (b_ret (ev_if (et_cmp bo_eq (od_eq hr) (ev_lenSet rfl rfl T.z_len rfl T.z_set (vv 3)) (ev_call1 cd_len rfl T.z_len rfl (vv 3)) rfl) (ev_tup (ea_cons (ev_callT1 (cd_tuple rfl) rfl T.z_tuple rfl (vv 3)) (ea_cons (vv 4) ea_nil)) (Nat.le_of_ble_eq_true rfl)) ev_non))))) rfl))))))

theorem sc__law_any_right : FnScope ["function"] ["function"] (defScope (top 63)) := ⟨rfl, rfl, rfl, by decide +kernel, rfl, by decide +kernel, by decide +kernel⟩
def b__law_any_right (a0 : D) : M (Fl Unit Unit) := ((((pure a0) >>= m_order_of_flat) >>= fun a_257 => ((pure a0) >>= m__law_order) >>= fun a_258 => (m__law_like 10) a_257 a_258) >>= fun d => pure (.rt d))
def m__law_any_right (a0 : D) : M D := runF (b__law_any_right a0)
theorem c__law_any_right (T : Top K mg) : Cl P w K mg base 16 "_law_any_right" (spD K mg 1 (arg1 m__law_any_right)) := by
  have S := sc__law_any_right
  refine cl_of (k := 15) (b := fun ds => match ds with | [a0] => b__law_any_right a0 | _ => bad) (ρb := fun _ => [.un]) (ρg := fun _ => []) T.d__law_any_right S (fun ds hl => ?_) (fun f cdv A outer s H Ex hr A' ds hl => ?_)
  · match ds, hl with
    | [a0], _ => rfl
  · match ds, hl with
    | [a0], _ =>
      show PSs (XD P w K mg base _ "_law_any_right" (top 63) f cdv A outer s H Ex) _ (tB K A' (EB mg Ex) [.val a0] (fun _ => [.un]) (fun _ => []) (b__law_any_right a0))
      unfold b__law_any_right
      exact (b_ret (ec2 (c__law_like T 10) wshB hr (ec1 (c_order_of_flat T) wshB hr (vv 0)) (ec1 (c__law_order T) wshB hr (vv 0))))

theorem sc__law_function : FnScope ["cup", "most", "many", "way", "rows", "found", "weights", "bound", "least", "row", "whole", "below", "answers", "turn", "weight", "sign", "one", "low"] ["cup", "most"] (defScope (top 57)) := ⟨rfl, rfl, rfl, by decide +kernel, rfl, by decide +kernel, by decide +kernel⟩
def b__law_function (a1 : D) : M (Fl Unit Unit) := (((bin dAdd (pure a1) (pure (.int 1))) >>= m__law_roll) >>= fun many_259 => ((pure (.int 5)) >>= m__law_roll) >>= fun way_260 => (((pure many_259) >>= m__law_rows) >>= fun rows_261 => (pure (.str "")) >>= fun found_262 => (lstM (((pure many_259) >>= fun d => lft (dRange1 d)) >>= mapC (fun d => lft (some d) >>= fun turn_264 => ((pure (.int 4)) >>= m__law_roll))) >>= fun weights_263 => (((bin dAdd (bin dMul (pure (.int 2)) (pure many_259)) (pure (.int 2))) >>= m__law_roll) >>= fun bound_265 => (un1 dTuple (lstM (((pure many_259) >>= fun d => lft (dRange1 d)) >>= mapC (fun d => lft (some d) >>= fun turn_267 => ((pure (.int 2)) >>= m__law_roll))))) >>= fun least_266 => (((pure rows_261) >>= fun d => lft (dItems d)) >>= fun ds => seqF (forF (τ := D) (fun d t_268 => lft (some d) >>= fun row_269 => ((un1 dSum (lstM (((pure weights_263) >>= fun d => (pure row_269) >>= fun e => lft (dZip d e)) >>= mapC (fun d => lft (par2 d) >>= fun t_271 => (bin dMul (pure t_271.1) (pure t_271.2)))))) >>= fun whole_270 => ((bin dEq (lstM (((pure row_269) >>= fun d => (pure least_266) >>= fun e => lft (dZip d e)) >>= filtC (fun d => lft (par2 d) >>= fun t_273 => whn (truth (bin dLt (pure t_273.1) (pure t_273.2))) (pure (.int 1))))) (lstM (seqM []))) >>= fun below_272 => ((lstM (seqM [((pure (.int 2)) >>= m__law_roll), (ifM (truth (bin dEq ((pure (.int 5)) >>= m__law_roll) (pure (.int 0)))) (pure (.int 1)) (pure (.int 0))), (bin dMod (un1 dInt (pure whole_270)) (pure (.int 2))), (ifM (truth (bin dIn (un1 dSum (pure row_269)) (tupM [(pure bound_265), (pure (.int 1))]))) (pure (.int 1)) (pure (.int 0))), (ifM (orT (truth (bin dGe (pure whole_270) (pure bound_265))) (truth (pure below_272))) (pure (.int 1)) (pure (.int 0)))])) >>= fun answers_274 => ((bin dAdd (pure t_268) (un1 dStr (bin dIx (pure answers_274) (pure way_260)))) >>= fun found_275 => (pure (.nx found_275))))))) ds found_262) (fun t_268 => ((pure t_268) >>= fun d => pure (.rt d))))))))
def m__law_function (a1 : D) : M D := runF (b__law_function a1)
theorem c__law_function (T : Top K mg) : Cl P w K mg base 4 "_law_function" (spC K mg 1 (arg1 m__law_function)) := by
  have S := sc__law_function
  refine cl_cup (k := 3) (b := fun ds => match ds with | [a1] => b__law_function a1 | _ => bad) (ρb := fun _ => [.un, .un, .un, .un, .un, .un, .un, .un, .un, .un, .un, .un, .un, .un, .un, .un, .un, .un]) (ρg := fun _ => []) T.d__law_function S rfl (fun ds hl => ?_) (fun f cdv A outer s H Ex hr A' ds hl => ?_)
  · match ds, hl with
    | [a1], _ => rfl
  · match ds, hl with
    | [a1], _ =>
      show PSs (XD P w K mg base _ "_law_function" (top 57) f cdv A outer s H Ex) _ (tB K A' (EB mg Ex) [.cup, .val a1, .un, .un, .un, .un, .un, .un, .un, .un, .un, .un, .un, .un, .un, .un, .un, .un] (fun _ => [.un, .un, .un, .un, .un, .un, .un, .un, .un, .un, .un, .un, .un, .un, .un, .un, .un, .un]) (fun _ => []) (b__law_function a1))
      unfold b__law_function
      exact (b_par2 (i := 2) (j := 3) rfl S.nd rfl rfl (by decide) rfl rfl (sv (cc1 0 (c__law_roll T) wshB hr (ev_bin od_add (vv 1) ev_int))) (sv (cc1 0 (c__law_roll T) wshB hr ev_int)) (fun many_259 way_260 => (b_par2 (i := 4) (j := 5) rfl S.nd rfl rfl (by decide) rfl rfl (sv (ec1 (c__law_rows T) wshB hr (vv 2))) (sv ev_str) (fun rows_261 found_262 => (b_setP (i := 6) (ps_lst (ps_lcO (own := [("turn", 13)]) (un := some) rfl S.nd (ei_rng1 rfl T.z_range (vv 2)) (blkOk rfl) (fun _ _ _ _ _ => (pg_name (i := 13) S.nd rfl (by first | exact Or.inl rfl | exact Or.inr rfl))) (tgt_name (is := [13]) (i := 13) (by decide)) rfl rfl rfl (fun turn_264 _ _ _ _ _ => (cc1 0 (c__law_roll T) wshN hr ev_int)))) (fun weights_263 => (b_par2 (i := 7) (j := 8) rfl S.nd rfl rfl (by decide) rfl rfl (sv (cc1 0 (c__law_roll T) wshB hr (ev_bin od_add (ev_bin od_mul ev_int (vv 2)) ev_int))) (sv (ev_callT1 (cd_tuple rfl) rfl T.z_tuple rfl (ev_own (eo_lc (own := [("turn", 13)]) (un := some) rfl S.nd (ei_rng1 rfl T.z_range (vv 2)) (blkOk rfl) (fun _ _ _ _ _ => (pg_name (i := 13) S.nd rfl (by first | exact Or.inl rfl | exact Or.inr rfl))) (tgt_name (is := [13]) (i := 13) (by decide)) (fun turn_267 _ _ _ _ _ => (cc1 0 (c__law_roll T) wshN hr ev_int)))))) (fun bound_265 least_266 => (b_for (ρi := fun t_268 => [.cup, .val a1, .val many_259, .val way_260, .val rows_261, .val t_268, .val weights_263, .val bound_265, .val least_266, .un, .un, .un, .un, .un, .un, .un, .un, .un]) (t0 := found_262) (un := some) ownB rfl (ei_val (vv 4)) (pg_name (i := 9) S.nd rfl (by first | exact Or.inl rfl | exact Or.inr rfl)) (.eq (.eq (.eq (.eq (.eq (.eq (.eq (.eq (.eq (.un (.un (.un (.un (.un (.un (.un (.un (.un .nil)))))))))))))))))) (fun t_268 => (tgt_name (is := [9]) (i := 9) (by decide))) (fun t_268 row_269 => (b_set (i := 10) S.nd rfl (by first | exact Or.inl rfl | exact Or.inr rfl) (ev_call1 (cd_sum rfl) rfl T.z_sum rfl (ev_own (eo_lc (own := [("weight", 14), ("sign", 15)]) (un := par2) rfl S.nd (ei_zip rfl T.z_zip (vv 6) (vv 9)) (blkOk rfl) (fun _ _ _ _ _ => (pg_tup rfl (pgs_cons (pg_name (i := 14) S.nd rfl (by first | exact Or.inl rfl | exact Or.inr rfl)) (pgs_cons (pg_name (i := 15) S.nd rfl (by first | exact Or.inl rfl | exact Or.inr rfl)) pgs_nil)))) (tgt_par2 (is := [14, 15]) (i := 14) (j := 15) (by decide) (by decide)) (fun t_271 _ _ _ _ _ => (ev_bin od_mul (vv 14) (vv 15)))))) (fun whole_270 => (b_set (i := 11) S.nd rfl (by first | exact Or.inl rfl | exact Or.inr rfl) (ev_cmp (od_eq hr) (ev_own (eo_lcif (own := [("one", 16), ("low", 17)]) (un := par2) rfl S.nd (ei_zip rfl T.z_zip (vv 9) (vv 8)) (blkOk rfl) (fun _ _ _ _ _ => (pg_tup rfl (pgs_cons (pg_name (i := 16) S.nd rfl (by first | exact Or.inl rfl | exact Or.inr rfl)) (pgs_cons (pg_name (i := 17) S.nd rfl (by first | exact Or.inl rfl | exact Or.inr rfl)) pgs_nil)))) (tgt_par2 (is := [16, 17]) (i := 16) (j := 17) (by decide) (by decide)) (fun t_273 _ _ _ _ _ => (et_cmp bo_lt (od_lt hr) (vv 16) (vv 17) rfl)) (fun t_273 _ _ _ _ _ => ev_int))) (ev_own (eo_lst ea_nil (Nat.le_of_ble_eq_true rfl))) rfl) (fun below_272 => (b_set (i := 12) S.nd rfl (by first | exact Or.inl rfl | exact Or.inr rfl) (ev_own (eo_lst (ea_cons (cc1 0 (c__law_roll T) wshB hr ev_int) (ea_cons (ev_if (et_cmp bo_eq (od_eq hr) (cc1 0 (c__law_roll T) wshB hr ev_int) ev_int rfl) ev_int ev_int) (ea_cons (ev_bin od_mod (ev_callT1 cd_int rfl T.z_int rfl (vv 10)) ev_int) (ea_cons (ev_if (et_cmp bo_in (od_in hr) (ev_call1 (cd_sum rfl) rfl T.z_sum rfl (vv 9)) (ev_tup (ea_cons (vv 7) (ea_cons ev_int ea_nil)) (Nat.le_of_ble_eq_true rfl)) rfl) ev_int ev_int) (ea_cons (ev_if (PW.pt (ew_or (et_cmp bo_ge (od_ge hr) (vv 10) (vv 7) rfl) (ew_or1 (et_truth (vv 11))))) ev_int ev_int) ea_nil))))) (Nat.le_of_ble_eq_true rfl))) (fun answers_274 => (b_set (i := 5) S.nd rfl (by first | exact Or.inl rfl | exact Or.inr rfl) (ev_bin od_add (vv 5) (ev_callT1 cd_str rfl T.z_str rfl (ev_ix (vv 12) (vv 3)))) (fun found_275 => (b_nil (.eq (.eq (.eq (.eq (.eq (.eq (.eq (.eq (.eq (.un (.un (.un (.un (.un (.un (.un (.un (.un .nil)))))))))))))))))))))))))))) (fun t_268 => (b_ret (vv 5))))) rfl)))) rfl)) rfl)

theorem sc_law : FnScope ["script", "cup", "half", "most"] ["script"] (defScope (top 66)) := ⟨rfl, rfl, rfl, by decide +kernel, rfl, by decide +kernel, by decide +kernel⟩
def b_law (a0 : D) : M (Fl Unit Unit) := ((notT (truth m__law_written_right)) >>= fun t => if t = true then ((pure (.bool false)) >>= fun d => pure (.rt d)) else ((pure a0) >>= fun d => nex (arg1N m__law_cup [d]) >>= fun ds => lft (two ds) >>= fun t => setCup t.1 t.2 >>= fun _ => (((tupM [(pure (.int 0)), (pure (.int 1)), (pure (.int 2)), (pure (.int 2)), (pure (.int 3))]) >>= fun d => lft (dItems d)) >>= fun ds => seqF (forF (τ := Unit) (fun d t_276 => lft (some d) >>= fun half_277 => ((notT (truth ((pure half_277) >>= m__law_right))) >>= fun t => if t = true then ((pure (.bool false)) >>= fun d => pure (.rt d)) else (pure (.nx ())))) ds ()) (fun t_276 => (((tupM [(pure (.int 2)), (pure (.int 4)), (pure (.int 5)), (pure (.int 6))]) >>= fun d => lft (dItems d)) >>= fun ds => seqF (forF (τ := Unit) (fun d t_278 => lft (some d) >>= fun most_279 => ((notT (truth (((pure most_279) >>= m__law_function) >>= m__law_any_right))) >>= fun t => if t = true then ((pure (.bool false)) >>= fun d => pure (.rt d)) else (pure (.nx ())))) ds ()) (fun t_278 => ((((lstM (seqM [(pure (.int 0)), (pure (.int 1)), (pure (.int 2)), (pure (.int 2)), (pure (.int 3))])) >>= m__law_some) >>= m__law_counted_right) >>= fun d => pure (.rt d))))))))
theorem w_law {f : Addr} {fd : FuncData} (T : Top K mg) (F : Fun K "law" "law" (top 66) f fd) (law : ∀ ns : List Int, ns.length ≤ 63 → Wp (runF (b_law (.list (ns.map .int))) (0, 0)) (fun d _ => d = .bool true) (fun _ _ => False)) : FnOk P w K mg base (L2.CX P w) 18 f fd ["script"] (spL K 63) := by
  have S := sc_law
  refine law_ok (k := 17) (b := b_law) (ρb := fun _ => []) (ρg := fun _ => []) F S (fun cdv A outer s H Ex hr a0 => ?_) law
  show PSs (XD P w K mg base _ "law" (top 66) f cdv A outer s H Ex) _ (tB K none (EB mg Ex) [.val a0, .un, .un, .un] (fun _ => []) (fun _ => []) (b_law a0))
  unfold b_law
  exact (b_if (et_not (et_truth (ec0 (c__law_written_right T) wshB hr))) (b_ret ev_bl) (b_newcup (i := 1) (c__law_cup T) hr (by decide) rfl S.nd rfl (by first | exact Or.inl rfl | exact Or.inr rfl) wshB (vv 0) (fun _ => (b_for (ρi := fun t_276 => [.val a0, .cup, .un, .un]) (t0 := ()) (un := some) ownB rfl (ei_val (ev_tup (ea_cons ev_int (ea_cons ev_int (ea_cons ev_int (ea_cons ev_int (ea_cons ev_int ea_nil))))) (Nat.le_of_ble_eq_true rfl))) (pg_name (i := 2) S.nd rfl (by first | exact Or.inl rfl | exact Or.inr rfl)) (.eq (.eq (.un (.un .nil)))) (fun t_276 => (tgt_name (is := [2]) (i := 2) (by decide))) (fun t_276 half_277 => (b_if (et_not (et_truth (cc1 1 (c__law_right T) wshB hr (vv 2)))) (b_ret ev_bl) (b_nil (.eq (.eq (.un (.un .nil))))))) (fun t_276 => (b_for (ρi := fun t_278 => [.val a0, .cup, .un, .un]) (t0 := ()) (un := some) ownB rfl (ei_val (ev_tup (ea_cons ev_int (ea_cons ev_int (ea_cons ev_int (ea_cons ev_int ea_nil)))) (Nat.le_of_ble_eq_true rfl))) (pg_name (i := 3) S.nd rfl (by first | exact Or.inl rfl | exact Or.inr rfl)) (.eq (.eq (.un (.un .nil)))) (fun t_278 => (tgt_name (is := [3]) (i := 3) (by decide))) (fun t_278 most_279 => (b_if (et_not (et_truth (ec1 (c__law_any_right T) wshB hr (cc1 1 (c__law_function T) wshB hr (vv 3))))) (b_ret ev_bl) (b_nil (.eq (.eq (.un (.un .nil))))))) (fun t_278 => (b_ret (ec1 (c__law_counted_right T) wshB hr (cc1 1 (c__law_some T) wshB hr (ev_own (eo_lst (ea_cons ev_int (ea_cons ev_int (ea_cons ev_int (ea_cons ev_int (ea_cons ev_int ea_nil))))) (Nat.le_of_ble_eq_true rfl))))))))))) (fun _ => rfl) (fun _ => rfl)))

end
end K14

set_option maxRecDepth 100000
namespace K14
open PySem Mir
theorem p_is_word {l : List Bool} (h1 : 1 ≤ l.length) (h2 : l.length ≤ 64) : m_is_word (txtD l) (.str "01") (.int 1) (.int 64) = pure (.bool true) := by
  have hl : l.length ≤ lim := lim_big (by omega)
  have e2 : dLe (.int 1) (nD l.length) = some (.bool true) := by rw [dLe_int, decide_eq_true (by omega)]
  have e3 : dLe (nD l.length) (.int 64) = some (.bool true) := by rw [dLe_int, decide_eq_true (by omega)]
  have e4 : dIsi .str (txtD l) = some (.bool true) := rfl
  have e5 : (l.all fun _ => true) = true := List.all_eq_true.mpr fun _ _ => rfl
  unfold m_is_word b_is_word
  simp only [andV, un1, chn, lstM, pure_bind, bind_assoc, dLen_txt hl, dItems_txt hl, lft_some, e2, e3, e4, dTru_bool, if_true]
  rw [mapC_map (g := fun _ => .bool true) fun b _ => by cases b <;> rfl]
  simp only [pure_bind, dAll_map, lft_some, e5, runF_rt]
section
variable {n : Nat} {l : List Bool} (hn : n ≤ 6) (hl : l.length = 2 ^ n)
include hn hl
theorem p_fits_function : m_fits_function (txtD l) = pure (.bool true) := by
  have e1 : dIx K_LENGTHS K_MOST = some (.int 64) := rfl
  have e2 : dIn (nD (2 ^ n)) K_LENGTHS = some (.bool true) := cases6 (P := fun n => dIn (nD (2 ^ n)) K_LENGTHS = some (.bool true)) rfl rfl rfl rfl rfl rfl rfl hn
  have e3 := p_is_word (l := l) (by rw [hl]; exact pow_pos' n) (by rw [hl]; exact pow_le hn)
  have e4 : K_ANSWERS = .str "01" := rfl
  unfold m_fits_function b_fits_function
  simp only [andV, un1, bin, pure_bind, bind_assoc, p_len hn hl, lft_some, e1, e4, e3, dTru_bool, if_true, e2, runF_rt]
end
section
variable {n : Nat} {l : List Bool} (hn : n ≤ 6) (hl : l.length = 2 ^ n)
include hn hl
theorem p_need_function : m_need_function (txtD l) = pure .none := by
  unfold m_need_function b_need_function
  simp only [notT, truth, pure_bind, bind_assoc, p_fits_function hn hl, dTru_bool, lft_some, Bool.not_true, Bool.false_eq_true, if_false, runF_nx]
end
section
variable {n : Nat} {l : List Bool} (hn : n ≤ 6) (hl : l.length = 2 ^ n)
include hn hl
theorem p_count_in : m_count_in (txtD l) = pure (nD n) := by
  have e : indexIn L_LENGTHS (nD (2 ^ n)) = some (nD n) := cases6 (P := fun n => indexIn L_LENGTHS (nD (2 ^ n)) = some (nD n)) rfl rfl rfl rfl rfl rfl rfl hn
  unfold m_count_in b_count_in
  simp only [un1, pure_bind, bind_assoc, p_len hn hl, lft_some, e, runF_rt]
end
theorem lens_at : ∀ {k : Nat}, k ≤ 6 → L_LENGTHS[k]? = some (nD (2 ^ k)) := cases6 (P := fun k => L_LENGTHS[k]? = some (nD (2 ^ k))) rfl rfl rfl rfl rfl rfl rfl
theorem p_rows_in : ∀ {n : Nat}, n ≤ 6 → m_rows_in (nD n) = pure (.list (rowsN n)) :=
  cases6 (P := fun n => m_rows_in (nD n) = pure (.list (rowsN n))) (by kernel_rfl) (by kernel_rfl) (by kernel_rfl) (by kernel_rfl) (by kernel_rfl) (by kernel_rfl) (by kernel_rfl)
theorem p_law_rows : ∀ {n : Nat}, n ≤ 6 → m__law_rows (nD n) = pure (.list (rowsN n)) :=
  cases6 (P := fun n => m__law_rows (nD n) = pure (.list (rowsN n))) (by kernel_rfl) (by kernel_rfl) (by kernel_rfl) (by kernel_rfl) (by kernel_rfl) (by kernel_rfl) (by kernel_rfl)
theorem p_number_in {n i : Nat} (hn : n ≤ 6) (hi : i < 2 ^ n) : m_number_in (rowN n i) = pure (nD i) :=
  all_rows (cases6 (P := fun n => (List.range (2 ^ n)).map (fun i => m_number_in (rowN n i)) = (List.range (2 ^ n)).map fun i => pure (nD i)) (by kernel_rfl) (by kernel_rfl) (by kernel_rfl) (by kernel_rfl) (by kernel_rfl) (by kernel_rfl) (by kernel_rfl) hn) hi
section
variable {n : Nat} {l : List Bool} (hn : n ≤ 6) (hl : l.length = 2 ^ n)
include hn hl
theorem p_sign_count : m_sign_count (txtD l) = pure (nD n) := by
  unfold m_sign_count b_sign_count
  simp only [pure_bind, bind_assoc, p_need_function hn hl, p_count_in hn hl, runF_rt]
end
section
variable {n : Nat} {l : List Bool} (hn : n ≤ 6) (hl : l.length = 2 ^ n)
include hn hl
theorem p_law_count : m__law_count (txtD l) = pure (nD n) := by
  unfold m__law_count b__law_count
  simp only [un1, pure_bind, bind_assoc, p_len hn hl, lft_some]
  exact cases6 (P := fun n => runF (seqF (whileF (fun t : D × D => truth (bin dGt (pure t.2) (pure (.int 1)))) (fun t => bin dAdd (pure t.1) (pure (.int 1)) >>= fun f => bin dFdiv (pure t.2) (pure (.int 2)) >>= fun x => lft (dInt x) >>= fun z => pure (.nx (f, z))) 100000 (.int 0, nD (2 ^ n))) fun t => pure (.rt t.1)) = pure (nD n)) (by kernel_rfl) (by kernel_rfl) (by kernel_rfl) (by kernel_rfl) (by kernel_rfl) (by kernel_rfl) (by kernel_rfl) hn
end
theorem p_law_sort : ∀ {d : D}, d.plain = true → m__law_sort d = pure (nD (kindD d))
  | .none, _ => rfl
  | .bool _, _ => rfl
  | .int _, _ => rfl
  | .str _, _ => rfl
  | .tuple _, _ => rfl
  | .list _, _ => rfl
  | .dict _, h => by cases h
theorem p_law_like : ∀ (k : Nat) (d : D), d.depth < k → d.plain = true → m__law_like k d d = pure (.bool true)
  | 0, _, h, _ => absurd h (by omega)
  | k + 1, d, hd, hp => by
    have e1 := p_law_sort hp
    have e2 : dNe (nD (kindD d)) (nD (kindD d)) = some (.bool false) := by rw [dNe_int]; simp
    have e3 : dEq (nD (kindD d)) (.int 6) = some (.bool false) := by rw [dEq_int, decide_eq_false (by have := kind_lt hp; omega)]
    have h5 : (.bool true : D) = .bool true := rfl
    show runF (b__law_like (m__law_like k) d d) = _
    unfold b__law_like
    simp only [bin, pure_bind, bind_assoc, e1, orT, truth, e2, e3, lft_some, dTru_bool, Bool.false_eq_true, if_false]
    have flat : flatB d = true → dIn (nD (kindD d)) (.tuple [.int 4, .int 5]) = some (.bool false) ∧ d.depth = 0 := by
      intro h
      cases d with
      | tuple _ => cases h
      | list _ => cases h
      | dict _ => cases hp
      | none => exact ⟨rfl, rfl⟩
      | bool b => exact ⟨rfl, rfl⟩
      | int i => exact ⟨rfl, rfl⟩
      | str s => exact ⟨rfl, rfl⟩
    have flatEnd : flatB d = true → dEq d d = some (.bool true) := by
      intro h
      obtain ⟨_, h0⟩ := flat h
      show (if min d.depth d.depth ≤ 60 then some (PyData.bool (PyData.eqv d d)) else none) = _
      rw [if_pos (by omega), eqv_self hp]
    have deep : ∀ xs : List D, (∀ x ∈ xs, m__law_like k x x = pure (.bool true)) → filtC (fun d => lft (par2 d) >>= fun t => whn (notT (truth ((pure t.1) >>= fun a => (pure t.2) >>= fun b => m__law_like k a b))) (pure (.int 1))) (xs.map fun x => .tuple [x, x]) = pure [] := fun xs h => p_like_items _ xs h
    simp only [pure_bind, bind_assoc, truth, notT, whn] at deep
    cases d with
    | dict _ => cases hp
    | none => simp only [(flat rfl).1, flatEnd rfl, tupM, seqM_cons, seqM_nil, pure_bind, lft_some, dTru_bool, Bool.false_eq_true, if_false, runF_rt]
    | bool b => simp only [(flat rfl).1, flatEnd rfl, tupM, seqM_cons, seqM_nil, pure_bind, lft_some, dTru_bool, Bool.false_eq_true, if_false, runF_rt]
    | int i => simp only [(flat rfl).1, flatEnd rfl, tupM, seqM_cons, seqM_nil, pure_bind, lft_some, dTru_bool, Bool.false_eq_true, if_false, runF_rt]
    | str z => simp only [(flat rfl).1, flatEnd rfl, tupM, seqM_cons, seqM_nil, pure_bind, lft_some, dTru_bool, Bool.false_eq_true, if_false, runF_rt]
    | tuple xs =>
      have hx : ∀ x ∈ xs, m__law_like k x x = pure (.bool true) := fun x hm => p_law_like k x (by have := depthAll_mem hm; simp only [PyData.depth] at hd; omega) (plain_mem (by simpa [PyData.plain] using hp) hm)
      have z : dZip (.tuple xs) (.tuple xs) = some (xs.map fun x => .tuple [x, x]) := by show some (zip2 xs xs) = _; rw [zip_self]
      have e4 : dIn (nD (kindD (.tuple xs))) (.tuple [.int 4, .int 5]) = some (.bool true) := rfl
      have e5 : dEq (nD xs.length) (nD xs.length) = some (.bool true) := by rw [dEq_int]; simp
      have e6 : dEq (.list []) (.list []) = some (.bool true) := rfl
      simp only [e4, tupM, seqM_cons, seqM_nil, pure_bind, lft_some, dTru_bool, if_true, andV, bin, un1, dLen_tup, e5, lstM, z, bind_assoc, whn, notT, truth, deep xs hx, e6, runF_rt]
    | list xs =>
      have hx : ∀ x ∈ xs, m__law_like k x x = pure (.bool true) := fun x hm => p_law_like k x (by have := depthAll_mem hm; simp only [PyData.depth] at hd; omega) (plain_mem (by simpa [PyData.plain] using hp) hm)
      have z : dZip (.list xs) (.list xs) = some (xs.map fun x => .tuple [x, x]) := by show some (zip2 xs xs) = _; rw [zip_self]
      have e4 : dIn (nD (kindD (.list xs))) (.tuple [.int 4, .int 5]) = some (.bool true) := rfl
      have e5 : dEq (nD xs.length) (nD xs.length) = some (.bool true) := by rw [dEq_int]; simp
      have e6 : dEq (.list []) (.list []) = some (.bool true) := rfl
      simp only [e4, tupM, seqM_cons, seqM_nil, pure_bind, lft_some, dTru_bool, if_true, andV, bin, un1, dLen_list, e5, lstM, z, bind_assoc, whn, notT, truth, deep xs hx, e6, runF_rt]
section
variable {n : Nat} {l : List Bool} (hn : n ≤ 6) (hl : l.length = 2 ^ n)
include hn hl
theorem p_function_by : m_function_by (.list (l.map PyData.bool)) = pure (txtD l) := by
  unfold m_function_by b_function_by
  simp only [joinM, pure_bind, bind_assoc, dItems, lft_some, lstM]
  rw [mapC_map (g := chD) fun b _ => by cases b <;> rfl]
  simp only [pure_bind, dJoin_ch (big hn hl), lft_some]
  exact runF_rt _
end
/-- a draw -/
theorem p_roll {k : Nat} {c : Cup} (h1 : 1 ≤ k) (h2 : k < 1000000) (hc : CupOk c) {E : Exc → Cup → Prop} : Wp (m__law_roll (nD k) c) (fun d c' => ∃ j, j < k ∧ d = nD j ∧ CupOk c') E := by
  obtain ⟨c1, c2, c3⟩ := hc
  have fin : ∀ x : Int, ∃ j, j < k ∧ (.int (x.fmod k) : D) = nD j := fun x => by
    obtain ⟨a1, a2⟩ := fmod_range x (show (0 : Int) < k by omega)
    exact ⟨(x.fmod k).toNat, by omega, by show PyData.int _ = PyData.int _; rw [Int.toNat_of_nonneg a1]⟩
  unfold m__law_roll b__law_roll runF
  simp only [truth, bin, un1, bind_assoc, pure_bind]
  rw [Wp_getC]
  simp only [if_true, dGt_int, lft_some, pure_bind, dTru_bool]
  by_cases hp : 0 < c.1
  · rw [if_pos (decide_eq_true hp)]
    simp only [bind_assoc, pure_bind]
    rw [Wp_getC]
    simp only [if_true, dInt_int, lft_some, pure_bind, dMod_pos c.1 (show (0 : Int) < k by omega)]
    rw [Wp_getC]
    simp only [if_true, lft_some, pure_bind, dFdiv_pos c.1 (show (0 : Int) < k by omega) (by omega), asInt]
    rw [Wp_setC]
    obtain ⟨j, hj, e⟩ := fin c.1
    exact ⟨j, hj, e, Int.fdiv_nonneg c1 (by omega), c2, c3⟩
  · rw [if_neg (by rw [decide_eq_false hp]; exact Bool.false_ne_true)]
    simp only [bind_assoc, pure_bind]
    rw [Wp_getC]
    simp only [if_neg (show ¬ (1 : Nat) = 0 by decide), dMul_small c.2 (show (-4294967296 : Int) < 31051 by decide) (by decide), lft_some, pure_bind, dAdd_int, dInt_int, dMod_pos _ (show (0 : Int) < 2147483543 by decide), asInt]
    rw [Wp_setC]
    simp only [if_neg (show ¬ (1 : Nat) = 0 by decide), bind_assoc, pure_bind]
    obtain ⟨r1, r2⟩ := fmod_range (c.2 * 31051 + 7993) (show (0 : Int) < 2147483543 by decide)
    rw [Wp_getC]
    simp only [if_neg (show ¬ (1 : Nat) = 0 by decide)]
    rw [Wp_getC]
    simp only [if_neg (show ¬ (1 : Nat) = 0 by decide), dAdd_int, lft_some, pure_bind, dMul_smallL _ (show (-4294967296 : Int) < (c.2 * 31051 + 7993).fmod 2147483543 by omega) (by omega), dInt_int, dMod_pos _ (show (0 : Int) < 2147483587 by decide), dFdiv_pos _ (show (0 : Int) < 821 by decide) (by decide), dMod_pos _ (show (0 : Int) < k by omega)]
    obtain ⟨j, hj, e⟩ := fin ((((c.2 * 31051 + 7993).fmod 2147483543 * ((c.2 * 31051 + 7993).fmod 2147483543 + 229)).fmod 2147483587).fdiv 821)
    exact ⟨j, hj, e, c1, r1, by omega⟩
theorem p_cup {ns : List Int} (hl : ns.length ≤ 63) : ∃ a b : Int, m__law_cup (.list (ns.map .int)) = pure [.int a, .int b] ∧ CupOk (a, b) := by
  have hlim : lim = 16777216 := rfl
  obtain ⟨x, r, e⟩ : ∃ (x : Int) (r : List D), ns.map PyData.int ++ [.int 0] = .int x :: r := by
    cases ns with
    | nil => exact ⟨0, [], rfl⟩
    | cons n r => exact ⟨n, r.map .int ++ [.int 0], rfl⟩
  have e1 : dAdd (.list (ns.map .int)) (.list [.int 0]) = some (.list (.int x :: r)) := by
    show (if (ns.map PyData.int).length + 1 ≤ lim then some (PyData.list (ns.map PyData.int ++ [.int 0])) else none) = _
    rw [if_pos (by rw [List.length_map]; omega), e]
  have e2 : dIx (.list (.int x :: r)) (.int 0) = some (.int x) := dIx_list (i := 0) (xs := .int x :: r) rfl
  obtain ⟨y, hy, e3⟩ : ∃ y : Int, 0 ≤ y ∧ dAbs (.int x) = some (.int y) := ⟨if x < 0 then -x else x, by split <;> omega, rfl⟩
  have e4 : dPow (.int 10) (.int 18) = some (.int 1000000000000000000) := rfl
  obtain ⟨r1, r2⟩ := fmod_range (y * 283 + 3907) (show (0 : Int) < 2077503167 by decide)
  refine ⟨if (1000000000000000000 : Int) ≤ y then y.fdiv 73 else 0, (y * 283 + 3907).fmod 2077503167 + 167, ?_, ?_, by show 0 ≤ (y * 283 + 3907).fmod 2077503167 + 167; omega, by show (y * 283 + 3907).fmod 2077503167 + 167 < 4294967296; omega⟩
  · unfold m__law_cup
    simp only [un1, bin, pure_bind, bind_assoc, dListL, lstM, seqM_cons, seqM_nil, lft_some, e1, e2, e3, e4, ifM, truth, dGe_int, dTru_bool, dFdiv_pos y (show (0 : Int) < 73 by decide) (by decide), dMul_small y (show (-4294967296 : Int) < 283 by decide) (by decide), dAdd_int, dInt_int, dMod_pos _ (show (0 : Int) < 2077503167 by decide), decide_eq_true_eq]
    split <;> rfl
  · show 0 ≤ (if (1000000000000000000 : Int) ≤ y then y.fdiv 73 else 0)
    split
    · exact Int.fdiv_nonneg hy (by decide)
    · decide
theorem p_rollI {i : Int} {k : Nat} {c : Cup} (e : i = (k : Int)) (h1 : 1 ≤ k) (h2 : k < 1000000) (hc : CupOk c) {E : Exc → Cup → Prop} : Wp (m__law_roll (.int i) c) (fun d c' => ∃ j, j < k ∧ d = nD j ∧ CupOk c') E := by
  subst e
  exact p_roll h1 h2 hc
theorem roll_bind {α : Type} {i : Int} {k : Nat} {c : Cup} {f : D → M α} {Q : α → Cup → Prop} {E : Exc → Cup → Prop} (e : i = (k : Int)) (h1 : 1 ≤ k) (h2 : k < 1000000) (hc : CupOk c) (q : ∀ j c', j < k → CupOk c' → Wp (f (nD j) c') Q E) : Wp ((m__law_roll (.int i) >>= f) c) Q E := by
  rw [Wp_bind]
  refine Wp.mono (p_rollI e h1 h2 hc) (fun d c' hh => ?_) (fun _ _ z => z)
  cases hh with
  | intro j hh =>
    cases hh.2.1
    exact q j c' hh.1 hh.2.2
theorem rolls_bind {α : Type} {i : Int} {k : Nat} {xs : List D} {c : Cup} {f : List D → M α} {Q : α → Cup → Prop} {E : Exc → Cup → Prop} (e : i = (k : Int)) (h1 : 1 ≤ k) (h2 : k < 1000000) (hc : CupOk c)
    (q : ∀ (ws : List Nat) c', ws.length = xs.length → CupOk c' → Wp (f (ws.map nD) c') Q E) : Wp ((mapC (fun _ => m__law_roll (.int i)) xs >>= f) c) Q E := by
  rw [Wp_bind]
  refine Wp_mapR (fun d => ∃ w, w < k ∧ d = nD w) CupOk hc (fun x _ c hc => (p_rollI e h1 h2 hc).mono (fun d c' hh => ?_) fun _ _ z => z) fun ys c' hl hy h' => ?_
  · cases hh with
    | intro j hh => exact ⟨⟨j, hh.1, hh.2.1⟩, hh.2.2⟩
  · obtain ⟨ws, e, hw⟩ := nats_of hy
    rw [e]
    exact q ws c' (hw.trans hl) h'
theorem p_function {q : Nat} {c : Cup} (hq : q ≤ 6) (hc : CupOk c) {E : Exc → Cup → Prop} : Wp (m__law_function (nD q) c) (fun d c' => ∃ n l, n ≤ q ∧ l.length = 2 ^ n ∧ d = txtD l ∧ CupOk c') E := by
  have e1 : dAdd (nD q) (.int 1) = some (nD (q + 1)) := dAdd_nat q 1
  unfold m__law_function b__law_function runF seqF
  simp only [bin, un1, bind_assoc, pure_bind, e1, lft_some]
  refine roll_bind (k := q + 1) rfl (by omega) (by omega) hc fun n c1 hn h1 => ?_
  have hn6 : n ≤ 6 := by omega
  refine roll_bind (k := 5) rfl (by decide) (by decide) h1 fun way c2 hway h2 => ?_
  simp only [p_law_rows hn6, pure_bind, dRange1_nat (lim_big (show n ≤ 1000000 by omega)), lft_some, lstM, bind_assoc]
  refine rolls_bind (k := 4) rfl (by decide) (by decide) h2 fun ws c3 hl3 h3 => ?_
  have e2 : dMul (.int 2) (nD n) = some (nD (2 * n)) := dMul_nat (a := 2) n (by decide)
  have e3 : dAdd (nD (2 * n)) (.int 2) = some (nD (2 * n + 2)) := dAdd_nat (2 * n) 2
  simp only [e2, e3, lft_some, pure_bind]
  refine roll_bind (k := 2 * n + 2) rfl (by omega) (by omega) h3 fun bound c4 _ h4 => ?_
  refine rolls_bind (k := 2) rfl (by decide) (by decide) h4 fun ls c5 hl5 h5 => ?_
  simp only [dTuple_list, lft_some, pure_bind, dItems, rowsN]
  rw [Wp_bind]
  refine Wp_forI (k := 0) (fun i t c => (∃ l : List Bool, t = txtD l ∧ l.length = i) ∧ CupOk c) ⟨⟨[], rfl, rfl⟩, h5⟩ (fun i x hx t c ⟨⟨l, et, hl⟩, hc⟩ => ?_) fun t c ⟨⟨l, et, hl⟩, hc⟩ => ?_
  · subst et
    have hi : i < 2 ^ n := by
      have := (List.getElem?_eq_some_iff.mp hx).1
      simpa using this
    have ex : x = rowD (rowOf n i) := by
      rw [List.getElem?_map, List.getElem?_range hi] at hx
      exact (Option.some.inj hx).symm
    subst ex
    have z1 : dZip (.list (ws.map nD)) (rowD (rowOf n i)) = some ((ws.zip (rowOf n i)).map fun p => .tuple [nD p.1, bD p.2]) := by
      show some (zip2 (ws.map nD) ((rowOf n i).map bD)) = _
      rw [zip2_map]
    have z2 : dZip (rowD (rowOf n i)) (.tuple (ls.map nD)) = some (((rowOf n i).zip ls).map fun p => .tuple [bD p.1, nD p.2]) := by
      show some (zip2 ((rowOf n i).map bD) (ls.map nD)) = _
      rw [zip2_map]
    simp only [z1, z2, lft_some, pure_bind, bind_assoc]
    rw [mapC_map (g := fun p => PyData.int ((p.1 : Int) * if p.2 then 1 else 0))]
    rotate_left
    · intro p _
      simp only [par2, lft_some, pure_bind, bD]
      rw [dMul_small _ (by split <;> decide) (by split <;> decide)]
      rfl
    rw [pure_bind, dSum_list]
    simp only [lft_some, pure_bind]
    rw [filtC_map (g := fun _ => .int 1) (p := fun p => decide ((if p.1 then (1 : Int) else 0) < (p.2 : Int)))]
    rotate_left
    · intro p _
      simp only [par2, lft_some, pure_bind, bD, whn, truth, dLt_int, dTru_bool, ite_pure]
    rw [pure_bind]
    simp only [seqM_nil, seqM_cons, pure_bind, bind_assoc, dEq_nil, lft_some, ifM, truth, orT, tupM, dTru_bool, dGe_int, dSum_row, dIn_int, dInt_int, dMod_pos _ (show (0 : Int) < 2 by decide), ite_pure]
    refine roll_bind (k := 2) rfl (by decide) (by decide) hc fun j0 c6 hj0 h6 => ?_
    refine roll_bind (k := 5) rfl (by decide) (by decide) h6 fun j1 c7 hj1 h7 => ?_
    simp only [dEq_int, lft_some, pure_bind, dTru_bool, ite_pure, ite_bD]
    obtain ⟨b0, e0⟩ : ∃ b, (nD j0 : D) = bD b := by
      match j0, hj0 with
      | 0, _ => exact ⟨false, rfl⟩
      | 1, _ => exact ⟨true, rfl⟩
    obtain ⟨b2, e2⟩ := bit_of_mod ((ws.zip (rowOf n i)).map fun p => (p.1 : Int) * if p.2 then 1 else 0).sum
    rw [e0, e2]
    generalize hb1 : (decide ((j1 : Int) = 0)) = b1
    obtain ⟨b, eb⟩ := five b0 b1 b2 _ _ hway
    rw [eb]
    simp only [lft_some, pure_bind, dStr_bit]
    rw [dAdd_ch b (by rw [hl]; have := pow_le hn6; omega)]
    simp only [lft_some, pure_bind]
    exact ⟨_, rfl, ⟨⟨l ++ [b], rfl, by rw [List.length_append, hl, Nat.zero_add]; rfl⟩, h7⟩⟩
  · subst et
    simp only [pure_bind]
    refine ⟨n, l, by omega, ?_, rfl, hc⟩
    rw [hl]; simp
theorem like_ok {k : Nat} {d : D} (h : Ok k d) (hk : k < 10) : m__law_like 10 d d = pure (.bool true) := p_law_like 10 d (Nat.lt_of_le_of_lt h.2 hk) h.1
theorem p_is_whole (i a b : Int) : m_is_whole (.int i) (.int a) (.int b) = pure (.bool (decide (a ≤ i) && decide (i ≤ b))) := by
  have e : m_is_integer (.int i) = pure (.bool true) := rfl
  unfold m_is_whole b_is_whole
  simp only [andV, chn, pure_bind, bind_assoc, e, lft_some, dTru_bool, if_true, dLe_int]
  cases h : decide (a ≤ i)
  · rfl
  · exact runF_rt _
theorem p_need_whole {i a b : Int} (h1 : a ≤ i) (h2 : i ≤ b) : m_need_whole (.int i) (.int a) (.int b) = pure .none := by
  unfold m_need_whole b_need_whole
  simp only [notT, truth, pure_bind, bind_assoc, p_is_whole, decide_eq_true h1, decide_eq_true h2, Bool.and_self, dTru_bool, lft_some, Bool.not_true, Bool.false_eq_true, if_false, runF_nx]
theorem p_is_tuple_of (xs : List D) (a b : Int) : m_is_tuple_of (.tuple xs) (.int a) (.int b) = pure (.bool (decide (a ≤ xs.length) && decide ((xs.length : Int) ≤ b))) := by
  unfold m_is_tuple_of b_is_tuple_of
  simp only [andV, un1, chn, pure_bind, bind_assoc, show dIsi .tuple (.tuple xs) = some (.bool true) from rfl, lft_some, dTru_bool, if_true, dLen_tup, dLe_int]
  cases h : decide (a ≤ xs.length)
  · simp only [h]; rfl
  · simp only [h]; exact runF_rt _
theorem p_some_row {n : Nat} {α : Type} {c : Cup} {f : D → M α} {Q : α → Cup → Prop} {E : Exc → Cup → Prop} (hn : n ≤ 6) (hc : CupOk c) (q : ∀ i c', i < 2 ^ n → CupOk c' → Wp (f (rowN n i) c') Q E) : Wp ((m__law_some (.list (rowsN n)) >>= f) c) Q E := by
  have h64 := pow_le hn
  have hpos := pow_pos' n
  unfold m__law_some b__law_some runF
  simp only [un1, bin, pure_bind, bind_assoc, dLen_list, rowsN_len, lft_some]
  refine roll_bind (k := 2 ^ n) rfl hpos (by omega) hc fun j c2 hj h2 => ?_
  rw [dIx_list (rowsN_get hj)]
  exact q j c2 hj h2
theorem p_some {α : Type} {xs : List D} {c : Cup} {f : D → M α} {Q : α → Cup → Prop} {E : Exc → Cup → Prop} (h1 : 1 ≤ xs.length) (h2 : xs.length < 1000000) (hc : CupOk c) (q : ∀ x c', x ∈ xs → CupOk c' → Wp (f x c') Q E) : Wp ((m__law_some (.list xs) >>= f) c) Q E := by
  unfold m__law_some b__law_some runF
  simp only [un1, bin, pure_bind, bind_assoc, dLen_list, lft_some]
  refine roll_bind (k := xs.length) rfl h1 h2 hc fun j c2 hj h2 => ?_
  rw [dIx_list (List.getElem?_eq_getElem hj)]
  exact q _ c2 (List.getElem_mem hj) h2
theorem fun_bind {α : Type} {k : Nat} {c : Cup} {f : D → M α} {Q : α → Cup → Prop} {E : Exc → Cup → Prop} (hk : k ≤ 6) (hc : CupOk c) (q : ∀ n l c', n ≤ k → l.length = 2 ^ n → CupOk c' → Wp (f (txtD l) c') Q E) : Wp ((m__law_function (nD k) >>= f) c) Q E := by
  rw [Wp_bind]
  with_reducible refine Wp.mono (p_function hk hc) (fun d c' hh => ?_) (fun _ _ z => z)
  cases hh with
  | intro n hh =>
    cases hh with
    | intro l hh =>
      rw [hh.2.2.1]
      exact q n l c' hh.1 hh.2.1 hh.2.2.2
end K14

set_option maxRecDepth 100000
namespace K14
open PySem Mir
/-- m integers -/
def intsL (m : Nat) (g : Nat → Int) : List D := (List.range m).map fun i => .int (g i)
theorem intsL_len (m : Nat) (g : Nat → Int) : (intsL m g).length = m := by simp [intsL]
theorem intsL_congr {m : Nat} {f g : Nat → Int} (h : ∀ i < m, f i = g i) : intsL m f = intsL m g := List.map_congr_left fun i hi => by rw [h i (List.mem_range.mp hi)]
theorem intsL_cat (a b : Nat) (g : Nat → Int) : intsL (a + b) g = intsL a g ++ intsL b fun i => g (a + i) := range_cat (fun i => PyData.int (g i)) a b
theorem rng_facts : ∀ n < 7, ∀ k < n, (decide ((2 * 2 ^ k : Int) ≠ 0) && decide ((2 * 2 ^ k : Int).natAbs < 1073741824) && Builtin.Range.small 0 (2 ^ n : Int) (2 * 2 ^ k : Int) && decide (0 ≤ Builtin.Range.rangeSize 0 (2 ^ n : Int) (2 * 2 ^ k : Int)) && decide ((Builtin.Range.rangeSize 0 (2 ^ n : Int) (2 * 2 ^ k : Int)).toNat ≤ lim)) = true ∧ (Builtin.Range.rangeSize 0 (2 ^ n : Int) (2 * 2 ^ k : Int)).toNat = 2 ^ (n - (k + 1)) := by decide +kernel
theorem pw (k : Nat) : ((2 ^ k : Nat) : Int) = (2 : Int) ^ k := by
  rw [Int.natCast_pow]
  rfl
theorem rng_at {n k : Nat} (hn : n ≤ 6) (hk : k < n) : dRange3 (.int 0) (nD (2 ^ n)) (.int (2 * ((2 ^ k : Nat) : Int))) = some ((List.range (2 ^ (n - (k + 1)))).map fun b => nD (b * 2 ^ (k + 1))) := by
  obtain ⟨h1, h2⟩ := rng_facts n (by omega) k hk
  unfold nD dRange3
  rw [pw, pw]
  refine (if_pos h1).trans ?_
  rw [h2]
  unfold rngC
  refine congrArg some (List.map_congr_left fun b _ => ?_)
  have : (0 : Int) + (b : Int) * (2 * 2 ^ k) = ((b * 2 ^ (k + 1) : Nat) : Int) := by
    rw [Int.natCast_mul, pw, Int.pow_succ, Int.mul_comm (2 ^ k) 2]
    omega
  rw [this]
theorem slc_list {xs : List D} {lo m : Nat} {g : Nat → Int} {N : Nat} (e : xs = intsL N g) (h : lo + m ≤ N) : slc (pure (.list xs)) (optI (pure (nD lo))) (optI (pure (nD (lo + m)))) = pure (.list (intsL m fun r => g (lo + r))) := by
  show (lft (dSl (.list xs) (some ((lo : Nat) : Int)) (some ((lo + m : Nat) : Int))) : M D) = _
  show (lft (some (PyData.list (cutL xs (some ((lo : Nat) : Int)) (some ((lo + m : Nat) : Int))))) : M D) = _
  rw [e]
  unfold intsL
  rw [cut_range (fun i => PyData.int (g i)) h]
  rfl
def stF (n : Nat) (a : Nat → Int) (k : Nat) : D × D := (.list (intsL (2 ^ n) (gk k a)), nD (2 ^ k))
theorem dLt_nat (a b : Nat) : dLt (nD a) (nD b) = some (.bool (decide (a < b))) := by
  rw [dLt_int]
  congr 2
  rw [decide_eq_decide]
  omega
theorem zip_ints (m : Nat) (f g : Nat → Int) : dZip (.list (intsL m f)) (.list (intsL m g)) = some ((List.range m).map fun i => .tuple [.int (f i), .int (g i)]) := dZip_map (fun i => PyData.int (f i)) (fun i => PyData.int (g i)) (List.range m)
theorem bf_low {k b r : Nat} (g : Nat → Int) (hr : r < 2 ^ k) : bf k g (b * 2 ^ (k + 1) + r) = g (b * 2 ^ (k + 1) + r) + g (b * 2 ^ (k + 1) + 2 ^ k + r) := by
  have e : (b * 2 ^ (k + 1) + r).testBit k = false := by
    rw [Nat.pow_succ, bit_dm, decide_eq_false_iff_not, show b * (2 ^ k * 2) = 2 ^ k * (b * 2) from Nat.mul_left_comm _ _ _, Nat.mul_add_div (Nat.two_pow_pos k), Nat.div_eq_of_lt hr]
    omega
  unfold bf
  rw [e, if_neg (by decide), Nat.add_right_comm]
theorem bf_high {k b r : Nat} (g : Nat → Int) (hr : r < 2 ^ k) : bf k g (b * 2 ^ (k + 1) + 2 ^ k + r) = g (b * 2 ^ (k + 1) + r) - g (b * 2 ^ (k + 1) + 2 ^ k + r) := by
  have e : (b * 2 ^ (k + 1) + 2 ^ k + r).testBit k = true := by
    rw [Nat.pow_succ, bit_dm, decide_eq_true_eq, show b * (2 ^ k * 2) + 2 ^ k + r = 2 ^ k * (b * 2 + 1) + r by rw [Nat.mul_add, Nat.mul_one, Nat.mul_left_comm], Nat.mul_add_div (Nat.two_pow_pos k), Nat.div_eq_of_lt hr]
    omega
  unfold bf
  rw [e, if_pos rfl]
  congr 2
  omega
theorem bf_cut (k b : Nat) (g : Nat → Int) : intsL ((b + 1) * 2 ^ (k + 1)) (bf k g) = (intsL (b * 2 ^ (k + 1)) (bf k g) ++ intsL (2 ^ k) fun r => g (b * 2 ^ (k + 1) + r) + g (b * 2 ^ (k + 1) + 2 ^ k + r)) ++ intsL (2 ^ k) fun r => g (b * 2 ^ (k + 1) + r) - g (b * 2 ^ (k + 1) + 2 ^ k + r) := by
  have e : (b + 1) * 2 ^ (k + 1) = b * 2 ^ (k + 1) + 2 ^ k + 2 ^ k := by rw [Nat.succ_mul, Nat.pow_succ]; omega
  rw [e, intsL_cat, intsL_cat]
  congr 1
  · rw [intsL_congr fun r hr => bf_low g hr]
  · rw [intsL_congr fun r hr => bf_high g hr]
def stB (k : Nat) (a : Nat → Int) (b : Nat) : D := .list (intsL (b * 2 ^ (k + 1)) (bf k (gk k a)))
set_option maxHeartbeats 2000000 in
theorem p_fold {n : Nat} (hn : n ≤ 6) {x : D} {a : Nat → Int} (hx : dListL x = some (intsL (2 ^ n) a)) : m_folded_wave x = pure (.list (intsL (2 ^ n) (W n a))) := by
  have h64 := pow_le hn
  have e0 : (PyData.list (intsL (2 ^ n) a), PyData.int 1) = stF n a 0 := by
    unfold stF
    rw [intsL_congr (g := a) fun i _ => gk_zero a i]
    rfl
  have e1 : intsL (2 ^ n) (gk n a) = intsL (2 ^ n) (W n a) := intsL_congr fun i hi => gk_end a hi
  unfold m_folded_wave b_folded_wave
  simp only [lstM, pure_bind, bind_assoc, hx, lft_some, truth, bin, un1, seqM_nil, e0]
  rw [whileF_ix (st := stF n a) n 0 100000 (by omega)]
  · simp only [Nat.zero_add, seqF_nx, runF_rt, stF, e1]
  · intro k _ hk
    simp only [stF, dLen_list, intsL_len, lft_some, pure_bind, dLt_nat, decide_eq_true (show 2 ^ k < 2 ^ n from Nat.pow_lt_pow_right (by decide) (show k < n by omega)), dTru_bool]
  · simp only [Nat.zero_add, stF, dLen_list, intsL_len, lft_some, pure_bind, dLt_nat, Nat.lt_irrefl, decide_false, dTru_bool]
  · intro k _ hk
    have hk : k < n := by omega
    have p0 : 2 ^ (k + 1) = 2 ^ k + 2 ^ k := by rw [Nat.pow_succ]; omega
    have p1 : 2 ^ (n - (k + 1)) * 2 ^ (k + 1) = 2 ^ n := by rw [← Nat.pow_add]; congr 1; omega
    have hm : dMul (.int 2) (nD (2 ^ k)) = some (.int (2 * ((2 ^ k : Nat) : Int))) := dMul_smallL _ (by decide) (by decide)
    have p2 : (2 : Int) * ((2 ^ k : Nat) : Int) = ((2 ^ (k + 1) : Nat) : Int) := by omega
    simp only [stF, dLen_list, intsL_len, lft_some, pure_bind, hm, rng_at hn hk]
    rw [show PyData.list [] = stB k a 0 by unfold stB; rw [Nat.zero_mul]; rfl, forF_ix (g := stB k a)]
    · simp only [seqF_nx, p1, p2, stB]
      rw [intsL_congr fun i _ => bf_g k a i]
    · intro b hb
      have hp := Nat.two_pow_pos k
      have h1 : (b + 1) * 2 ^ (k + 1) ≤ 2 ^ n := by rw [← p1]; exact Nat.mul_le_mul_right _ hb
      have h2 : (b + 1) * 2 ^ (k + 1) = b * 2 ^ (k + 1) + 2 ^ (k + 1) := Nat.succ_mul _ _
      have s1 : dAdd (nD (b * 2 ^ (k + 1))) (nD (2 ^ k)) = some (nD (b * 2 ^ (k + 1) + 2 ^ k)) := dAdd_nat _ _
      have s2 : dAdd (nD (b * 2 ^ (k + 1))) (.int ((2 ^ (k + 1) : Nat) : Int)) = some (nD (b * 2 ^ (k + 1) + 2 ^ k + 2 ^ k)) := by
        rw [show b * 2 ^ (k + 1) + 2 ^ k + 2 ^ k = b * 2 ^ (k + 1) + 2 ^ (k + 1) by omega]
        exact dAdd_nat _ _
      simp only [stB, p2, lft_some, pure_bind, s1, s2, slc_list rfl (show b * 2 ^ (k + 1) + 2 ^ k ≤ 2 ^ n by omega), slc_list rfl (show b * 2 ^ (k + 1) + 2 ^ k + 2 ^ k ≤ 2 ^ n by omega), zip_ints]
      rw [mapC_map (g := fun r => .int (gk k a (b * 2 ^ (k + 1) + r) + gk k a (b * 2 ^ (k + 1) + 2 ^ k + r))) fun r _ => by rfl, pure_bind, dAdd_lst (by rw [intsL_len, List.length_map, List.length_range]; omega), lft_some, pure_bind]
      rw [mapC_map (g := fun r => .int (gk k a (b * 2 ^ (k + 1) + r) - gk k a (b * 2 ^ (k + 1) + 2 ^ k + r))) fun r _ => by rfl, pure_bind, dAdd_lst (by rw [List.length_append, intsL_len, List.length_map, List.length_map, List.length_range]; omega), lft_some, pure_bind, bf_cut]
      rfl
def av (f : Nat → Bool) (i : Nat) : Int := if f i = true then -1 else 1
theorem av_one (f : Nat → Bool) (i : Nat) : av f i = 1 ∨ av f i = -1 := by unfold av; cases f i <;> simp
theorem av_get (l : List Bool) (i : Nat) : av (fun i => l.getD i false) i = if l.getD i false = true then -1 else 1 := rfl
theorem W_small {n : Nat} (hn : n ≤ 6) {a : Nat → Int} (h : ∀ i, a i = 1 ∨ a i = -1) (j : Nat) : -64 ≤ W n a j ∧ W n a j ≤ 64 := by
  have q := S_bound (F := fun i => chi n i j * a i) (m := 2 ^ n) fun i _ => by
    rcases chi_abs n i j with e | e <;> rcases h i with e2 | e2 <;> rw [e, e2] <;> decide
  have h64 := pow_le hn
  unfold W
  omega
theorem items_at {n : Nat} {l : List Bool} (hn : n ≤ 6) (hl : l.length = 2 ^ n) : dItems (txtD l) = some ((List.range (2 ^ n)).map fun i => chD (l.getD i false)) := by
  rw [dItems_txt (lim_big (by have := pow_le hn; omega))]
  have e : l.map chD = (tabF n fun i => l.getD i false).map chD := by rw [tabF_self hl]
  rw [e]
  unfold tabF
  rw [List.map_map]
  rfl
theorem items_ints (m : Nat) (g : Nat → Int) : dItems (.list (intsL m g)) = some ((List.range m).map fun i => .int (g i)) := rfl
theorem items_intsT (m : Nat) (g : Nat → Int) : dItems (.tuple (intsL m g)) = some ((List.range m).map fun i => .int (g i)) := rfl
theorem p_wave_in {n : Nat} {l : List Bool} (hn : n ≤ 6) (hl : l.length = 2 ^ n) : m_wave_in (txtD l) = pure (.list (intsL (2 ^ n) (W n (av fun i => l.getD i false)))) := by
  unfold m_wave_in b_wave_in
  simp only [pure_bind, bind_assoc, items_at hn hl, lft_some, lstM]
  rw [mapC_map (g := fun i => .int (av (fun i => l.getD i false) i)) fun i _ => by
    simp only [pure_bind, ifM, truth, bin, un1, dEq_ch0, lft_some, dTru_bool, dNeg_int, av_get]
    cases l.getD i false <;> rfl]
  simp only [pure_bind]
  have q := p_fold hn (x := .list ((List.range (2 ^ n)).map fun i => .int (av (fun i => l.getD i false) i))) (a := av fun i => l.getD i false) rfl
  rw [q, pure_bind, runF_rt]
def par (n i j : Nat) : Nat := (List.range n).countP fun s => bitAt n i s && bitAt n j s
theorem bD_nD (b : Bool) : bD b = nD (if b = true then 1 else 0) := by cases b <;> rfl
theorem sum_bits {α : Type} (p q : α → Bool) : ∀ xs : List α, ((xs.filter p).map fun s => if q s = true then 1 else 0).sum = xs.countP fun s => q s && p s
  | [] => rfl
  | x :: xs => by
    have ih := sum_bits p q xs
    rw [List.countP_cons, List.filter_cons]
    cases hp : p x <;> cases hq : q x <;> simp [hq, ih] <;> omega
theorem dSum_bits (n i j : Nat) : dSum (.list (((List.range n).filter fun s => bitAt n j s).map fun s => bD (bitAt n i s))) = some (nD (par n i j)) := by
  have e : (((List.range n).filter fun s => bitAt n j s).map fun s => bD (bitAt n i s)) = ((List.range n).filter fun s => bitAt n j s).map fun s => nD (if bitAt n i s = true then 1 else 0) := List.map_congr_left fun s _ => bD_nD _
  rw [e, dSum_nats, sum_bits]
  rfl
theorem par_comm (n i j : Nat) : par n i j = par n j i := by
  unfold par
  congr 1
  funext s
  exact Bool.and_comm _ _
theorem fmod2 (c : Nat) : ((c : Nat) : Int).fmod 2 = ((c % 2 : Nat) : Int) := by
  rw [Int.fmod_eq_emod_of_nonneg _ (by decide)]
  omega
theorem par_eq (c : Nat) (b : Bool) : dEq (.int ((c : Int).fmod 2)) (bD b) = some (.bool ((c % 2 == 1) == b)) := by
  rw [fmod2]
  have : c % 2 = 0 ∨ c % 2 = 1 := by omega
  rcases this with e | e <;> rw [e] <;> cases b <;> rfl
theorem chi_par {n : Nat} (hn : n ≤ 6) {i j : Nat} (hi : i < 2 ^ n) (hj : j < 2 ^ n) : chi n i j = if (par n i j % 2 == 1) = true then -1 else 1 := by
  rw [chi_row n (by omega) i hi j hj]
  unfold par
  by_cases h : ((List.range n).countP fun s => bitAt n i s && bitAt n j s) % 2 = 1
  · rw [if_pos h, if_pos (by rw [h]; rfl)]
  · rw [if_neg h, if_neg (by simpa using h)]
theorem forF_S {γ : Type} {f : D → D → M (Fl D D)} {h : Nat → D} {F : Nat → Int} {m : Nat} (q : ∀ k < m, ∀ z, f (h k) (.int z) = pure (.nx (.int (z + F k)))) : forF (γ := γ) f ((List.range m).map h) (.int 0) = pure (.nx (.int (S m F))) :=
  forF_ix (g := fun k => PyData.int (S k F)) fun k hk => by rw [q k hk, S_succ]
theorem filt_true {α : Type} (xs : List α) : xs.filter (fun _ => true) = xs := List.filter_eq_self.mpr fun _ _ => rfl
theorem zip_rows_txt {n : Nat} {l : List Bool} (hn : n ≤ 6) (hl : l.length = 2 ^ n) : dZip (.list (rowsN n)) (txtD l) = some ((List.range (2 ^ n)).map fun i => .tuple [rowN n i, chD (l.getD i false)]) := by
  unfold dZip
  rw [items_at hn hl, dItems_list]
  show some (zip2 (rowsN n) _) = _
  unfold rowsN
  rw [zip_map]
theorem p_law_wave {n : Nat} {l : List Bool} (hn : n ≤ 6) (hl : l.length = 2 ^ n) : m__law_wave (txtD l) = pure (.tuple (intsL (2 ^ n) (W n (av fun i => l.getD i false)))) := by
  have h64 := pow_le hn
  unfold m__law_wave b__law_wave
  simp only [pure_bind, bind_assoc, p_law_count hn hl, p_law_rows hn, seqM_nil, dItems_list, lft_some, zip_rows_txt hn hl]
  rw [show rowsN n = (List.range (2 ^ n)).map (rowN n) from rfl]
  rw [forF_push (p := fun _ => true) (g := fun j => .int (W n (av fun i => l.getD i false) j)) (by simp; omega)]
  · simp only [filt_true, seqF_nx, List.nil_append, un1, dTuple_list, lft_some, pure_bind, runF_rt]
    rfl
  · intro j hj t ht
    have hj := List.mem_range.mp hj
    rw [forF_S (F := fun i => chi n i j * av (fun i => l.getD i false) i)]
    · simp only [seqF_nx, fitL_ok ht, lft_some, pure_bind, if_true]
      rfl
    · intro i hi z
      simp only [par2, lft_some, pure_bind, bind_assoc, un1, bin, lstM, dZip_rows]
      rw [filtC_map (p := fun s => bitAt n j s) (g := fun s => bD (bitAt n i s)) fun s _ => by
        simp only [par2, lft_some, pure_bind, whn, truth, bin, dEq_bit1, dTru_bool]
        cases bitAt n j s <;> rfl]
      have ev : (if ((par n i j % 2 == 1) == l.getD i false) = true then (1 : Int) else -1) = chi n i j * av (fun i => l.getD i false) i := by
        rw [chi_par hn hi hj, av_get]
        cases (par n i j % 2 == 1) <;> cases l.getD i false <;> rfl
      rw [← ev]
      simp only [pure_bind, dSum_bits, lft_some, dInt_int, dInt_ch, dMod_pos _ (show (0 : Int) < 2 by decide), par_eq, truth, dTru_bool, ifM, dNeg_int]
      cases ((par n i j % 2 == 1) == l.getD i false) <;> rfl
theorem p_need_alike {n : Nat} {l r : List Bool} (hn : n ≤ 6) (hl : l.length = 2 ^ n) (hr : r.length = 2 ^ n) : m_need_alike (txtD l) (txtD r) = pure .none := by
  unfold m_need_alike b_need_alike
  simp only [pure_bind, bind_assoc, orT, notT, truth, bin, un1, p_fits_function hn hr, p_len hn hl, p_len hn hr, lft_some, dTru_bool, Bool.not_true, Bool.false_eq_true, if_false, dNe_int, decide_true, runF_nx]
theorem p_joined_sum {n : Nat} {l r : List Bool} (hn : n ≤ 6) (hl : l.length = 2 ^ n) (hr : r.length = 2 ^ n) : m_joined (txtD l) (txtD r) (.str "sum") = pure (txtD (tabF n fun i => l.getD i false != r.getD i false)) := by
  have h64 := pow_le hn
  have e1 : dNotIn (.str "sum") K_WORDS = some (.bool false) := by kernel_rfl
  have e2 : dEq (.str "sum") K_SUM = some (.bool true) := by kernel_rfl
  have e3 : dIsi .str (.str "sum") = some (.bool true) := rfl
  have e4 : dZipL (txtD l) (txtD r) = some ((List.range (2 ^ n)).map fun i => .tuple [chD (l.getD i false), chD (r.getD i false)]) := by
    unfold dZipL dZip
    rw [items_at hn hl, items_at hn hr]
    show (some (zip2 _ _)).bind fitL = _
    rw [zip_map]
    exact fitL_ok (by simp; omega)
  have e5 : ((List.range (2 ^ n)).map fun i => PyData.bool (l.getD i false != r.getD i false)) = (tabF n fun i => l.getD i false != r.getD i false).map PyData.bool := by unfold tabF; rw [List.map_map]; rfl
  unfold m_joined b_joined m_joined_in b_joined_in
  simp only [pure_bind, bind_assoc, p_need_function hn hl, p_need_alike hn hl hr, orT, notT, truth, bin, un1, e1, e2, e3, e4, lstM, lft_some, dTru_bool, Bool.not_true, Bool.false_eq_true, if_false, if_true, dItems_list]
  rw [mapC_map (g := fun i => .bool (l.getD i false != r.getD i false)) fun i _ => by simp only [par2, lft_some, pure_bind, dNe_ch]]
  simp only [pure_bind, e5, p_function_by hn (tabF_len n _), runF_rt]
theorem str_par (c : Nat) : dStr (.int ((c : Int).fmod 2)) = some (chD (c % 2 == 1)) := by
  rw [fmod2]
  have : c % 2 = 0 ∨ c % 2 = 1 := by omega
  rcases this with e | e <;> rw [e] <;> kernel_rfl
theorem sum_both (n i j : Nat) : dSum (.list (((List.range n).filter fun s => bitAt n i s && bitAt n j s).map fun _ => .int 1)) = some (nD (par n i j)) := by
  have := dSum_nats (fun _ : Nat => 1) ((List.range n).filter fun s => bitAt n i s && bitAt n j s)
  rw [sum_ones fun _ _ => rfl, ← List.countP_eq_length_filter] at this
  exact this
theorem forF_at {τ γ : Type} {f : D → τ → M (Fl τ τ)} {h : Nat → D} {t0 : τ} {g : Nat → τ} {m : Nat} (h0 : t0 = g 0) (q : ∀ k < m, f (h k) (g k) = pure (.nx (g (k + 1)))) : forF (γ := γ) f ((List.range m).map h) t0 = pure (.nx (g m)) := by
  rw [h0]
  exact forF_ix q
abbrev Key := Int ⊕ Str
def kI (s : Nat) : Key := .inl (s : Int)
theorem kI_inj {a b : Nat} (h : kI a = kI b) : a = b := by
  unfold kI at h
  have := Sum.inl.inj h
  omega
theorem keys_nats : ∀ os : List Nat, keysD (os.map nD) = some (os.map kI)
  | [] => rfl
  | s :: os => by
    show (match keyD (nD s), keysD (os.map nD) with | some k, some ks => some (k :: ks) | _, _ => none) = _
    rw [keys_nats os]
    rfl
theorem nodup_keys {os : List Nat} (h : os.Nodup) : (os.map kI).Nodup := List.pairwise_map.mpr (List.Pairwise.imp (fun {a b} hne e => hne (kI_inj e)) h)
theorem find_zip {d : D} {s : Nat} : ∀ {os : List Nat} {ds : List D} {p : Nat}, os.Nodup → os[p]? = some s → ds[p]? = some d → (((os.map kI).zip ds).find? fun kv => decide (kv.1 = kI s)) = some (kI s, d)
  | [], _, _, _, h, _ => by simp at h
  | _ :: _, [], _, _, _, h => by simp at h
  | o :: os, e :: ds, 0, _, h1, h2 => by
    have h1 : o = s := Option.some.inj h1
    have h2 : e = d := Option.some.inj h2
    subst h1 h2
    show List.find? _ ((kI o, e) :: _) = _
    rw [List.find?_cons_of_pos (by simp)]
  | o :: os, e :: ds, p + 1, hn, h1, h2 => by
    have hn := List.nodup_cons.mp hn
    have h1 : os[p]? = some s := by simpa using h1
    have h2 : ds[p]? = some d := by simpa using h2
    have ne : ¬ kI o = kI s := fun q => hn.1 (by rw [kI_inj q]; exact List.mem_of_getElem? h1)
    show List.find? _ ((kI o, e) :: _) = _
    rw [List.find?_cons_of_neg (by simpa using ne)]
    exact find_zip hn.2 h1 h2
section
variable {n : Nat} {os : List Nat} (hn : n ≤ 6) (h : IsP n os)
include hn h
theorem dict_at (i : Nat) : dDictZip (sgD os) (rowN n i) = some ((os.map kI).zip ((List.range n).map fun s => bD (bitAt n i s))) := by
  rw [rowN_eq]
  show (match keysD (os.map nD) with | some ks => if ks.Nodup ∧ (os.map nD).length ≤ lim ∧ (os.map nD).length = ((List.range n).map fun s => bD (bitAt n i s)).length then some (ks.zip ((List.range n).map fun s => bD (bitAt n i s))) else none | none => none) = _
  rw [keys_nats]
  have h3 : lim = 16777216 := rfl
  exact if_pos ⟨nodup_keys h.nodup, by rw [List.length_map, h.len]; omega, by simp [h.len]⟩
end
section
variable {n : Nat} {os : List Nat} (hn : n ≤ 6) (h : IsP n os)
include hn h
theorem get_at (i : Nat) {s : Nat} (hs : s < n) : dGet ((os.map kI).zip ((List.range n).map fun s => bD (bitAt n i s))) (nD s) = some (bD (bitAt n i (posOf os s))) := by
  obtain ⟨p1, p2⟩ := pos_get (h.all s hs)
  rw [h.len] at p2
  show ((((os.map kI).zip ((List.range n).map fun s => bD (bitAt n i s))).find? fun kv => decide (kv.1 = kI s))).map (·.2) = _
  rw [find_zip (p := posOf os s) (d := bD (bitAt n i (posOf os s))) h.nodup p1 (by rw [List.getElem?_map, List.getElem?_range p2]; rfl)]
  rfl
end
section
variable {n : Nat} {os : List Nat} (hn : n ≤ 6) (h : IsP n os)
include hn h
theorem number_list (xs : List D) : m_number_in (.list xs) = m_number_in (.tuple xs) := by
  unfold m_number_in b_number_in
  simp only [pure_bind, dItems_list, dItems_tup]
end
section
variable {n : Nat} {os : List Nat} (hn : n ≤ 6) (h : IsP n os)
include hn h
theorem led_num (i : Nat) : m_number_in (.list ((List.range n).map fun s => bD (bitAt n i (posOf os s)))) = pure (nD (ledN n os i)) := by
  rw [number_list hn h]
  have e := (led_row hn os i).1
  have q := p_number_in hn (led_row hn os i).2
  unfold rowN at q
  rw [e] at q
  unfold rowD at q
  rw [List.map_map] at q
  exact q
end
section
variable {n : Nat} {os : List Nat} (hn : n ≤ 6) (h : IsP n os)
include hn h
theorem p_led_in {l : List Bool} (hl : l.length = 2 ^ n) : m_led_in (txtD l) (sgD os) = pure (txtD (tabF n fun i => l.getD (ledN n os i) false)) := by
  have h64 := pow_le hn
  unfold m_led_in b_led_in
  simp only [seqM_nil, pure_bind, bind_assoc, p_count_in hn hl, p_rows_in hn, dItems_list, lft_some]
  unfold rowsN
  rw [forF_push (p := fun _ => true) (g := fun i => chD (l.getD (ledN n os i) false)) (by simp; omega)]
  · have e : ((List.range (2 ^ n)).filter fun _ => true) = List.range (2 ^ n) := List.filter_eq_self.mpr fun _ _ => rfl
    have e2 : ((List.range (2 ^ n)).map fun i => chD (l.getD (ledN n os i) false)) = (tabF n fun i => l.getD (ledN n os i) false).map chD := by unfold tabF; rw [List.map_map]; rfl
    simp only [seqF_nx, List.nil_append, e, e2, joinM, pure_bind, dJoin_ch (show (tabF n fun i => l.getD (ledN n os i) false).length ≤ 1000000 by rw [tabF_len]; omega), lft_some]
    exact runF_rt _
  · intro i hi t ht
    simp only [lft_some, pure_bind, bind_assoc, dict_at hn h, un1, bin, dLen_row, dRange1_nat (lim_big (show n ≤ 1000000 by omega)), lstM]
    rw [mapC_map (g := fun s => bD (bitAt n i (posOf os s))) fun s hs => by simp only [lft_some, pure_bind, get_at hn h i (List.mem_range.mp hs)]]
    simp only [pure_bind, led_num hn h, p_at hn hl (led_row hn os i).2, lft_some, fitL_ok ht]
    rfl
end
section
variable {n : Nat} {os : List Nat} (hn : n ≤ 6) (h : IsP n os)
include hn h
theorem p_led {l : List Bool} (hl : l.length = 2 ^ n) : m_led (txtD l) (sgD os) = pure (txtD (tabF n fun i => l.getD (ledN n os i) false)) := by
  have e1 : m_is_tuple_of (sgD os) (nD n) (nD n) = pure (.bool true) := by
    rw [p_is_tuple_of, List.length_map, h.len, decide_eq_true (show (n : Int) ≤ (n : Int) by omega)]
    rfl
  have e2 : isort (os.map nD) = (List.range n).map nD := by
    refine isort_eq_of (h.perm.symm.map nD) ?_ (fun a ha b hb => nD_anti ha hb)
    refine List.pairwise_map.mpr ?_
    refine List.Pairwise.imp (fun {a b} hab => ?_) List.pairwise_lt_range
    rw [leD_nats, decide_eq_true_eq]
    exact Nat.le_of_lt hab
  have e3 : dNe (.list ((List.range n).map nD)) (.list ((List.range n).map nD)) = some (.bool false) := by
    have ok : Ok 1 (.list ((List.range n).map nD)) := Ok.listMap fun s _ => Ok.int _
    unfold dNe
    rw [if_pos (by have := ok.2; omega), eqv_self ok.1]
    rfl
  unfold m_led b_led
  simp only [pure_bind, bind_assoc, p_need_function hn hl, p_count_in hn hl, orT, notT, truth, e1, lft_some, dTru_bool, Bool.not_true, un1, bin, dItems_tup, lstM, dSub_int]
  rw [mapC_map (g := fun _ => .bool true) fun s hs => by
    have := h.lt hs
    simp only [lft_some, pure_bind, p_is_whole, decide_eq_true (show (0 : Int) ≤ (s : Int) by omega), decide_eq_true (show (s : Int) ≤ (n : Int) - 1 by omega), Bool.and_self]]
  have e6 : dSortL (sgD os) = some (isort (os.map nD)) := by
    show (if sortOk (os.map nD) = true then some (isort (os.map nD)) else none) = _
    rw [if_pos (sortOk_nats os)]
  have e4 := dAll_map (fun _ : Nat => true) os
  have e5 : (os.all fun _ => true) = true := List.all_eq_true.mpr fun _ _ => rfl
  rw [e5] at e4
  simp only [pure_bind, e4, lft_some, dTru_bool, Bool.not_true, Bool.false_eq_true, if_false, e6, e2, dRange1_nat (lim_big (show n ≤ 1000000 by omega)), e3, p_led_in hn h hl, runF_rt]
end
def rt (n : Nat) : Int := ((2 ^ (n / 2) : Nat) : Int)
def flat (n : Nat) (a : Nat → Int) : Prop := n % 2 = 0 ∧ ∀ j < 2 ^ n, W n a j = rt n ∨ W n a j = 0 - rt n
theorem rt_pos (n : Nat) : 0 < rt n := by
  have := Nat.two_pow_pos (n / 2)
  unfold rt
  omega
theorem rt_sq {n : Nat} (h : n % 2 = 0) : rt n * rt n = 2 ^ n := by
  unfold rt
  rw [pw, ← Int.pow_add, show n / 2 + n / 2 = n by omega]
theorem flat_congr {n : Nat} {a b : Nat → Int} (h : ∀ i < 2 ^ n, a i = b i) (hf : flat n a) : flat n b := ⟨hf.1, fun j hj => by rw [← W_congr h j]; exact hf.2 j hj⟩
theorem S_prod (m k : Nat) (F : Nat → Int) : S (m * k) F = S m fun x => S k fun y => F (x * k + y) := by
  induction m with
  | zero => rw [Nat.zero_mul, S_zero, S_zero]
  | succ m ih => rw [Nat.succ_mul, S_cat, ih, S_succ]
theorem chi_split (h : Nat) : ∀ k t r, chi (h + k) t r = chi k (t / 2 ^ h) (r / 2 ^ h) * chi h t r
  | 0, t, r => by rw [Nat.add_zero, chi, Int.one_mul]
  | k + 1, t, r => by
    rw [← Nat.add_assoc, chi, chi, chi_split h k t r, Nat.testBit_div_two_pow, Nat.testBit_div_two_pow, Int.mul_assoc, Nat.add_comm k h]
theorem chi_low {h x y r : Nat} (hy : y < 2 ^ h) : chi h (x * 2 ^ h + y) r = chi h y r := chi_congr fun b hb => by
  rw [Nat.mul_comm, Nat.testBit_two_pow_mul_add _ hy, if_pos hb]
/-- the function by an order and a function -/
def mm (h : Nat) (os : List Nat) (g : Nat → Bool) (i : Nat) : Bool := (par h (i / 2 ^ h) (os.getD (i % 2 ^ h) 0) % 2 == 1) ^^ g (i % 2 ^ h)
abbrev fl (l : List Bool) : Nat → Bool := fun i => l.getD i false
def rtD (n : Nat) : D := if n % 2 = 0 then nD (2 ^ (n / 2)) else .none
theorem p_root_of : ∀ {n : Nat}, n ≤ 6 → m_root_of (nD (2 ^ n)) = pure (rtD n) :=
  cases6 (P := fun n => m_root_of (nD (2 ^ n)) = pure (rtD n)) (by kernel_rfl) (by kernel_rfl) (by kernel_rfl) (by kernel_rfl) (by kernel_rfl) (by kernel_rfl) (by kernel_rfl)
theorem dIn_two (x a b : Int) : dIn (.int x) (.tuple [.int a, .int b]) = some (.bool (decide (x = a) || decide (x = b))) := by
  rw [dIn_int]
  have e : ∀ m : Int, PyData.eqv (.int m) (.int x) = decide (x = m) := fun m => by
    have : PyData.eqv (.int m) (.int x) = decide (m = x) := rfl
    rw [this, decide_eq_decide]
    exact eq_comm
  show some (PyData.bool (PyData.eqv (.int a) (.int x) || (PyData.eqv (.int b) (.int x) || false))) = _
  rw [e, e, Bool.or_false]
def hitB (n : Nat) (a : Nat → Int) (j : Nat) : Bool := decide (W n a j = rt n) || decide (W n a j = 0 - rt n)
def flatB (n : Nat) (a : Nat → Int) : Bool := decide (n % 2 = 0) && (List.range (2 ^ n)).all (hitB n a)
theorem flatB_iff {n : Nat} {a : Nat → Int} : flatB n a = true ↔ flat n a := by
  unfold flatB flat hitB
  rw [Bool.and_eq_true, decide_eq_true_eq, List.all_eq_true]
  refine and_congr Iff.rfl ⟨fun h j hj => ?_, fun h j hj => ?_⟩
  · have := h j (List.mem_range.mpr hj)
    rwa [Bool.or_eq_true, decide_eq_true_eq, decide_eq_true_eq] at this
  · rw [Bool.or_eq_true, decide_eq_true_eq, decide_eq_true_eq]
    exact h j (List.mem_range.mp hj)
section
variable {n : Nat} {l : List Bool} (hn : n ≤ 6) (hl : l.length = 2 ^ n)
include hn hl
theorem p_is_flat_in : m_is_flat_in (txtD l) = pure (.bool (flatB n (av (fl l)))) := by
  unfold m_is_flat_in b_is_flat_in flatB
  simp only [pure_bind, bind_assoc, un1, bin, p_len hn hl, p_root_of hn, p_wave_in hn hl, items_ints, lft_some, andV, lstM, tupM, seqM_cons, seqM_nil]
  by_cases h : n % 2 = 0
  · have e : rtD n = .int (rt n) := if_pos h
    rw [e, decide_eq_true h]
    simp only [show dNotN (.int (rt n)) = some (.bool true) from rfl, lft_some, pure_bind, dTru_bool, if_true, dSub_int]
    rw [mapC_map (g := fun j => .bool (hitB n (av (fl l)) j)) fun j _ => by
      simp only [lft_some, pure_bind, dIn_two]
      rfl]
    simp only [pure_bind, dAll_map, lft_some, runF_rt, Bool.true_and]
  · have e : rtD n = .none := if_neg h
    rw [e, decide_eq_false h]
    simp only [show dNotN .none = some (.bool false) from rfl, lft_some, pure_bind, dTru_bool, Bool.false_eq_true, if_false, runF_rt, Bool.false_and]
end
section
variable {n : Nat} {l : List Bool} (hn : n ≤ 6) (hl : l.length = 2 ^ n)
include hn hl
theorem p_is_flat : m_is_flat (txtD l) = pure (.bool (flatB n (av (fl l)))) := by
  unfold m_is_flat b_is_flat
  simp only [pure_bind, bind_assoc, p_need_function hn hl, p_is_flat_in hn hl, runF_rt]
end
section
variable {n : Nat} {l : List Bool} (hn : n ≤ 6) (hl : l.length = 2 ^ n)
include hn hl
/-- the dual, as a list -/
def dl (n : Nat) (l : List Bool) : List Bool := tabF n fun j => !(decide (0 < W n (av (fl l)) j))
end
section
variable {n : Nat} {l : List Bool} (hn : n ≤ 6) (hl : l.length = 2 ^ n)
include hn hl
omit hn hl in
theorem dl_text (n : Nat) (l : List Bool) : ((List.range (2 ^ n)).map fun j => chD (!(decide (0 < W n (av (fl l)) j)))) = (dl n l).map chD := by
  unfold dl tabF
  rw [List.map_map]
  rfl
end
section
variable {n : Nat} {l : List Bool} (hn : n ≤ 6) (hl : l.length = 2 ^ n)
include hn hl
omit hl in
theorem join_dl : dJoin (.str "") (.list ((dl n l).map chD)) = some (txtD (dl n l)) := dJoin_ch (by
  have h64 := pow_le hn
  unfold dl
  rw [tabF_len]
  omega)
end
section
variable {n : Nat} {l : List Bool} (hn : n ≤ 6) (hl : l.length = 2 ^ n)
include hn hl
theorem p_flat_dual (hf : flat n (av (fl l))) : m_flat_dual (txtD l) = pure (txtD (dl n l)) := by
  unfold m_flat_dual b_flat_dual m_need_flat b_need_flat
  simp only [pure_bind, bind_assoc, p_need_function hn hl, p_is_flat_in hn hl, flatB_iff.mpr hf, notT, truth, lft_some, dTru_bool, Bool.not_true, Bool.false_eq_true, if_false, runF_nx, p_wave_in hn hl, items_ints, joinM, lstM]
  rw [mapC_map (g := fun j => chD (!(decide (0 < W n (av (fl l)) j)))) fun j _ => by
    simp only [lft_some, pure_bind, ifM, truth, bin, dGt_int, dTru_bool]
    cases decide (0 < W n (av (fl l)) j) <;> rfl]
  simp only [pure_bind, bind_assoc, dl_text, join_dl hn, lft_some, runF_rt]
end
theorem Wp_nexI {α : Type} {m : M α} {c : Cup} {Q : α → Cup → Prop} {E : Exc → Cup → Prop} (h : Wp (m c) Q (fun _ _ => False)) : Wp (nex m c) Q E := by
  unfold nex
  cases e : m c with
  | ok a c' => rw [e] at h; exact h
  | exc x c' => rw [e] at h; exact h.elim
  | bad => rw [e] at h; exact h
theorem erase_map {α β : Type} (f : α → β) (xs : List α) (j : Nat) : (xs.map f).eraseIdx j = (xs.eraseIdx j).map f := by
  rw [List.eraseIdx_eq_take_drop_succ, List.eraseIdx_eq_take_drop_succ, List.map_append, List.map_take, List.map_drop]
theorem popI_nat {left : List Nat} {j : Nat} (hj : j < left.length) (h : left.length ≤ 1000) : popI (left.map nD) (nD j) = some (nD (left.getD j 0), (left.eraseIdx j).map nD) := by
  have h3 : lim = 16777216 := rfl
  show (if 0 ≤ (j : Int) ∧ (j : Int) < ((left.map nD).length : Nat) ∧ (left.map nD).length ≤ lim then ((left.map nD)[((j : Nat) : Int).toNat]?).map fun d => (d, (left.map nD).eraseIdx ((j : Nat) : Int).toNat) else none) = _
  rw [List.length_map, if_pos ⟨by omega, by omega, by omega⟩, Int.toNat_natCast, List.getElem?_map, getD_mem hj, erase_map]
  rfl
/-- everything in a random order -/
theorem pop_loop {β : Type} {k : Fl (List D × List D) Unit → M β} {Q : β → Cup → Prop} {E : Exc → Cup → Prop} : ∀ (m fuel : Nat) (left order : List Nat) (c : Cup), left.length = m → m < fuel → left.length + order.length ≤ 1000 → CupOk c →
    (∀ (os : List Nat) c', os.Perm (order ++ left) → CupOk c' → Wp (k (.nx ([], os.map nD)) c') Q E) →
    Wp ((whileF (γ := Unit) (τ := List D × List D) (fun t => nex (lft (dNe (.list t.1) (.list [])) >>= fun d => lft (dTru d))) (fun t => nex (lft (dLen (.list t.1)) >>= fun x => m__law_roll x >>= fun d => lft (flatO d)) >>= fun d => lft (popI t.1 d) >>= fun r => lft (fitL t.2) >>= fun y => pure (.nx (r.2, y ++ [r.1]))) fuel (left.map nD, order.map nD) >>= k) c) Q E
  | 0, 0, _, _, _, _, h, _, _, _ => absurd h (Nat.lt_irrefl 0)
  | m + 1, 0, _, _, _, _, h, _, _, _ => absurd h (Nat.not_lt_zero _)
  | 0, fuel + 1, left, order, c, hl, _, _, hc, q => by
    have e := List.length_eq_zero_iff.mp hl
    subst e
    rw [whileF]
    simp only [List.map_nil, show dNe (.list []) (.list []) = some (.bool false) from rfl, lft_some, pure_bind, dTru_bool, nex_pure, Bool.false_eq_true, if_false]
    have := q order c (by rw [List.append_nil]) hc
    exact this
  | m + 1, fuel + 1, left, order, c, hl, hf, hz, hc, q => by
    have e1 : dNe (.list (left.map nD)) (.list []) = some (.bool true) := by
      rw [dNe_lnil]
      cases left with
      | nil => cases hl
      | cons x r => rfl
    rw [whileF]
    simp only [e1, lft_some, pure_bind, dTru_bool, nex_pure, if_true, bind_assoc]
    rw [Wp_bind]
    have hroll : Wp (nex (lft (dLen (.list (left.map nD))) >>= fun x => m__law_roll x >>= fun d => lft (flatO d)) c) (fun d c' => ∃ j, j < left.length ∧ d = nD j ∧ CupOk c') E := by
      refine Wp_nexI ?_
      rw [dLen_list, List.length_map, lft_some, pure_bind]
      refine roll_bind (k := left.length) rfl (by omega) (by omega) hc fun j c' hj h' => ?_
      exact ⟨j, hj, rfl, h'⟩
    with_reducible refine Wp.mono hroll (fun d c' hh => ?_) (fun _ _ z => z)
    cases hh with
    | intro j hh =>
    have hj := hh.1
    have h' := hh.2.2
    rw [hh.2.1]
    simp only [popI_nat hj (show left.length ≤ 1000 by omega), fitL_ok (show (order.map nD).length ≤ 1000000 by rw [List.length_map]; omega), lft_some, pure_bind]
    have hp : (order ++ [left.getD j 0] ++ left.eraseIdx j).Perm (order ++ left) := by
      rw [List.append_assoc]
      refine List.Perm.append_left order ?_
      have e2 : left[j]? = some (left.getD j 0) := getD_mem hj
      have e3 : left.getD j 0 = left[j]'hj := by
        rw [List.getD_eq_getElem?_getD, List.getElem?_eq_getElem hj]; rfl
      rw [e3, List.eraseIdx_eq_take_drop_succ]
      have e4 : left.take j ++ left[j]'hj :: left.drop (j + 1) = left := by rw [← List.drop_eq_getElem_cons hj, List.take_append_drop]
      conv => rhs; rw [← e4]
      show (left[j]'hj :: (left.take j ++ left.drop (j + 1))).Perm _
      exact List.perm_middle.symm
    have := pop_loop m fuel (left.eraseIdx j) (order ++ [left.getD j 0]) c' (by rw [List.length_eraseIdx_of_lt hj]; omega) (by omega) (by rw [List.length_eraseIdx_of_lt hj, List.length_append, List.length_singleton]; omega) h' fun os c2 hp2 h2 => q os c2 (hp2.trans hp) h2
    rw [List.map_append] at this
    exact this
theorem perm_isP {n : Nat} {os : List Nat} (h : os.Perm (List.range n)) : IsP n os := ⟨by rw [h.length_eq, List.length_range], fun s hs => h.mem_iff.mpr (List.mem_range.mpr hs)⟩
theorem flat_tab {n : Nat} {f : Nat → Bool} (hf : flat n (av f)) : flat n (av (fl (tabF n f))) := flat_congr (fun i hi => by
  show av f i = av (fun i => (tabF n f).getD i false) i
  rw [av_get, tabF_get hi]
  rfl) hf
theorem bits_list {ws : List Nat} (h : ∀ w ∈ ws, w < 2) : ∃ g : Nat → Bool, ws.map nD = (List.range ws.length).map fun i => bD (g i) := by
  refine ⟨fun i => decide (ws.getD i 0 = 1), ?_⟩
  refine List.ext_getElem? fun i => ?_
  rw [List.getElem?_map, List.getElem?_map]
  by_cases hi : i < ws.length
  · have e := getD_mem hi
    have hw := h _ (List.mem_of_getElem? e)
    rw [e, List.getElem?_range hi]
    show some (nD (ws.getD i 0)) = some (bD (decide (ws.getD i 0 = 1)))
    generalize ws.getD i 0 = w at hw
    match w, hw with
    | 0, _ => rfl
    | 1, _ => rfl
  · rw [List.getElem?_eq_none (by omega), List.getElem?_eq_none (by simp; omega)]
    rfl
theorem rolls_lt {α : Type} {i : Int} {k : Nat} {xs : List D} {c : Cup} {f : List D → M α} {Q : α → Cup → Prop} {E : Exc → Cup → Prop} (e : i = (k : Int)) (h1 : 1 ≤ k) (h2 : k < 1000000) (hc : CupOk c)
    (q : ∀ (ws : List Nat) c', ws.length = xs.length → (∀ w ∈ ws, w < k) → CupOk c' → Wp (f (ws.map nD) c') Q E) : Wp ((mapC (fun _ => m__law_roll (.int i)) xs >>= f) c) Q E := by
  rw [Wp_bind]
  refine Wp_mapR (fun d => ∃ w, w < k ∧ d = nD w) CupOk hc (fun x _ c hc => (p_rollI e h1 h2 hc).mono (fun d c' hh => ?_) fun _ _ z => z) fun ys c' hl hy h' => ?_
  · cases hh with
    | intro j hh => exact ⟨⟨j, hh.1, hh.2.1⟩, hh.2.2⟩
  · obtain ⟨ws, e, hw⟩ := nats_of hy
    rw [e]
    refine q ws c' (hw.trans hl) (fun w hm => ?_) h'
    obtain ⟨v, hv, ev⟩ := hy (nD w) (by rw [e]; exact List.mem_map_of_mem hm)
    have ev : PyData.int (w : Int) = PyData.int (v : Int) := ev
    injection ev with ev
    omega
theorem mm_at {h x y : Nat} {os : List Nat} {g : Nat → Bool} (hy : y < 2 ^ h) : mm h os g (x * 2 ^ h + y) = ((par h x (os.getD y 0) % 2 == 1) ^^ g y) := by
  have hpos : 0 < 2 ^ h := Nat.two_pow_pos h
  unfold mm
  rw [show (x * 2 ^ h + y) / 2 ^ h = x by rw [Nat.mul_comm, Nat.mul_add_div hpos, Nat.div_eq_of_lt hy, Nat.add_zero], show (x * 2 ^ h + y) % 2 ^ h = y by rw [Nat.mul_comm, Nat.mul_add_mod, Nat.mod_eq_of_lt hy]]
theorem str_bit (b : Bool) : dStr (bD b) = some (chD b) := by cases b <;> kernel_rfl
theorem par_bit (p : Nat) (b : Bool) : (lft (dAdd (nD p) (bD b)) >>= fun x => lft (dInt x) >>= fun x => lft (dMod x (.int 2)) >>= fun x => lft (dStr x) : M D) = pure (chD ((p % 2 == 1) ^^ b)) := by
  have e : dAdd (nD p) (bD b) = some (nD (p + if b = true then 1 else 0)) := by
    rw [bD_nD]
    exact dAdd_nat _ _
  rw [e, lft_some, pure_bind, dInt_int, lft_some, pure_bind, dMod_pos _ (by decide), lft_some, pure_bind, str_par, lft_some]
  congr 2
  have hp : p % 2 = 0 ∨ p % 2 = 1 := by omega
  rcases hp with q | q <;> cases b
  · rw [q, show (p + if false = true then 1 else 0) % 2 = 0 by simp; omega]; rfl
  · rw [q, show (p + if true = true then 1 else 0) % 2 = 1 by simp; omega]; rfl
  · rw [q, show (p + if false = true then 1 else 0) % 2 = 1 by simp; omega]; rfl
  · rw [q, show (p + if true = true then 1 else 0) % 2 = 0 by simp; omega]; rfl
set_option maxHeartbeats 4000000 in
theorem p_law_flat {h : Nat} {c : Cup} (hh : h ≤ 3) (hc : CupOk c) {E : Exc → Cup → Prop} : Wp (m__law_flat (nD h) c) (fun d c' => ∃ os g, IsP (2 ^ h) os ∧ d = .tuple [sgD os, txtD (tabF h g), txtD (tabF (h + h) (mm h os g))] ∧ CupOk c') E := by
  have hn : h ≤ 6 := by omega
  have h8 : 2 ^ h ≤ 8 := Nat.le_trans (Nat.pow_le_pow_right (by decide) hh) (by decide)
  have hlen : dLen (.list (rowsN h)) = some (nD (2 ^ h)) := by rw [dLen_list]; unfold rowsN; rw [List.length_map, List.length_range]
  have hrl : (rowsN h).length = 2 ^ h := by unfold rowsN; rw [List.length_map, List.length_range]
  have hr := dRange1_nat (lim_big (show 2 ^ h ≤ 1000000 by omega))
  unfold m__law_flat b__law_flat runF seqF
  simp only [pure_bind, bind_assoc, p_law_rows hn, un1, bin, truth, hlen, hr, lft_some, seqM_nil, lstM, dItems_list]
  refine rolls_lt (k := 2) rfl (by decide) (by decide) hc fun ws c1 hyl hyb h1 => ?_
  rw [hrl] at hyl
  obtain ⟨g, hg⟩ := bits_list hyb
  rw [hyl] at hg
  rw [hg]
  refine pop_loop (2 ^ h) 100000 (List.range (2 ^ h)) [] c1 List.length_range (by omega) (by rw [List.length_range, List.length_nil]; omega) h1 fun os c' hp h' => ?_
  rw [List.nil_append] at hp
  have hos := perm_isP hp
  simp only [pure_bind, bind_assoc]
  have er : rowsN h = (List.range (2 ^ h)).map (rowN h) := rfl
  have hix : ∀ o < 2 ^ h, dIx (.list (rowsN h)) (nD o) = some (rowN h o) := fun o ho => dIx_list (rowsN_get ho)
  have hown : ∀ y < 2 ^ h, dIx (.list ((List.range (2 ^ h)).map fun i => bD (g i))) (nD y) = some (bD (g y)) := fun y hy => dIx_list (by rw [List.getElem?_map, List.getElem?_range hy]; rfl)
  generalize hR : PyData.list (rowsN h) = R at hix
  rw [er, forF_at (g := fun x => txtD ((List.range (x * 2 ^ h)).map (mm h os g))) (by rw [Nat.zero_mul]; rfl)]
  · have e2 : 2 ^ (h + h) = 2 ^ h * 2 ^ h := Nat.pow_add 2 h h
    rw [mapC_map (g := fun y => chD (g y)) fun y _ => by rw [str_bit, lft_some]]
    have e3 : ((List.range (2 ^ h)).map fun y => chD (g y)) = (tabF h g).map chD := by unfold tabF; rw [List.map_map]; rfl
    simp only [pure_bind, bind_assoc, tupM, seqM_cons, seqM_nil, dTuple_list, lft_some, joinM, e3, dJoin_ch (show (tabF h g).length ≤ 1000000 by rw [tabF_len]; omega)]
    refine ⟨os, g, hos, ?_, h'⟩
    unfold tabF
    rw [e2]
  · intro x hx
    have hx2 : x * 2 ^ h + 2 ^ h ≤ 64 := by
      have := Nat.mul_le_mul (show x + 1 ≤ 8 by omega) h8
      rw [Nat.succ_mul] at this
      omega
    rw [forF_at (g := fun y => txtD ((List.range (x * 2 ^ h + y)).map (mm h os g))) (by rfl)]
    · simp only [pure_bind, Nat.succ_mul]
    · intro y hy
      have ho := hos.get hy
      have hyo : y < os.length := by rw [hos.len]; exact hy
      simp only [nats_ix hyo, lft_some, pure_bind, bind_assoc, hix _ ho, dZip_rows]
      rw [filtC_map (p := fun s => bitAt h x s && bitAt h (os.getD y 0) s) (g := fun s => .int 1) fun s _ => by
        simp only [par2, lft_some, pure_bind, whn, andT, dEq_bit1, dTru_bool]
        cases bitAt h x s <;> cases bitAt h (os.getD y 0) s <;> rfl]
      have hpb := fun (k : D → M (Fl D D)) => congrArg (fun m : M D => m >>= k) (par_bit (par h x (os.getD y 0)) (g y))
      simp only [bind_assoc, pure_bind] at hpb
      simp only [pure_bind, sum_both, lft_some, hown y hy, hpb, dAdd_ch _ (show ((List.range (x * 2 ^ h + y)).map (mm h os g)).length ≤ 1000000 by rw [List.length_map, List.length_range]; omega)]
      rw [← Nat.add_assoc, List.range_succ, List.map_append, List.map_singleton, mm_at hy]
theorem enum_map {α : Type} (g : α → D) : ∀ (xs : List α) (k : Nat), enumFrom k (xs.map g) = (xs.zipIdx k).map fun p => .tuple [nD p.2, g p.1]
  | [], _ => rfl
  | x :: xs, k => by
    show PyData.tuple [.int (k : Int), g x] :: enumFrom (k + 1) (xs.map g) = _
    rw [enum_map g xs (k + 1)]
    rfl
theorem zipIdx_range' (m k : Nat) (j : Nat) : (List.range' j m).zipIdx (k + j) = (List.range' j m).map fun i => (i, k + i) := by
  induction m generalizing j with
  | zero => rfl
  | succ m ih =>
    rw [List.range'_succ, List.zipIdx_cons, List.map_cons]
    congr 1
    exact ih (j + 1)
theorem enum_range (g : Nat → D) (m : Nat) : enum ((List.range m).map g) = (List.range m).map fun i => .tuple [nD i, g i] := by
  unfold enum
  rw [enum_map, List.range_eq_range']
  have := zipIdx_range' m 0 0
  rw [this, List.map_map]
  refine List.map_congr_left fun i _ => ?_
  simp
section
variable {n : Nat} {l : List Bool} (hn : n ≤ 6) (hl : l.length = 2 ^ n)
include hn hl
theorem chars_at : l.map chD = (List.range (2 ^ n)).map fun i => chD (l.getD i false) := by
  conv => lhs; rw [← tabF_self hl]
  unfold tabF
  rw [List.map_map]
  rfl
end
section
variable {n : Nat} {l : List Bool} (hn : n ≤ 6) (hl : l.length = 2 ^ n)
include hn hl
theorem enum_txt : dEnum (txtD l) = some ((List.range (2 ^ n)).map fun i => .tuple [nD i, chD (l.getD i false)]) := by
  have h64 := pow_le hn
  unfold dEnum
  rw [dItems_txt (lim_big (by omega)), chars_at hn hl, Option.map_some, enum_range]
end
theorem common_8 : ((List.range 8).map fun x => (List.range 8).map fun o => m_in_common (nD x) (nD o)) = (List.range 8).map fun x => (List.range 8).map fun o => pure (nD (par 3 x o % 2)) := by kernel_rfl
theorem par_3 : ∀ h < 4, ∀ x < 2 ^ h, ∀ o < 2 ^ h, par h x o = par 3 x o := by decide +kernel
theorem p_in_common {h x o : Nat} (hh : h ≤ 3) (hx : x < 2 ^ h) (ho : o < 2 ^ h) : m_in_common (nD x) (nD o) = pure (nD (par h x o % 2)) := by
  have h8 : 2 ^ h ≤ 8 := Nat.le_trans (Nat.pow_le_pow_right (by decide) hh) (by decide)
  have e1 := List.map_inj_left.mp common_8 x (List.mem_range.mpr (by omega))
  have e2 := List.map_inj_left.mp e1 o (List.mem_range.mpr (by omega))
  rw [e2, par_3 h (by omega) x hx o ho]
theorem xor_bit (p : Nat) (b : Bool) : (lft (dBxor (nD (p % 2)) (bD b)) >>= fun x => lft (dStr x) : M D) = pure (chD ((p % 2 == 1) ^^ b)) := by
  have hp : p % 2 = 0 ∨ p % 2 = 1 := by omega
  rcases hp with q | q <;> rw [q] <;> cases b <;> kernel_rfl
theorem ddI_order {n : Nat} {os : List Nat} (h : IsP n os) (h2 : n ≤ 4000) : dLenSet (sgD os) = some (nD n) := by
  have e : intsOf (os.map nD) = some (os.map fun (s : Nat) => (s : Int)) := intsOf_map (fun s : Nat => (s : Int)) os
  have e0 : dLenSet (sgD os) = (match intsOf (os.map nD) with
    | some ns => if ns.length ≤ 4000 then some (PyData.int ((ddI ns).length : Nat)) else none
    | none => none) := rfl
  rw [e0, e]
  simp only
  rw [if_pos (by rw [List.length_map, h.len]; exact h2)]
  have nd : (os.map fun (s : Nat) => (s : Int)).Nodup := List.pairwise_map.mpr (List.Pairwise.imp (fun {a b} hne e => hne (by omega)) h.nodup)
  rw [card_eq (ddI_nodup _) nd fun k => ddI_mem _ k, List.length_map, h.len]
theorem two_lens : ∀ h < 4, dNotIn (nD (2 ^ h)) (.tuple [.int 1, .int 2, .int 4, .int 8]) = some (.bool false)
  | 0, _ => rfl
  | 1, _ => rfl
  | 2, _ => rfl
  | 3, _ => rfl
set_option maxHeartbeats 2000000 in
theorem p_by_order {h : Nat} {os : List Nat} {g : Nat → Bool} (hh : h ≤ 3) (hos : IsP (2 ^ h) os) : m_flat_by_order (sgD os) (txtD (tabF h g)) = pure (txtD (tabF (h + h) (mm h os g))) := by
  have hn : h ≤ 6 := by omega
  have h8 : 2 ^ h ≤ 8 := Nat.le_trans (Nat.pow_le_pow_right (by decide) hh) (by decide)
  have hp : 0 < 2 ^ h := Nat.two_pow_pos h
  have hl := tabF_len h g
  have hlen : dLen (sgD os) = some (nD (2 ^ h)) := by rw [dLen_tup, List.length_map, hos.len]
  have hr := dRange1_nat (lim_big (show 2 ^ h ≤ 1000000 by omega))
  have efit : m_fits_order (sgD os) = pure (.bool true) := by
    unfold m_fits_order b_fits_order
    simp only [pure_bind, bind_assoc, p_is_tuple_of, List.length_map, hos.len, decide_eq_true (show (1 : Int) ≤ ((2 ^ h : Nat) : Int) by omega), decide_eq_true (show ((2 ^ h : Nat) : Int) ≤ 8 by omega), Bool.and_self, notT, orT, truth, bin, un1, tupM, seqM_cons, seqM_nil, hlen, two_lens h (by omega), lft_some, dTru_bool, Bool.not_true, Bool.false_eq_true, if_false, lstM, dItems_tup, dSub_int, andV]
    rw [mapC_map (g := fun _ => .bool true) fun s hs => by
      have := hos.lt hs
      simp only [lft_some, pure_bind, p_is_whole, decide_eq_true (show (0 : Int) ≤ (s : Int) by omega), decide_eq_true (show (s : Int) ≤ ((2 ^ h : Nat) : Int) - 1 by omega), Bool.and_self]]
    have e4 := dAll_map (fun _ : Nat => true) os
    have e5 : (os.all fun _ => true) = true := List.all_eq_true.mpr fun _ _ => rfl
    rw [e5] at e4
    simp only [pure_bind, e4, lft_some, dTru_bool, if_true, ddI_order hos (show 2 ^ h ≤ 4000 by omega), dEq_int, decide_true, runF_rt]
  have eby : m_by_order (sgD os) (txtD (tabF h g)) = pure (txtD (tabF (h + h) (mm h os g))) := by
    have e2 : 2 ^ (h + h) = 2 ^ h * 2 ^ h := Nat.pow_add 2 h h
    have e64 : 2 ^ h * 2 ^ h ≤ 64 := Nat.mul_le_mul h8 h8
    unfold m_by_order b_by_order
    simp only [pure_bind, bind_assoc, un1, bin, seqM_nil, p_len hn hl, hr, lft_some, enum_txt hn hl]
    rw [forF_at (g := fun x => (List.range (x * 2 ^ h)).map fun i => chD (mm h os g i)) (by rw [Nat.zero_mul]; rfl)]
    · have e3 : ((List.range (2 ^ h * 2 ^ h)).map fun i => chD (mm h os g i)) = (tabF (h + h) (mm h os g)).map chD := by unfold tabF; rw [List.map_map, e2]; rfl
      simp only [seqF_nx, pure_bind, bind_assoc, joinM, e3, dJoin_ch (show (tabF (h + h) (mm h os g)).length ≤ 1000000 by rw [tabF_len]; omega), lft_some, runF_rt]
    · intro x hx
      have hx2 : x * 2 ^ h + 2 ^ h ≤ 64 := by
        have := Nat.mul_le_mul (show x + 1 ≤ 8 by omega) h8
        rw [Nat.succ_mul] at this
        omega
      rw [forF_at (g := fun y => (List.range (x * 2 ^ h + y)).map fun i => chD (mm h os g i)) (by rfl)]
      · simp only [seqF_nx, Nat.succ_mul]
      · intro y hy
        have ho := hos.get hy
        have hyo : dIx (sgD os) (nD y) = some (nD (os.getD y 0)) := dIx_tup (by rw [List.getElem?_map, getD_mem (by rw [hos.len]; exact hy)]; rfl)
        have l1 : ((List.range (x * 2 ^ h + y)).map fun i => chD (mm h os g i)).length ≤ 1000000 := by rw [List.length_map, List.length_range]; omega
        have hxb := fun (k : D → M (Fl (List D) (List D))) => congrArg (fun m : M D => m >>= k) (xor_bit (par h x (os.getD y 0)) (g y))
        simp only [bind_assoc, pure_bind] at hxb
        simp only [par2, lft_some, pure_bind, bind_assoc, hyo, p_in_common hh hx ho, tabF_get hy, dInt_ch, hxb, fitL_ok l1]
        rw [← Nat.add_assoc, List.range_succ, List.map_append, List.map_singleton, mm_at hy]
  unfold m_flat_by_order b_flat_by_order
  simp only [pure_bind, bind_assoc, efit, notT, truth, lft_some, dTru_bool, Bool.not_true, Bool.false_eq_true, if_false, p_need_function hn hl, un1, bin, p_len hn hl, hlen, dNe_int, decide_true, eby, runF_rt]
end K14

set_option maxRecDepth 100000
namespace K14
open PySem Mir
theorem mm_wave {h : Nat} (hh : h ≤ 3) {os : List Nat} (hp : IsP (2 ^ h) os) (g : Nat → Bool) {j : Nat} (hj : j < 2 ^ (h + h)) : W (h + h) (av (mm h os g)) j = (chi h (posOf os (j / 2 ^ h)) j * av g (posOf os (j / 2 ^ h))) * 2 ^ h := by
  have hpos : 0 < 2 ^ h := Nat.two_pow_pos h
  have h2 : 2 ^ (h + h) = 2 ^ h * 2 ^ h := Nat.pow_add 2 h h
  have hA : j / 2 ^ h < 2 ^ h := Nat.div_lt_of_lt_mul (by rw [← h2]; exact hj)
  have e1 : W (h + h) (av (mm h os g)) j = S (2 ^ h) fun y => (chi h y j * av g y) * S (2 ^ h) fun x => chi h x (j / 2 ^ h ^^^ os.getD y 0) := by
    unfold W
    rw [h2, S_prod, S_comm]
    refine S_congr fun y hy => ?_
    rw [← S_mul]
    refine S_congr fun x hx => ?_
    have d1 : (x * 2 ^ h + y) / 2 ^ h = x := by rw [Nat.mul_comm, Nat.mul_add_div hpos, Nat.div_eq_of_lt hy, Nat.add_zero]
    have e2 : av (mm h os g) (x * 2 ^ h + y) = chi h x (os.getD y 0) * av g y := by
      rw [chi_par (by omega) hx (hp.get hy)]
      unfold av
      rw [mm_at hy]
      cases (par h x (os.getD y 0) % 2 == 1) <;> cases g y <;> rfl
    rw [chi_split, d1, chi_low hy, e2, chi_comm x (j / 2 ^ h ^^^ os.getD y 0), chi_xor, chi_comm (j / 2 ^ h), chi_comm (os.getD y 0)]
    generalize chi h x (j / 2 ^ h) = p
    generalize chi h y j = q
    generalize chi h x (os.getD y 0) = r
    generalize av g y = s
    rw [Int.mul_assoc p, Int.mul_left_comm q, ← Int.mul_assoc p, Int.mul_comm (q * s)]
  have hm : j / 2 ^ h ∈ os := hp.all _ hA
  obtain ⟨p1, p2⟩ := pos_get hm
  rw [hp.len] at p2
  have e3 : W (h + h) (av (mm h os g)) j = S (2 ^ h) fun y => if y = posOf os (j / 2 ^ h) then (chi h y j * av g y) * 2 ^ h else 0 := by
    rw [e1]
    refine S_congr fun y hy => ?_
    rw [chi_sum h (by omega) _ (xor_lt' hA (hp.get hy))]
    by_cases e : y = posOf os (j / 2 ^ h)
    · have : os.getD y 0 = j / 2 ^ h := by
        rw [e, List.getD_eq_getElem?_getD, p1]
        rfl
      rw [if_pos e, this, Nat.xor_self, if_pos rfl]
    · have : j / 2 ^ h ^^^ os.getD y 0 ≠ 0 := fun z => e (by
        have z2 := congrArg (· ^^^ os.getD y 0) z
        simp only [xor_back, Nat.zero_xor] at z2
        have e2 : os[y]? = some (os.getD y 0) := getD_mem (by rw [hp.len]; exact hy)
        rw [← z2] at e2
        exact nodup_ix' hp.nodup e2 p1)
      rw [if_neg e, if_neg this, Int.mul_zero]
  rw [e3, S_delta, if_pos p2]
theorem rt_twice (h : Nat) : rt (h + h) = 2 ^ h := by
  unfold rt
  rw [show (h + h) / 2 = h by omega, pw]
theorem flat_mm {h : Nat} (hh : h ≤ 3) {os : List Nat} (hp : IsP (2 ^ h) os) (g : Nat → Bool) : flat (h + h) (av (mm h os g)) := ⟨by omega, fun j hj => by
  rw [mm_wave hh hp g hj, rt_twice]
  rcases chi_abs h (posOf os (j / 2 ^ h)) j with c1 | c1 <;> rcases av_one g (posOf os (j / 2 ^ h)) with c2 | c2 <;> rw [c1, c2]
  · exact .inl (by omega)
  · exact .inr (by omega)
  · exact .inr (by omega)
  · exact .inl (by omega)⟩
/-! ### back by the columns -/
def col (h : Nat) (l : List Bool) (y x : Nat) : Bool := l.getD (x * 2 ^ h + y) false
def sumB (h : Nat) (l : List Bool) (y m : Nat) : Bool := (List.range (2 ^ h)).all fun x => (col h l y x ^^ (par h x m % 2 == 1)) == col h l y 0
def able (h : Nat) (l : List Bool) (y : Nat) : List Nat := (List.range (2 ^ h)).filter (sumB h l y)
theorem only_one : ∀ h < 4, ∀ a < 2 ^ h, ∀ b < 2 ^ h, ((List.range (2 ^ h)).all fun x => (par h x a % 2 == 1) == (par h x b % 2 == 1)) = true → a = b := by decide +kernel
theorem able_one {h : Nat} (hh : h ≤ 3) (l : List Bool) (y : Nat) : able h l y = [] ∨ ∃ m, m < 2 ^ h ∧ able h l y = [m] := by
  have hm : ∀ a b, a ∈ able h l y → b ∈ able h l y → a = b := fun a b ha hb => by
    obtain ⟨a1, a2⟩ := List.mem_filter.mp ha
    obtain ⟨b1, b2⟩ := List.mem_filter.mp hb
    refine only_one h (by omega) a (List.mem_range.mp a1) b (List.mem_range.mp b1) (List.all_eq_true.mpr fun x hx => ?_)
    have q1 := List.all_eq_true.mp a2 x hx
    have q2 := List.all_eq_true.mp b2 x hx
    revert q1 q2
    cases col h l y x <;> cases col h l y 0 <;> cases (par h x a % 2 == 1) <;> cases (par h x b % 2 == 1) <;> simp
  have nd : (able h l y).Nodup := List.nodup_range.sublist List.filter_sublist
  cases ha : able h l y with
  | nil => exact .inl rfl
  | cons m r =>
    rw [ha] at nd hm
    cases r with
    | nil =>
      have : m ∈ able h l y := by rw [ha]; exact List.mem_cons_self
      exact .inr ⟨m, List.mem_range.mp (List.mem_filter.mp this).1, rfl⟩
    | cons k r =>
      have := hm m k List.mem_cons_self (List.mem_cons_of_mem _ List.mem_cons_self)
      exact absurd (List.mem_cons.mpr (.inl this)) (List.nodup_cons.mp nd).1
theorem able_mm {h : Nat} (hh : h ≤ 3) {os : List Nat} (hp : IsP (2 ^ h) os) (g : Nat → Bool) {y : Nat} (hy : y < 2 ^ h) : able h (tabF (h + h) (mm h os g)) y = [os.getD y 0] ∧ col h (tabF (h + h) (mm h os g)) y 0 = g y := by
  have hpos : 0 < 2 ^ h := Nat.two_pow_pos h
  have h2 : 2 ^ (h + h) = 2 ^ h * 2 ^ h := Nat.pow_add 2 h h
  have hc : ∀ x < 2 ^ h, col h (tabF (h + h) (mm h os g)) y x = ((par h x (os.getD y 0) % 2 == 1) ^^ g y) := fun x hx => by
    unfold col
    rw [tabF_get (by
      have := Nat.mul_le_mul_right (2 ^ h) (show x + 1 ≤ 2 ^ h by omega)
      rw [Nat.succ_mul] at this
      omega), mm_at hy]
  have p0 : par h 0 (os.getD y 0) = 0 := by
    unfold par
    rw [List.countP_eq_zero]
    intro s _
    unfold bitAt
    rw [Nat.zero_testBit]
    simp
  have c0 : col h (tabF (h + h) (mm h os g)) y 0 = g y := by
    rw [hc 0 hpos, p0]
    cases g y <;> rfl
  refine ⟨?_, c0⟩
  have hin : os.getD y 0 ∈ able h (tabF (h + h) (mm h os g)) y := List.mem_filter.mpr ⟨List.mem_range.mpr (hp.get hy), List.all_eq_true.mpr fun x hx => by
    rw [hc x (List.mem_range.mp hx), c0]
    cases (par h x (os.getD y 0) % 2 == 1) <;> cases g y <;> rfl⟩
  rcases able_one hh (tabF (h + h) (mm h os g)) y with e | ⟨m, _, e⟩
  · rw [e] at hin; cases hin
  · rw [e] at hin ⊢
    rw [List.mem_singleton.mp hin]
/-! ### loops that stop -/
theorem forF_stop' {τ γ : Type} {f : D → τ → M (Fl τ τ)} {h : Nat → D} {g : Nat → τ} {d : D} : ∀ (k a b : Nat), k < b → (∀ i, a ≤ i → i < a + k → f (h i) (g i) = pure (.nx (g (i + 1)))) → f (h (a + k)) (g (a + k)) = pure (.rt d) → forF (γ := γ) f ((List.range' a b).map h) (g a) = pure (.rt d)
  | 0, a, b + 1, _, _, e => by
    rw [List.range'_succ, List.map_cons, forF]
    rw [Nat.add_zero] at e
    rw [e]
    rfl
  | k + 1, a, b + 1, hk, q, e => by
    rw [List.range'_succ, List.map_cons, forF, q a (Nat.le_refl _) (by omega)]
    have := forF_stop' (γ := γ) (f := f) (h := h) (g := g) (d := d) k (a + 1) b (by omega) (fun i h1 h2 => q i (by omega) (by omega)) (by rw [show a + 1 + k = a + (k + 1) by omega]; exact e)
    rw [← this]
    rfl
theorem forF_stop {τ γ : Type} {f : D → τ → M (Fl τ τ)} {h : Nat → D} {t0 : τ} {g : Nat → τ} {d : D} {m : Nat} (k : Nat) (hk : k < m) (h0 : t0 = g 0) (q : ∀ i < k, f (h i) (g i) = pure (.nx (g (i + 1)))) (e : f (h k) (g k) = pure (.rt d)) : forF (γ := γ) f ((List.range m).map h) t0 = pure (.rt d) := by
  rw [h0, List.range_eq_range']
  exact forF_stop' k 0 m hk (fun i _ hi => q i (by omega)) (by rw [Nat.zero_add]; exact e)
theorem first_one (p : Nat → Prop) [DecidablePred p] : ∀ m, (∃ k, k < m ∧ p k) → ∃ k, k < m ∧ p k ∧ ∀ i < k, ¬ p i
  | 0, h => by obtain ⟨k, hk, _⟩ := h; omega
  | m + 1, h => by
    by_cases hm : ∃ k, k < m ∧ p k
    · obtain ⟨k, h1, h2, h3⟩ := first_one p m hm
      exact ⟨k, by omega, h2, h3⟩
    · obtain ⟨k, h1, h2⟩ := h
      have : k = m := Classical.byContradiction fun z => hm ⟨k, by omega, h2⟩
      subst this
      exact ⟨k, by omega, h2, fun i hi hp => hm ⟨i, hi, hp⟩⟩
/-! ### the order found, or none -/
def hd (h : Nat) (l : List Bool) (y : Nat) : Nat := (able h l y).getD 0 0
def heads (h : Nat) (l : List Bool) (k : Nat) : List Nat := (List.range k).map (hd h l)
def bad0 (h : Nat) (l : List Bool) (y : Nat) : Bool := (able h l y).isEmpty
def bad1 (h : Nat) (l : List Bool) (y : Nat) : Bool := bad0 h l y || (heads h l y).contains (hd h l y)
def okO (h : Nat) (l : List Bool) : Bool := (List.range (2 ^ h)).all fun y => !(bad1 h l y)
def resO (h : Nat) (l : List Bool) : D := if okO h l = true then .tuple [sgD (heads h l (2 ^ h)), txtD ((List.range (2 ^ h)).map fun y => col h l y 0)] else .none
theorem heads_succ (h : Nat) (l : List Bool) (k : Nat) : heads h l (k + 1) = heads h l k ++ [hd h l k] := by
  unfold heads
  rw [List.range_succ, List.map_append]
  rfl
theorem heads_nodup {h : Nat} {l : List Bool} : ∀ {k : Nat}, (heads h l k).Nodup ↔ ∀ y < k, (heads h l y).contains (hd h l y) = false
  | 0 => ⟨fun _ y hy => absurd hy (Nat.not_lt_zero y), fun _ => List.nodup_nil⟩
  | k + 1 => by
    rw [heads_succ, List.nodup_append, heads_nodup (k := k)]
    constructor
    · intro ⟨a, _, b⟩ y hy
      by_cases e : y = k
      · rw [e]
        cases hc : (heads h l k).contains (hd h l k)
        · rfl
        · exact absurd rfl (b _ (List.contains_iff_mem.mp hc) _ (List.mem_singleton.mpr rfl))
      · exact a y (by omega)
    · intro q
      refine ⟨fun y hy => q y (by omega), by simp, fun a ha b hb => ?_⟩
      rw [List.mem_singleton.mp hb]
      intro e
      have := q k (by omega)
      rw [← e, List.contains_iff_mem.mpr ha] at this
      cases this
theorem resO_mm {h : Nat} (hh : h ≤ 3) {os : List Nat} (hp : IsP (2 ^ h) os) (g : Nat → Bool) : resO h (tabF (h + h) (mm h os g)) = .tuple [sgD os, txtD (tabF h g)] := by
  have e1 : ∀ y < 2 ^ h, hd h (tabF (h + h) (mm h os g)) y = os.getD y 0 := fun y hy => by
    unfold hd
    rw [(able_mm hh hp g hy).1]
    rfl
  have e2 : heads h (tabF (h + h) (mm h os g)) (2 ^ h) = os := by
    unfold heads
    refine List.ext_getElem? fun t => ?_
    rw [List.getElem?_map]
    by_cases ht : t < 2 ^ h
    · rw [List.getElem?_range ht, Option.map_some, e1 t ht]
      exact (getD_mem (by rw [hp.len]; exact ht)).symm
    · rw [List.getElem?_eq_none (by simp; omega), List.getElem?_eq_none (by rw [hp.len]; omega)]
      rfl
  have e3 : okO h (tabF (h + h) (mm h os g)) = true := List.all_eq_true.mpr fun y hy => by
    have hy := List.mem_range.mp hy
    unfold bad1 bad0
    rw [(able_mm hh hp g hy).1]
    have nd := hp.nodup
    rw [← e2, heads_nodup] at nd
    rw [nd y hy]
    rfl
  have e4 : ((List.range (2 ^ h)).map fun y => col h (tabF (h + h) (mm h os g)) y 0) = tabF h g := List.map_congr_left fun y hy => (able_mm hh hp g (List.mem_range.mp hy)).2
  unfold resO
  rw [if_pos e3, e2, e4]
end K14

set_option maxRecDepth 100000
namespace K14
open PySem Mir
section
variable {h : Nat} {l : List Bool} (hh : h ≤ 3) (hl : l.length = 2 ^ (h + h))
include hh hl
theorem ix_col {x y : Nat} (hx : x < 2 ^ h) (hy : y < 2 ^ h) : dIx (txtD l) (.int (((x : Nat) : Int) * ((2 ^ h : Nat) : Int) + ((y : Nat) : Int))) = some (chD (col h l y x)) := by
  have h2 : 2 ^ (h + h) = 2 ^ h * 2 ^ h := Nat.pow_add 2 h h
  have e : ((x : Nat) : Int) * ((2 ^ h : Nat) : Int) + ((y : Nat) : Int) = ((x * 2 ^ h + y : Nat) : Int) := by
    rw [Int.natCast_add, Int.natCast_mul]
  rw [e]
  exact p_at (by omega) hl (by
    have := Nat.mul_le_mul_right (2 ^ h) (show x + 1 ≤ 2 ^ h by omega)
    rw [Nat.succ_mul] at this
    omega)
omit hl in
theorem p_is_sum_by (y : Nat) {m : Nat} (hm : m < 2 ^ h) : m_is_sum_by (.list ((List.range (2 ^ h)).map fun x => chD (col h l y x))) (nD m) = pure (.bool (sumB h l y m)) := by
  have hp : 0 < 2 ^ h := Nat.two_pow_pos h
  have e0 : dIx (.list ((List.range (2 ^ h)).map fun x => chD (col h l y x))) (.int 0) = some (chD (col h l y 0)) := dIx_list (i := 0) (by rw [List.getElem?_map, List.getElem?_range hp]; rfl)
  have en : dEnum (.list ((List.range (2 ^ h)).map fun x => chD (col h l y x))) = some ((List.range (2 ^ h)).map fun x => .tuple [nD x, chD (col h l y x)]) := by
    show some (enum _) = _
    rw [enum_range]
  unfold m_is_sum_by b_is_sum_by sumB
  simp only [pure_bind, bind_assoc, un1, bin, en, lft_some, lstM]
  rw [mapC_map (g := fun x => .bool ((col h l y x ^^ (par h x m % 2 == 1)) == col h l y 0)) fun x hx => by
    simp only [par2, lft_some, pure_bind, dInt_ch, p_in_common hh (List.mem_range.mp hx) hm, e0]
    have q : par h x m % 2 = 0 ∨ par h x m % 2 = 1 := by omega
    rcases q with q | q <;> rw [q] <;> cases col h l y x <;> cases col h l y 0 <;> rfl]
  simp only [pure_bind, dAll_map, lft_some, runF_rt]
omit hh hl in
theorem dIn_natL (x : Nat) (xs : List Nat) : dIn (nD x) (.list (xs.map nD)) = some (.bool (xs.contains x)) := by
  have h60 : min (PyData.depthAll (xs.map nD)) (PyData.depth (nD x)) ≤ 60 := Nat.le_trans (Nat.min_le_right _ _) (show 0 ≤ 60 by decide)
  show (if min (PyData.depthAll (xs.map nD)) (PyData.depth (nD x)) ≤ 60 then some ((xs.map nD).any fun y => PyData.eqv y (nD x)) else none).map _ = _
  rw [if_pos h60, any_nats]
  rfl
omit hh hl in
theorem heads_len (k : Nat) : (heads h l k).length = k := by unfold heads; rw [List.length_map, List.length_range]
def stO (h : Nat) (l : List Bool) (k : Nat) : List D × D := ((heads h l k).map nD, txtD ((List.range k).map fun y => col h l y 0))
theorem p_order_in : m_order_in (txtD l) = pure (resO h l) := by
  have hn : h + h ≤ 6 := by omega
  have h8 : 2 ^ h ≤ 8 := Nat.le_trans (Nat.pow_le_pow_right (by decide) hh) (by decide)
  have hp : 0 < 2 ^ h := Nat.two_pow_pos h
  have hr := dRange1_nat (lim_big (show 2 ^ h ≤ 1000000 by omega))
  have ev : dMod (nD (h + h)) (.int 2) = some (.int 0) := by
    rw [dMod_pos _ (by decide), fmod2, show (h + h) % 2 = 0 by omega]
    rfl
  have er : rtD (h + h) = nD (2 ^ h) := by
    unfold rtD
    rw [if_pos (by omega), show (h + h) / 2 = h by omega]
  have hcol : ∀ y < 2 ^ h, mapC (fun d => lft (dMul d (nD (2 ^ h))) >>= fun x => lft (dAdd x (nD y)) >>= fun x => lft (dIx (txtD l) x)) ((List.range (2 ^ h)).map nD) = pure ((List.range (2 ^ h)).map fun x => chD (col h l y x)) := fun y hy => mapC_map fun x hx => by
    rw [dMul_small _ (by omega) (by omega), lft_some, pure_bind, dAdd_int, lft_some, pure_bind, ix_col hh hl (List.mem_range.mp hx) hy, lft_some]
  have hab : ∀ y < 2 ^ h, filtC (fun d => whn (m_is_sum_by (.list ((List.range (2 ^ h)).map fun x => chD (col h l y x))) d >>= fun d => lft (dTru d)) (pure d)) ((List.range (2 ^ h)).map nD) = pure ((able h l y).map nD) := fun y hy => filtC_map fun m hm => by
    rw [p_is_sum_by hh y (List.mem_range.mp hm), pure_bind, dTru_bool, lft_some]
    show (pure (sumB h l y m) >>= fun b => if b = true then (pure (nD m) >>= fun y => pure (some y)) else pure none : M (Option D)) = _
    rw [pure_bind, pure_bind, ite_pure]
  unfold m_order_in b_order_in
  simp only [pure_bind, bind_assoc, un1, bin, truth, p_count_in hn hl, ev, lft_some, dEq_int, show decide ((0 : Int) = 1) = false from rfl, dTru_bool, Bool.false_eq_true, if_false, p_len hn hl, p_root_of hn, er, hr, seqM_nil, lstM]
  have step : ∀ y < 2 ^ h, ∀ (f : D → List D × D → M (Fl (List D × D) (List D × D))), (∀ d t, f d t = (mapC (fun d' => lft (dMul d' (nD (2 ^ h))) >>= fun x => lft (dAdd x d) >>= fun x => lft (dIx (txtD l) x)) ((List.range (2 ^ h)).map nD) >>= fun x => filtC (fun d => whn (m_is_sum_by (.list x) d >>= fun d => lft (dTru d)) (pure d)) ((List.range (2 ^ h)).map nD) >>= fun x_1 => nex (orT (lft (dEq (.list x_1) (.list [])) >>= fun d => lft (dTru d)) (lft (dIx (.list x_1) (.int 0)) >>= fun x => lft (dIn x (.list t.1)) >>= fun d => lft (dTru d))) >>= fun b => if b = true then pure (.rt .none) else (lft (dIx (.list x_1) (.int 0)) >>= fun v => lft (fitL t.1) >>= fun ys => lft (dIx (.list x) (.int 0)) >>= fun x => lft (dAdd t.2 x) >>= fun a => pure (.nx (ys ++ [v], a))))) →
      f (nD y) (stO h l y) = if bad1 h l y = true then pure (.rt .none) else pure (.nx (stO h l (y + 1))) := fun y hy f hf => by
    have e0 : dIx (.list ((List.range (2 ^ h)).map fun x => chD (col h l y x))) (.int 0) = some (chD (col h l y 0)) := dIx_list (i := 0) (by rw [List.getElem?_map, List.getElem?_range hp]; rfl)
    rw [hf, hcol y hy, pure_bind, hab y hy, pure_bind, dEq_lnil]
    rcases able_one hh l y with e | ⟨m, hm, e⟩
    · have hb : bad1 h l y = true := by unfold bad1 bad0; rw [e]; rfl
      rw [hb, e]
      rfl
    · have hdm : hd h l y = m := by unfold hd; rw [e]; rfl
      have i0 : dIx (.list [nD m]) (.int 0) = some (nD m) := rfl
      have hb : bad1 h l y = (heads h l y).contains m := by unfold bad1 bad0; rw [e, hdm]; rfl
      rw [hb, e]
      simp only [List.map_cons, List.map_nil, List.isEmpty_cons, orT, lft_some, pure_bind, dTru_bool, Bool.false_eq_true, if_false, i0, stO, dIn_natL, nex_pure]
      cases (heads h l y).contains m with
      | true => rfl
      | false =>
        have l1 : ((heads h l y).map nD).length ≤ 1000000 := by rw [List.length_map, heads_len]; omega
        have l2 : ((List.range y).map fun y => col h l y 0).length ≤ 1000000 := by rw [List.length_map, List.length_range]; omega
        simp only [Bool.false_eq_true, if_false, fitL_ok l1, lft_some, pure_bind, e0, dAdd_ch _ l2]
        rw [heads_succ, hdm, List.map_append, List.range_succ, List.map_append]
        rfl
  unfold resO
  cases hok : okO h l with
  | true =>
    have hgood : ∀ y < 2 ^ h, bad1 h l y = false := fun y hy => by
      have := List.all_eq_true.mp hok y (List.mem_range.mpr hy)
      simpa using this
    rw [forF_at (g := stO h l) (by rfl) fun y hy => by rw [step y hy _ fun d t => rfl, hgood y hy]; rfl]
    simp only [seqF_nx, tupM, seqM_cons, seqM_nil, stO, dTuple_list, lft_some, pure_bind, runF_rt, if_true]
  | false =>
    have hbad : ∃ y, y < 2 ^ h ∧ bad1 h l y = true := by
      refine Classical.byContradiction fun z => ?_
      have : okO h l = true := List.all_eq_true.mpr fun y hy => by
        cases hb : bad1 h l y
        · rfl
        · exact absurd ⟨y, List.mem_range.mp hy, hb⟩ z
      rw [this] at hok
      cases hok
    obtain ⟨k, hk, hb, hlow⟩ := first_one (fun y => bad1 h l y = true) _ hbad
    rw [forF_stop (g := stO h l) (d := .none) k hk (by rfl) (fun y hy => by
      have : bad1 h l y = false := by
        cases hb : bad1 h l y
        · rfl
        · exact absurd hb (hlow y hy)
      rw [step y (by omega) _ fun d t => rfl, this]; rfl) (by rw [step k hk _ fun d t => rfl, hb]; rfl)]
    simp only [seqF_rt, runF_rt, Bool.false_eq_true, if_false]
theorem p_order_of : m_order_of_flat (txtD l) = pure (resO h l) := by
  unfold m_order_of_flat b_order_of_flat
  simp only [pure_bind, bind_assoc, p_need_function (show h + h ≤ 6 by omega) hl, p_order_in hh hl, runF_rt]
end
end K14

set_option maxRecDepth 100000
namespace K14
open PySem Mir
/-! ### the law's own order -/
theorem dup_short : ∀ ns : List Int, ¬ ns.Nodup → ∃ b : List Int, (∀ k ∈ ns, k ∈ b) ∧ b.length < ns.length
  | [], h => absurd List.nodup_nil h
  | a :: r, h => by
    by_cases ha : a ∈ r
    · exact ⟨r, fun k hk => by
        rcases List.mem_cons.mp hk with e | e
        · rw [e]; exact ha
        · exact e, Nat.lt_succ_self _⟩
    · have hr : ¬ r.Nodup := fun z => h (List.nodup_cons.mpr ⟨ha, z⟩)
      obtain ⟨b, h1, h2⟩ := dup_short r hr
      exact ⟨a :: b, fun k hk => by
        rcases List.mem_cons.mp hk with e | e
        · rw [e]; exact List.mem_cons_self
        · exact List.mem_cons_of_mem _ (h1 k e), Nat.succ_lt_succ h2⟩
theorem lenSet_nats {os : List Nat} (h : os.length ≤ 4000) : ∃ k : Nat, dLenSet (.list (os.map nD)) = some (nD k) ∧ (k = os.length ↔ os.Nodup) := by
  have e : intsOf (os.map nD) = some (os.map fun (s : Nat) => (s : Int)) := intsOf_map (fun s : Nat => (s : Int)) os
  have e0 : dLenSet (.list (os.map nD)) = (match intsOf (os.map nD) with
    | some ns => if ns.length ≤ 4000 then some (PyData.int ((ddI ns).length : Nat)) else none
    | none => none) := rfl
  have hl : (os.map fun (s : Nat) => (s : Int)).length = os.length := List.length_map _
  refine ⟨(ddI (os.map fun (s : Nat) => (s : Int))).length, ?_, ?_⟩
  · rw [e0, e]
    simp only
    rw [if_pos (by rw [hl]; exact h)]
  · constructor
    · intro q
      refine Classical.byContradiction fun z => ?_
      have z2 : ¬ (os.map fun (s : Nat) => (s : Int)).Nodup := fun w => z (List.Pairwise.imp (fun {a b} hne e => hne (by rw [e])) (List.pairwise_map.mp w))
      obtain ⟨b, b1, b2⟩ := dup_short _ z2
      have := List.Nodup.length_le_of_subset (ddI_nodup (os.map fun (s : Nat) => (s : Int))) (l₂ := b) fun k hk => b1 k ((ddI_mem _ k).mp hk)
      omega
    · intro nd
      have nd : (os.map fun (s : Nat) => (s : Int)).Nodup := List.pairwise_map.mpr (List.Pairwise.imp (fun {a b} hne e => hne (by omega)) nd)
      rw [card_eq (ddI_nodup _) nd fun k => ddI_mem _ k, hl]
theorem dEq_bits (m : Nat) (f g : Nat → Bool) : dEq (.list ((List.range m).map fun x => bD (f x))) (.list ((List.range m).map fun x => bD (g x))) = some (.bool ((List.range m).all fun x => f x == g x)) := by
  have hd : ∀ xs : List Nat, PyData.depthAll (xs.map fun x => bD (f x)) = 0 := by
    intro xs
    induction xs with
    | nil => rfl
    | cons x r ih => simp only [List.map_cons, PyData.depthAll, ih]; rfl
  have he : ∀ xs : List Nat, PyData.eqvAll (xs.map fun x => bD (f x)) (xs.map fun x => bD (g x)) = xs.all fun x => f x == g x := by
    intro xs
    induction xs with
    | nil => rfl
    | cons x r ih =>
      simp only [List.map_cons, PyData.eqvAll, ih, List.all_cons]
      cases f x <;> cases g x <;> rfl
  show (if min _ _ ≤ 60 then some (PyData.bool (PyData.eqvAll _ _)) else none) = _
  rw [he, if_pos]
  have e1 : PyData.depth (.list ((List.range m).map fun x => bD (f x))) ≤ 1 := by simp only [PyData.depth, hd]; decide
  exact Nat.le_trans (Nat.min_le_left _ _) (Nat.le_trans e1 (by decide))
theorem par_mod (p : Nat) (b : Bool) : (lft (dAdd (nD p) (bD b)) >>= fun x => lft (dInt x) >>= fun x => lft (dMod x (.int 2)) : M D) = pure (bD ((p % 2 == 1) ^^ b)) := by
  have e : dAdd (nD p) (bD b) = some (nD (p + if b = true then 1 else 0)) := by
    rw [bD_nD]
    exact dAdd_nat _ _
  rw [e, lft_some, pure_bind, dInt_int, lft_some, pure_bind, dMod_pos _ (by decide), lft_some, fmod2]
  congr 1
  have hp : p % 2 = 0 ∨ p % 2 = 1 := by omega
  rcases hp with q | q <;> cases b
  · rw [q, show (p + if false = true then 1 else 0) % 2 = 0 by simp; omega]; rfl
  · rw [q, show (p + if true = true then 1 else 0) % 2 = 1 by simp; omega]; rfl
  · rw [q, show (p + if false = true then 1 else 0) % 2 = 1 by simp; omega]; rfl
  · rw [q, show (p + if true = true then 1 else 0) % 2 = 0 by simp; omega]; rfl
theorem enum_rows (h : Nat) : dEnum (.list (rowsN h)) = some ((List.range (2 ^ h)).map fun m => .tuple [nD m, rowN h m]) := by
  show some (enum _) = _
  rw [show rowsN h = (List.range (2 ^ h)).map (rowN h) from rfl, enum_range]
theorem heads_bad {h : Nat} {l : List Bool} (q : ∀ y < 2 ^ h, bad0 h l y = false) : okO h l = true ↔ (heads h l (2 ^ h)).Nodup := by
  rw [heads_nodup]
  unfold okO
  rw [List.all_eq_true]
  constructor
  · intro z y hy
    have := z y (List.mem_range.mpr hy)
    unfold bad1 at this
    rw [q y hy] at this
    simpa using this
  · intro z y hy
    have hy := List.mem_range.mp hy
    unfold bad1
    rw [q y hy, z y hy]
    rfl
theorem cat_ok {xs ys : List D} (h : xs.length + ys.length ≤ 1000000) : dCatL (.list xs) (.list ys) = some (xs ++ ys) := by
  have : xs.length + ys.length ≤ lim := lim_big h
  show (if _ then _ else _) = _
  rw [if_pos this]
theorem forF_res {τ γ : Type} {f : D → τ → M (Fl τ τ)} {h : Nat → D} {t0 : τ} {g : Nat → τ} {d : D} {m : Nat} (bad : Nat → Bool) (h0 : t0 = g 0) (q : ∀ k < m, f (h k) (g k) = if bad k = true then pure (.rt d) else pure (.nx (g (k + 1)))) : forF (γ := γ) f ((List.range m).map h) t0 = if (List.range m).any bad = true then pure (.rt d) else pure (.nx (g m)) := by
  cases hb : (List.range m).any bad with
  | false =>
    have hg : ∀ k < m, bad k = false := fun k hk => by
      cases e : bad k
      · rfl
      · rw [List.any_eq_true.mpr ⟨k, List.mem_range.mpr hk, e⟩] at hb
        cases hb
    rw [if_neg Bool.false_ne_true]
    exact forF_at h0 fun k hk => by rw [q k hk, hg k hk]; rfl
  | true =>
    obtain ⟨k0, h1, h2⟩ := List.any_eq_true.mp hb
    obtain ⟨k, hk, hb, hlow⟩ := first_one (fun y => bad y = true) m ⟨k0, List.mem_range.mp h1, h2⟩
    rw [if_pos rfl]
    exact forF_stop k hk h0 (fun y hy => by
      have : bad y = false := by
        cases e : bad y
        · rfl
        · exact absurd e (hlow y hy)
      rw [q y (by omega), this]; rfl) (by rw [q k hk, hb]; rfl)
def stQ (h : Nat) (l : List Bool) (k : Nat) : D × D := (.list ((heads h l k).map nD), txtD ((List.range k).map fun y => col h l y 0))
section
variable {h : Nat} {l : List Bool} (hh : h ≤ 3) (hl : l.length = 2 ^ (h + h))
include hh hl
set_option maxHeartbeats 4000000 in
theorem p_law_order : m__law_order (txtD l) = pure (resO h l) := by
  have hn : h + h ≤ 6 := by omega
  have h8 : 2 ^ h ≤ 8 := Nat.le_trans (Nat.pow_le_pow_right (by decide) hh) (by decide)
  have hp : 0 < 2 ^ h := Nat.two_pow_pos h
  have hr := dRange1_nat (lim_big (show 2 ^ h ≤ 1000000 by omega))
  have hrl : (rowsN h).length = 2 ^ h := by unfold rowsN; rw [List.length_map, List.length_range]
  have ev : dMod (nD (h + h)) (.int 2) = some (.int 0) := by
    rw [dMod_pos _ (by decide), fmod2, show (h + h) % 2 = 0 by omega]
    rfl
  have ed : dFdiv (nD (h + h)) (.int 2) = some (nD h) := by
    rw [dFdiv_pos _ (by decide) (by decide)]
    have : ((h + h : Nat) : Int).fdiv 2 = (h : Int) := by rw [Int.fdiv_eq_ediv_of_nonneg _ (by decide)]; omega
    rw [this]
  have hcol : ∀ y < 2 ^ h, mapC (fun d => lft (dMul d (nD (2 ^ h))) >>= fun x => lft (dAdd x (nD y)) >>= fun x => lft (dIx (txtD l) x) >>= fun x => lft (dInt x)) ((List.range (2 ^ h)).map nD) = pure ((List.range (2 ^ h)).map fun x => bD (col h l y x)) := fun y hy => mapC_map fun x hx => by
    rw [dMul_small _ (by omega) (by omega), lft_some, pure_bind, dAdd_int, lft_some, pure_bind, ix_col hh hl (List.mem_range.mp hx) hy, lft_some, pure_bind, dInt_ch, lft_some]
  have e0 : ∀ y, dIx (.list ((List.range (2 ^ h)).map fun x => bD (col h l y x))) (.int 0) = some (bD (col h l y 0)) := fun y => dIx_list (i := 0) (by rw [List.getElem?_map, List.getElem?_range hp]; rfl)
  unfold m__law_order b__law_order
  simp only [pure_bind, bind_assoc, un1, bin, truth, p_law_count hn hl, ev, ed, dInt_int, lft_some, dEq_int, show decide ((0 : Int) = 1) = false from rfl, dTru_bool, Bool.false_eq_true, if_false, p_law_rows (show h ≤ 6 by omega), dLen_list, hrl, hr, seqM_nil, lstM]
  rw [forF_res (g := stQ h l) (bad0 h l) (d := .none) (by rfl)]
  · by_cases hb : (List.range (2 ^ h)).any (bad0 h l) = true
    · have hok : okO h l = false := by
        obtain ⟨k, h1, h2⟩ := List.any_eq_true.mp hb
        cases e : okO h l
        · rfl
        · have := List.all_eq_true.mp e k h1
          unfold bad1 at this
          rw [h2] at this
          cases this
      rw [if_pos hb]
      unfold resO
      rw [hok]
      simp only [seqF_rt, runF_rt, Bool.false_eq_true, if_false]
    · rw [if_neg hb]
      have hg : ∀ y < 2 ^ h, bad0 h l y = false := fun y hy => by
        cases e : bad0 h l y
        · rfl
        · exact absurd (List.any_eq_true.mpr ⟨y, List.mem_range.mpr hy, e⟩) hb
      have hok := heads_bad hg
      have hlen := heads_len (h := h) (l := l) (2 ^ h)
      obtain ⟨k, ek, hk⟩ := lenSet_nats (os := heads h l (2 ^ h)) (by rw [hlen]; omega)
      rw [hlen] at hk
      simp only [seqF_nx, stQ, ek, lft_some, pure_bind, bind_assoc, dLen_list, List.length_map, hlen, dEq_nat, dTru_bool, ifM, tupM, seqM_cons, seqM_nil, dTuple_list]
      unfold resO
      cases hO : okO h l with
      | true =>
        rw [hO] at hok
        have e : k = 2 ^ h := hk.mpr (hok.mp rfl)
        subst e
        simp only [beq_self_eq_true, if_true, pure_bind, runF_rt]
      | false =>
        have e : (k == 2 ^ h) = false := by
          cases e : k == 2 ^ h
          · rfl
          · have := hok.mpr (hk.mp (eq_of_beq e))
            rw [hO] at this
            cases this
        simp only [e, Bool.false_eq_true, if_false, pure_bind, runF_rt]
  · intro y hy
    rw [hcol y hy]
    simp only [pure_bind, bind_assoc, enum_rows, lft_some, dItems_list]
    rw [forF_push (p := sumB h l y) (g := nD) (by simp; omega)]
    · simp only [seqF_nx, List.nil_append, dEq_lnil, lft_some, pure_bind, dTru_bool, nex_pure]
      rcases able_one hh l y with e | ⟨m, hm, e⟩
      · have e' := e
        unfold able at e'
        have hb : bad0 h l y = true := by unfold bad0; rw [e]; rfl
        rw [hb, e']
        rfl
      · have e' := e
        unfold able at e'
        have hb : bad0 h l y = false := by unfold bad0; rw [e]; rfl
        have hdm : hd h l y = m := by unfold hd; rw [e]; rfl
        have l1 : ((heads h l y).map nD).length + [nD m].length ≤ 1000000 := by rw [List.length_map, heads_len]; show y + 1 ≤ _; omega
        have l2 : ((List.range y).map fun y => col h l y 0).length ≤ 1000000 := by rw [List.length_map, List.length_range]; omega
        rw [hb, e']
        simp only [stQ, List.map_cons, List.map_nil, List.isEmpty_cons, Bool.false_eq_true, if_false, cat_ok l1, lft_some, pure_bind, e0, str_bit, dAdd_ch _ l2]
        rw [heads_succ, hdm, List.map_append, List.range_succ, List.map_append]
        rfl
    · intro m hm t ht
      have hm := List.mem_range.mp hm
      rw [show rowsN h = (List.range (2 ^ h)).map (rowN h) from rfl]
      simp only [par2, lft_some, pure_bind, bind_assoc]
      rw [forF_push (p := fun _ => true) (g := fun x => bD ((par h x m % 2 == 1) ^^ col h l y 0)) (by simp; omega)]
      · have es : ((List.range (2 ^ h)).all fun x => ((par h x m % 2 == 1) ^^ col h l y 0) == col h l y x) = sumB h l y m := by
          unfold sumB
          have ef : (fun x => ((par h x m % 2 == 1) ^^ col h l y 0) == col h l y x) = fun x => (col h l y x ^^ (par h x m % 2 == 1)) == col h l y 0 := funext fun x => by
            cases (par h x m % 2 == 1) <;> cases col h l y 0 <;> cases col h l y x <;> rfl
          rw [ef]
        simp only [filt_true, seqF_nx, List.nil_append, dEq_bits, es, lft_some, pure_bind, dTru_bool, nex_pure, fitL_ok ht]
        cases sumB h l y m <;> rfl
      · intro x hx t ht
        have hpm := fun (k : D → M (Fl (List D) (List D))) => congrArg (fun m : M D => m >>= k) (par_mod (par h x m) (col h l y 0))
        simp only [bind_assoc, pure_bind] at hpm
        simp only [dZip_rows, lft_some, pure_bind]
        rw [filtC_map (p := fun s => bitAt h m s) (g := fun s => bD (bitAt h x s)) fun s _ => by
          simp only [par2, lft_some, pure_bind, whn, truth, bin, dEq_bit1, dTru_bool]
          cases bitAt h m s <;> rfl]
        simp only [pure_bind, dSum_bits, lft_some, e0, hpm, fitL_ok ht, if_true]
end
end K14

set_option maxRecDepth 100000
namespace K14
open PySem Mir
theorem p_written : m__law_written_right = pure (.bool true) := by kernel_rfl
theorem p_counted0 : m__law_counted_right (.int 0) = pure (.bool true) := by kernel_rfl
theorem p_counted1 : m__law_counted_right (.int 1) = pure (.bool true) := by kernel_rfl
theorem p_counted2 : m__law_counted_right (.int 2) = pure (.bool true) := by kernel_rfl
end K14

set_option maxRecDepth 100000
namespace K14
open PySem Mir
theorem p_counted3 : m__law_counted_right (.int 3) = pure (.bool true) := by kernel_rfl
end K14

set_option maxRecDepth 100000
namespace K14
open PySem Mir
theorem foldl_rep {α : Type} (a : List α) : ∀ (m : Nat) (acc : Array α), ((List.replicate m a.toArray).foldl (· ++ ·) acc).toList = acc.toList ++ (List.replicate m a).flatten
  | 0, acc => by simp
  | m + 1, acc => by
    rw [List.replicate_succ, List.foldl_cons, foldl_rep a m, List.replicate_succ, List.flatten_cons]
    simp
theorem flat_map_rep {α β : Type} (f : α → β) (xs : List α) : ∀ m : Nat, (List.replicate m xs).flatten.map f = (List.replicate m (xs.map f)).flatten
  | 0 => rfl
  | m + 1 => by rw [List.replicate_succ, List.replicate_succ, List.flatten_cons, List.flatten_cons, List.map_append, flat_map_rep f xs m]
theorem repS_txt (l : List Bool) (hl : 0 < l.length) : ∀ {k : Nat}, 1 ≤ k → repS (txt l) ((k : Nat) : Int) = txt (List.replicate k l).flatten := by
  intro k hk
  unfold repS
  rw [if_neg (by omega)]
  have e2 : ((txt l).length == 0) = false := by
    show ((txt l).cps.size == 0) = false
    unfold txt
    simp
    intro z
    rw [z] at hl
    exact absurd hl (Nat.lt_irrefl _)
  by_cases h1 : k = 1
  · subst h1
    rw [if_pos (by rfl)]
    show txt l = txt (l ++ [])
    rw [List.append_nil]
  · have e1 : (((k : Nat) : Int) == 1) = false := by
      cases e : ((k : Nat) : Int) == 1
      · rfl
      · exact absurd (eq_of_beq e) (by omega)
    rw [e1, e2, if_neg (by decide)]
    unfold txt
    congr 1
    apply Array.toList_inj.mp
    rw [Int.toNat_natCast, foldl_rep]
    show [] ++ _ = _
    rw [List.nil_append, ← flat_map_rep]
theorem per_rep {m : Nat} (hm : 0 < m) (f : Nat → Bool) : ∀ k, (List.replicate k ((List.range m).map f)).flatten = (List.range (k * m)).map fun i => f (i % m)
  | 0 => by simp
  | k + 1 => by
    rw [List.replicate_succ', List.flatten_append, per_rep hm f k, Nat.succ_mul, range_cat]
    congr 1
    rw [List.flatten_singleton]
    refine List.map_congr_left fun i hi => ?_
    rw [Nat.mul_comm, Nat.mul_add_mod, Nat.mod_eq_of_lt (List.mem_range.mp hi)]
theorem per_tab (h : Nat) (f : Nat → Bool) : (List.replicate (2 ^ h) (tabF h f)).flatten = tabF (h + h) fun i => f (i % 2 ^ h) := by
  unfold tabF
  rw [per_rep (Nat.two_pow_pos h), Nat.pow_add]
def turnL (h : Nat) : List Nat := (List.range h).map (fun i => h + i) ++ List.range h
theorem turn_isP : ∀ h < 4, (turnL h).length = h + h ∧ ∀ s < h + h, s ∈ turnL h := by decide +kernel
theorem led_turn : ∀ h < 4, ∀ j < 2 ^ (h + h), ledN (h + h) (turnL h) j = (j % 2 ^ h) * 2 ^ h + j / 2 ^ h := by decide +kernel
/-! ### the order back -/
def stK (os : List Nat) (k : Nat) : List Nat := (List.range os.length).map fun o => if posOf os o < k then posOf os o else 0
theorem stK_succ {n : Nat} {os : List Nat} (hp : IsP n os) {k : Nat} (hk : k < n) : (stK os k).set (os.getD k 0) k = stK os (k + 1) := by
  have hg := hp.get hk
  have hl := hp.len
  have pk : posOf os (os.getD k 0) = k := by
    have h1 : os[k]? = some (os.getD k 0) := getD_mem (by rw [hl]; exact hk)
    exact nodup_ix' hp.nodup (pos_get (List.mem_of_getElem? h1)).1 h1
  refine List.ext_getElem? fun o => ?_
  rw [List.getElem?_set]
  unfold stK
  rw [List.length_map, List.length_range, List.getElem?_map, List.getElem?_map]
  by_cases ho : o < os.length
  · rw [List.getElem?_range ho, Option.map_some, Option.map_some]
    by_cases e : os.getD k 0 = o
    · rw [if_pos e, if_pos (by rw [e]; exact ho), ← e, pk, if_pos (Nat.lt_succ_self k)]
    · rw [if_neg e]
      have : posOf os o ≠ k := fun z => e (by
        have h1 : os[k]? = some (os.getD k 0) := getD_mem (by rw [hl]; exact hk)
        have h2 := (pos_get (hp.all o (by rw [← hl]; exact ho))).1
        rw [z, h1] at h2
        exact Option.some.inj h2)
      by_cases hlt : posOf os o < k
      · rw [if_pos hlt, if_pos (by omega)]
      · rw [if_neg hlt, if_neg (by omega)]
  · rw [if_neg (fun z => ho (by rw [← z, hl]; exact hg)), List.getElem?_eq_none (by rw [List.length_range]; omega)]
    rfl
def bk (os : List Nat) : List Nat := (List.range os.length).map (posOf os)
theorem stK_end {n : Nat} {os : List Nat} (hp : IsP n os) : stK os n = bk os := List.map_congr_left fun o ho => by
  rw [if_pos]
  have := (pos_get (hp.all o (by rw [← hp.len]; exact List.mem_range.mp ho))).2
  rw [hp.len] at this
  exact this
theorem stK_zero (os : List Nat) : stK os 0 = List.replicate os.length 0 := by
  unfold stK
  simp only [Nat.not_lt_zero, if_false]
  rw [List.map_const', List.length_range]
theorem stK_len (os : List Nat) (k : Nat) : (stK os k).length = os.length := by unfold stK; rw [List.length_map, List.length_range]
theorem bk_get {n : Nat} {os : List Nat} (hp : IsP n os) {o : Nat} (ho : o < n) : (bk os).getD o 0 = posOf os o := by
  unfold bk
  rw [List.getD_eq_getElem?_getD, List.getElem?_map, List.getElem?_range (by rw [hp.len]; exact ho)]
  rfl
theorem bk_isP {n : Nat} {os : List Nat} (hp : IsP n os) : IsP n (bk os) := ⟨by unfold bk; rw [List.length_map, List.length_range, hp.len], fun s hs => by
  have h1 : os[s]? = some (os.getD s 0) := getD_mem (by rw [hp.len]; exact hs)
  have pk : posOf os (os.getD s 0) = s := nodup_ix' hp.nodup (pos_get (List.mem_of_getElem? h1)).1 h1
  exact List.mem_map.mpr ⟨os.getD s 0, List.mem_range.mpr (by rw [hp.len]; exact hp.get hs), pk⟩⟩
/-! ### the dual -/
theorem dual_mm {h : Nat} (hh : h ≤ 3) {os : List Nat} (hp : IsP (2 ^ h) os) (g : Nat → Bool) : dl (h + h) (tabF (h + h) (mm h os g)) = tabF (h + h) fun i => (tabF (h + h) (mm h (bk os) fun y => g (posOf os y))).getD (ledN (h + h) (turnL h) i) false := by
  have hpos : 0 < 2 ^ h := Nat.two_pow_pos h
  have h2 : 2 ^ (h + h) = 2 ^ h * 2 ^ h := Nat.pow_add 2 h h
  unfold dl
  refine List.map_congr_left fun j hj => ?_
  have hj := List.mem_range.mp hj
  have hA : j / 2 ^ h < 2 ^ h := Nat.div_lt_of_lt_mul (by rw [← h2]; exact hj)
  have hB : j % 2 ^ h < 2 ^ h := Nat.mod_lt _ hpos
  have hy := (pos_get (hp.all _ hA)).2
  rw [hp.len] at hy
  have eW : W (h + h) (av (fl (tabF (h + h) (mm h os g)))) j = W (h + h) (av (mm h os g)) j := W_congr (fun i hi => by
    show av (fun i => (tabF (h + h) (mm h os g)).getD i false) i = _
    rw [av_get, tabF_get hi]
    rfl) j
  rw [led_turn h (by omega) j hj, tabF_get (by
    have := Nat.mul_le_mul_right (2 ^ h) (show j % 2 ^ h + 1 ≤ 2 ^ h by omega)
    rw [Nat.succ_mul] at this
    omega), mm_at hA, bk_get hp hA, eW, mm_wave hh hp g hj]
  have ec : ∀ y < 2 ^ h, chi h y j = if (par h (j % 2 ^ h) y % 2 == 1) = true then -1 else 1 := fun y hy => by
    have e := chi_low (h := h) (x := j / 2 ^ h) (y := j % 2 ^ h) (r := y) hB
    rw [Nat.div_add_mod'] at e
    rw [chi_comm, e, chi_par (by omega) hB hy]
  rw [ec _ hy]
  unfold av
  have hp2 : (0 : Int) < 2 ^ h := by exact_mod_cast hpos
  cases (par h (j % 2 ^ h) (posOf os (j / 2 ^ h)) % 2 == 1) <;> cases g (posOf os (j / 2 ^ h)) <;> simp <;> omega
end K14

set_option maxRecDepth 100000
namespace K14
open PySem Mir
theorem resO_ok (h : Nat) (l : List Bool) : Ok 2 (resO h l) := by
  unfold resO
  cases okO h l with
  | false => exact ⟨rfl, Nat.zero_le _⟩
  | true =>
    rw [if_pos rfl]
    have h1 := sgD_ok (heads h l (2 ^ h))
    refine ⟨?_, ?_⟩
    · show PyData.plainAll [sgD _, txtD _] = true
      simp only [PyData.plainAll, h1.1, Bool.true_and]
      rfl
    · have := h1.2
      have e0 : ∀ t : List Bool, PyData.depth (txtD t) = 0 := fun _ => rfl
      simp only [PyData.depth, PyData.depthAll, e0]
      simp only [PyData.depth] at this
      omega
theorem p_any {n : Nat} {l : List Bool} (hn : n ≤ 6) (hl : l.length = 2 ^ n) : m__law_any_right (txtD l) = pure (.bool true) := by
  by_cases hp : n % 2 = 0
  · obtain ⟨h, e⟩ : ∃ h, n = h + h := ⟨n / 2, by omega⟩
    subst e
    have hh : h ≤ 3 := by omega
    unfold m__law_any_right b__law_any_right
    simp only [pure_bind, bind_assoc, p_order_of hh hl, p_law_order hh hl, like_ok (resO_ok h l) (by decide), runF_rt]
  · have hm : n % 2 = 1 := by omega
    have ev : dMod (nD n) (.int 2) = some (.int 1) := by
      rw [dMod_pos _ (by decide), fmod2, hm]
      rfl
    have e1 : m_order_in (txtD l) = pure .none := by
      unfold m_order_in b_order_in
      simp only [pure_bind, bind_assoc, un1, bin, truth, p_count_in hn hl, ev, lft_some, dEq_int, decide_true, dTru_bool, if_true, runF_rt]
    have e2 : m__law_order (txtD l) = pure .none := by
      unfold m__law_order b__law_order
      simp only [pure_bind, bind_assoc, un1, bin, truth, p_law_count hn hl, dInt_int, ev, lft_some, dEq_int, decide_true, dTru_bool, if_true, runF_rt]
    have e3 : m_order_of_flat (txtD l) = pure .none := by
      unfold m_order_of_flat b_order_of_flat
      simp only [pure_bind, bind_assoc, p_need_function hn hl, e1, runF_rt]
    have e4 : m__law_like 10 .none .none = pure (.bool true) := like_ok (k := 0) ⟨rfl, Nat.zero_le _⟩ (by decide)
    unfold m__law_any_right b__law_any_right
    simp only [pure_bind, bind_assoc, e2, e3, e4, runF_rt]
theorem flat_bind {α : Type} {h : Nat} {c : Cup} {f : D → M α} {Q : α → Cup → Prop} {E : Exc → Cup → Prop} (hh : h ≤ 3) (hc : CupOk c) (q : ∀ os g c', IsP (2 ^ h) os → CupOk c' → Wp (f (.tuple [sgD os, txtD (tabF h g), txtD (tabF (h + h) (mm h os g))]) c') Q E) : Wp ((m__law_flat (nD h) >>= f) c) Q E := by
  rw [Wp_bind]
  with_reducible refine Wp.mono (p_law_flat hh hc) (fun d c' hk => ?_) (fun _ _ z => z)
  cases hk with
  | intro os hk =>
  cases hk with
  | intro g hk =>
  rw [hk.2.1]
  exact q os g c' hk.1 hk.2.2
theorem like_txt (l : List Bool) : m__law_like 10 (txtD l) (txtD l) = pure (.bool true) := like_ok (k := 0) ⟨rfl, Nat.le_refl _⟩ (by decide)
theorem like_three (os : List Nat) (a b : List Bool) (t : Bool) : m__law_like 10 (.list [txtD b, .tuple [sgD os, txtD a], .bool t]) (.list [txtD b, .tuple [sgD os, txtD a], .bool t]) = pure (.bool true) := by
  refine like_ok (k := 3) ?_ (by decide)
  have h1 := sgD_ok os
  have e0 : ∀ t : List Bool, PyData.depth (txtD t) = 0 := fun _ => rfl
  have e1 : ∀ t : List Bool, PyData.plain (txtD t) = true := fun _ => rfl
  refine ⟨?_, ?_⟩
  · have h2 := h1.1
    simp only [PyData.plain] at h2
    simp only [PyData.plain, PyData.plainAll, e1, h2, Bool.and_self]
  · have := h1.2
    simp only [PyData.depth] at this
    simp only [PyData.depth, PyData.depthAll, e0]
    omega
theorem like_two (a b : List Bool) : m__law_like 10 (.list [txtD a, txtD b]) (.list [txtD a, txtD b]) = pure (.bool true) := like_ok (k := 1) ⟨rfl, Nat.le_refl _⟩ (by decide)
theorem rolls_str {α : Type} {xs : List D} {c : Cup} {f : List D → M α} {Q : α → Cup → Prop} {E : Exc → Cup → Prop} (hc : CupOk c)
    (q : ∀ (g : Nat → Bool) c', CupOk c' → Wp (f ((List.range xs.length).map fun i => chD (g i)) c') Q E) : Wp ((mapC (fun _ => m__law_roll (.int 2) >>= fun x => lft (dStr x)) xs >>= f) c) Q E := by
  rw [Wp_bind]
  refine Wp_mapR (fun d => ∃ b, d = chD b) CupOk hc (fun x _ c hc => ?_) fun ys c' hl hy h' => ?_
  · refine roll_bind (k := 2) rfl (by decide) (by decide) hc fun j c1 hj h1 => ?_
    obtain ⟨b0, e0⟩ : ∃ b, (nD j : D) = bD b := by
      match j, hj with
      | 0, _ => exact ⟨false, rfl⟩
      | 1, _ => exact ⟨true, rfl⟩
    rw [e0, str_bit, lft_some]
    exact ⟨⟨b0, rfl⟩, h1⟩
  · obtain ⟨bs, e⟩ : ∃ bs : List Bool, ys = bs.map chD := by
      clear hl
      induction ys with
      | nil => exact ⟨[], rfl⟩
      | cons y r ih =>
        obtain ⟨bs, e⟩ := ih fun z hz => hy z (List.mem_cons_of_mem _ hz)
        obtain ⟨b, eb⟩ := hy y List.mem_cons_self
        exact ⟨b :: bs, by rw [e, eb]; rfl⟩
    have hl2 : bs.length = xs.length := by rw [← hl, e, List.length_map]
    have e2 : ys = (List.range xs.length).map fun i => chD (bs.getD i false) := by
      rw [e, ← hl2]
      refine List.ext_getElem? fun i => ?_
      rw [List.getElem?_map, List.getElem?_map]
      by_cases hi : i < bs.length
      · rw [List.getElem?_range hi, List.getElem?_eq_getElem hi, Option.map_some, Option.map_some, List.getD_eq_getElem?_getD, List.getElem?_eq_getElem hi]
        rfl
      · rw [List.getElem?_eq_none (by omega), List.getElem?_eq_none (by rw [List.length_range]; omega)]
        rfl
    rw [e2]
    exact q _ c' h'
end K14

set_option maxRecDepth 100000
namespace K14
open PySem Mir
theorem mul_txt {h : Nat} (hh : h ≤ 3) (f : Nat → Bool) : dMul (txtD (tabF h f)) (nD (2 ^ h)) = some (txtD (tabF (h + h) fun i => f (i % 2 ^ h))) := by
  have h8 : 2 ^ h ≤ 8 := Nat.le_trans (Nat.pow_le_pow_right (by decide) hh) (by decide)
  have hp : 0 < 2 ^ h := Nat.two_pow_pos h
  show (if _ then some (PyData.str (repS (txt (tabF h f)) _)) else none) = _
  rw [if_pos (by
    simp only [Bool.and_eq_true, decide_eq_true_eq, txt_len, tabF_len]
    omega), repS_txt _ (by rw [tabF_len]; exact hp) hp, per_tab]
theorem mm_xor {h : Nat} {os : List Nat} (f g : Nat → Bool) : (tabF (h + h) fun i => (tabF (h + h) (mm h os f)).getD i false != (tabF (h + h) fun i => g (i % 2 ^ h)).getD i false) = tabF (h + h) (mm h os fun y => f y != g y) := List.map_congr_left fun i hi => by
  rw [tabF_get (List.mem_range.mp hi), tabF_get (List.mem_range.mp hi)]
  unfold mm
  show ((_ ^^ f (i % 2 ^ h)) != g (i % 2 ^ h)) = (_ ^^ (f (i % 2 ^ h) != g (i % 2 ^ h)))
  cases (par h (i / 2 ^ h) (os.getD (i % 2 ^ h) 0) % 2 == 1) <;> cases f (i % 2 ^ h) <;> cases g (i % 2 ^ h) <;> rfl
theorem repL_one (x : D) {m : Nat} (hm : m ≤ 1000000) : repL [x] (nD m) = some (List.replicate m x) := by
  have hl : [x].length * m ≤ lim := lim_big (by show 1 * m ≤ 1000000; omega)
  have hc : (decide (-(2 ^ 62) ≤ ((m : Nat) : Int)) && decide (((m : Nat) : Int) < 2 ^ 62) && decide ([x].length * ((m : Nat) : Int).toNat ≤ lim)) = true := by
    rw [Int.toNat_natCast]
    simp only [Bool.and_eq_true, decide_eq_true_eq]
    exact ⟨⟨by omega, by omega⟩, hl⟩
  unfold repL
  simp only [nD]
  rw [if_pos hc, Int.toNat_natCast, List.flatten_replicate_singleton]
theorem turnR : ∀ h, h < 4 → dRange2 (nD h) (nD (2 * h)) = some ((List.range h).map fun i => nD (h + i))
  | 0, _ => rfl
  | 1, _ => rfl
  | 2, _ => rfl
  | 3, _ => rfl
theorem par2_tup (a b : D) : par2 (.tuple [a, b]) = some (a, b) := rfl
set_option maxHeartbeats 4000000 in
theorem p_right {h : Nat} {c : Cup} (hh : h ≤ 3) (hc : CupOk c) {E : Exc → Cup → Prop} : Wp (m__law_right (nD h) c) (fun d c' => d = .bool true ∧ CupOk c') E := by
  have hn : h ≤ 6 := by omega
  have hn2 : h + h ≤ 6 := by omega
  have h8 : 2 ^ h ≤ 8 := Nat.le_trans (Nat.pow_le_pow_right (by decide) hh) (by decide)
  have hp : 0 < 2 ^ h := Nat.two_pow_pos h
  have hrl : (rowsN h).length = 2 ^ h := by unfold rowsN; rw [List.length_map, List.length_range]
  unfold m__law_right b__law_right runF seqF
  simp only [pure_bind, bind_assoc, un1, bin, truth, notT, lstM]
  with_reducible refine flat_bind hh hc fun os g c1 hos h1 => ?_
  have hf := flat_tab (flat_mm hh hos g)
  have eflat : flatB (h + h) (av (fl (tabF (h + h) (mm h os g)))) = true := flatB_iff.mpr hf
  have hl1 := tabF_len (h + h) (mm h os g)
  have hlen : dLen (sgD os) = some (nD (2 ^ h)) := by rw [dLen_tup, List.length_map, hos.len]
  simp only [show par3 (.tuple [sgD os, txtD (tabF h g), txtD (tabF (h + h) (mm h os g))]) = some (sgD os, txtD (tabF h g), txtD (tabF (h + h) (mm h os g))) from rfl, lft_some, pure_bind, bind_assoc, seqM_cons, seqM_nil, tupM, p_by_order hh hos, p_order_of hh hl1, resO_mm hh hos g, p_is_flat hn2 hl1, eflat, like_three, dTru_bool, Bool.not_true, Bool.false_eq_true, if_false, p_law_rows hn, dItems_list]
  simp only [joinM, pure_bind, bind_assoc, lft_some]
  with_reducible refine rolls_str h1 fun mo c2 h2 => ?_
  rw [hrl]
  have ej : ∀ f : Nat → Bool, dJoin (.str "") (.list ((List.range (2 ^ h)).map fun i => chD (f i))) = some (txtD (tabF h f)) := fun f => by
    have : ((List.range (2 ^ h)).map fun i => chD (f i)) = (tabF h f).map chD := by unfold tabF; rw [List.map_map]; rfl
    rw [this, dJoin_ch (by rw [tabF_len]; omega)]
  have ez : dZip (txtD (tabF h g)) (txtD (tabF h mo)) = some ((List.range (2 ^ h)).map fun i => .tuple [chD (g i), chD (mo i)]) := by
    unfold dZip
    rw [items_at hn (tabF_len h g), items_at hn (tabF_len h mo)]
    show some (zip2 _ _) = _
    rw [zip_map]
    congr 1
    refine List.map_congr_left fun i hi => ?_
    rw [tabF_get (List.mem_range.mp hi), tabF_get (List.mem_range.mp hi)]
  have em : ∀ f : D → M D, (∀ i, f (.tuple [chD (g i), chD (mo i)]) = pure (chD (g i != mo i))) → mapC f ((List.range (2 ^ h)).map fun i => .tuple [chD (g i), chD (mo i)]) = pure ((List.range (2 ^ h)).map fun i => chD (g i != mo i)) := fun f hf => mapC_map fun i _ => hf i
  have e2 : ∀ x : D, repL [x] (.int 2) = some [x, x] := fun x => rfl
  have hbk := stK_len os
  simp only [pure_bind, bind_assoc, lft_some, ej, ez]
  rw [em _ fun i => by
    simp only [par2, lft_some, pure_bind, dNe_ch]
    cases g i <;> cases mo i <;> kernel_rfl]
  simp only [pure_bind, bind_assoc, lft_some, ej, dLen_list, hrl, mul_txt hh, p_joined_sum hn2 hl1 (tabF_len _ _), mm_xor, p_by_order hh hos, e2, like_two, dTru_bool, Bool.not_true, Bool.false_eq_true, if_false, hlen]
  have er : repL [.int 0] (nD (2 ^ h)) = some ((stK os 0).map nD) := by
    rw [repL_one _ (show 2 ^ h ≤ 1000000 by omega), stK_zero, List.map_replicate, hos.len]
    rfl
  have en : dEnum (sgD os) = some ((List.range (2 ^ h)).map fun y => .tuple [nD y, nD (os.getD y 0)]) := by
    show some (enum (os.map nD)) = _
    have : os.map nD = (List.range (2 ^ h)).map fun y => nD (os.getD y 0) := by
      refine List.ext_getElem? fun i => ?_
      rw [List.getElem?_map, List.getElem?_map]
      by_cases hi : i < 2 ^ h
      · rw [List.getElem?_range hi, getD_mem (by rw [hos.len]; exact hi)]
        rfl
      · rw [List.getElem?_eq_none (by rw [hos.len]; omega), List.getElem?_eq_none (by rw [List.length_range]; omega)]
        rfl
    rw [this, enum_range]
  simp only [er, en, lft_some, pure_bind, bind_assoc]
  rw [forF_at (g := fun k => (stK os k).map nD) (by rfl)]
  · have hbl : (bk os).length = 2 ^ h := (bk_isP hos).len
    have e4 : dMul (.int 2) (nD h) = some (nD (2 * h)) := dMul_nat (a := 2) h (by decide)
    have e5 : dRange2 (nD h) (nD (2 * h)) = some ((List.range h).map fun i => nD (h + i)) := turnR h (by omega)
    have e6 : (dAdd (.tuple ((List.range h).map fun i => nD (h + i))) (.tuple ((List.range h).map nD))) = some (sgD (turnL h)) := by
      rw [dAdd_tup (by simp; omega)]
      unfold turnL
      rw [sgD, List.map_append, List.map_map]
      rfl
    have hT : IsP (h + h) (turnL h) := ⟨(turn_isP h (by omega)).1, (turn_isP h (by omega)).2⟩
    have e7 : mapC (fun d => lft (dIx (.list ((bk os).map nD)) d) >>= fun y => lft (dIx (txtD (tabF h g)) y)) ((List.range (2 ^ h)).map nD) = pure ((List.range (2 ^ h)).map fun i => chD (g (posOf os i))) := mapC_map fun i hi => by
      have hi := List.mem_range.mp hi
      have hy := (pos_get (hos.all _ hi)).2
      rw [hos.len] at hy
      rw [nats_ix (by rw [hbl]; exact hi), lft_some, pure_bind, bk_get hos hi, p_at hn (tabF_len h g) hy, lft_some, tabF_get hy]
    simp only [pure_bind, stK_end hos, List.length_map, hbl, dTuple_list, lft_some, bind_assoc, dRange1_nat (lim_big (show 2 ^ h ≤ 1000000 by omega)), dRange1_nat (lim_big (show h ≤ 1000000 by omega)), e4, e5, e6, e7, ej, p_by_order hh (bk_isP hos), p_flat_dual hn2 hl1 hf, p_led hn2 hT (tabF_len _ _), ← dual_mm hh hos g, like_txt, andV, dTru_bool, if_true, p_sign_count hn2 hl1, dEq_nat, show (h + h == 2 * h) = true from beq_iff_eq.mpr (by omega)]
    exact ⟨rfl, h2⟩
  · intro k hk
    have := hos.get hk
    rw [par2_tup]
    rw [lft_some, pure_bind, setAt_nat (by rw [hbk, hos.len]; exact this), lft_some, pure_bind, stK_succ hos hk]
end K14

set_option maxRecDepth 100000
namespace K14
open PySem Mir
theorem p_count_any {x : D} (h : x ∈ [PyData.int 0, .int 1, .int 2, .int 2, .int 3]) : m__law_counted_right x = pure (.bool true) := by
  simp only [List.mem_cons, List.not_mem_nil, or_false] at h
  rcases h with e | e | e | e | e <;> rw [e]
  · exact p_counted0
  · exact p_counted1
  · exact p_counted2
  · exact p_counted2
  · exact p_counted3
theorem right_bind {α : Type} {h : Nat} {c : Cup} {f : D → M α} {Q : α → Cup → Prop} {E : Exc → Cup → Prop} (hh : h ≤ 3) (hc : CupOk c) (q : ∀ c', CupOk c' → Wp (f (.bool true) c') Q E) : Wp ((m__law_right (nD h) >>= f) c) Q E := by
  rw [Wp_bind]
  with_reducible refine Wp.mono (p_right hh hc) (fun d c' hk => ?_) (fun _ _ z => z)
  rw [hk.1]
  exact q c' hk.2
set_option maxHeartbeats 4000000 in
theorem the_law : ∀ ns : List Int, ns.length ≤ 63 → Wp (runF (b_law (.list (ns.map .int))) (0, 0)) (fun d _ => d = .bool true) (fun _ _ => False) := by
  intro ns hns
  obtain ⟨a, b, ec, hc⟩ := p_cup hns
  unfold b_law runF seqF
  simp only [bin, un1, bind_assoc, pure_bind, tupM, seqM_cons, seqM_nil, lft_some, lstM, truth, notT, orT, arg1N, ec, nex_pure, two, p_written, dTru_bool, Bool.not_true, Bool.false_eq_true, if_false, dItems_tup]
  rw [Wp_setCup]
  rw [Wp_bind]
  refine Wp_forF (fun _ c => CupOk c) hc (fun x hx t c hc => ?_) fun t c1 hc1 => ?_
  · have hq : ∃ q, q ≤ 3 ∧ x = nD q := by
      simp only [List.mem_cons, List.not_mem_nil, or_false] at hx
      rcases hx with e | e | e | e | e
      · exact ⟨0, by decide, e⟩
      · exact ⟨1, by decide, e⟩
      · exact ⟨2, by decide, e⟩
      · exact ⟨2, by decide, e⟩
      · exact ⟨3, by decide, e⟩
    cases hq with
    | intro q hq =>
    rw [hq.2]
    with_reducible refine right_bind hq.1 hc fun c' h' => ?_
    simp only [pure_bind, lft_some, dTru_bool, Bool.not_true, Bool.false_eq_true, if_false]
    exact ⟨(), rfl, h'⟩
  · simp only [pure_bind, bind_assoc]
    rw [Wp_bind]
    refine Wp_forF (fun _ c => CupOk c) hc1 (fun x hx t c hc => ?_) fun t c2 hc2 => ?_
    · have hq : ∃ q, q ≤ 6 ∧ x = nD q := by
        simp only [List.mem_cons, List.not_mem_nil, or_false] at hx
        rcases hx with e | e | e | e
        · exact ⟨2, by decide, e⟩
        · exact ⟨4, by decide, e⟩
        · exact ⟨5, by decide, e⟩
        · exact ⟨6, by decide, e⟩
      cases hq with
      | intro q hq =>
      rw [hq.2]
      refine fun_bind hq.1 hc fun n l c' hn hl h' => ?_
      simp only [p_any (Nat.le_trans hn hq.1) hl, pure_bind, lft_some, dTru_bool, Bool.not_true, Bool.false_eq_true, if_false]
      exact ⟨(), rfl, h'⟩
    · simp only [pure_bind, bind_assoc]
      refine p_some (by decide) (by decide) hc2 fun x c3 hx h3 => ?_
      rw [p_count_any hx]
      simp only [pure_bind, bind_assoc]
      exact rfl
end K14

namespace K14
open PySem PySem.Spec PyProof.Rows L2 Mir
theorem fin_law {l : PySem.W.OpenLaw} {w : World} {K : PySem.W.Frag} {h : Heap} {mg : Str → Option Value} {fa f : Addr} {oc : Value} {od an : Option Addr} {osl : Array (Option Value)} {kV doc pm cdv ct : Value} (X : K.In h) (G : h.Ns mainGlobals mg) (hfa : mg "law" = some (.ref fa))
    (law : ∀ ns : List Int, ns.length ≤ 63 → Wp (runF (b_law (.list (ns.map .int))) (0, 0)) (fun d _ => d = .bool true) (fun _ _ => False))
    (a : PySem.W.nsIn K mainGlobals "law" = some (some (.ref f))) (l1 : List.lookup f K = some ⟨oc, od, .func (PySem.W.fnOf "law" "law" (defArgs (top 66)) (defBody (top 66)) (defScope (top 66)) .none kV doc pm an cdv ct), osl⟩) (c : PySem.W.codeIn K cdv "law" = true) (k : PySem.W.keepIn K (.ref f) = true) (T : Top K mg) :
    ∃ fd : FuncData, (∀ (s : Shared) (v : Value), BindsTo s fd ⟨[v], []⟩ [("script", v)]) ∧ ∀ base : Heap, K.In base → base.Ns mainGlobals mg → FnOk l.prog w K mg base (L2.CX l.prog w) 18 fa fd ["script"] (spL K 63) := by
  have e := hfa.symm.trans (PySem.W.mg_of X G a)
  cases e
  exact ⟨_, fun s v => .of_eq rfl, fun base _ _ => w_law T (fun_mk (st := top 66) l1 c k) law⟩
end K14
open PySem PySem.W PyProof.Rows
set_option maxHeartbeats 0 in
theorem PySem.Challenge.cw_truthtold_k14_whole_flat_functions_by_or_holds : PySem.Challenge.rw_truthtold_k14_whole_flat_functions_by_or.Holds := by
  w_on; o_law; k_head; (case hw => w_witness2)
  k_fill
  refine L2.walk_of (l := PySem.Challenge.rw_truthtold_k14_whole_flat_functions_by_or) (n := 63) (k := 18) (x := "script") (CX := fun w => L2.CX PySem.Challenge.rw_truthtold_k14_whole_flat_functions_by_or.prog w) (sp := fun w => Mir.spL _ 63) rfl (by decide) rfl ⟨rfl, by decide, by decide⟩ (fun w h Y => PySem.W.kIn_of Y) ?F (fun _ _ a ns hl _ hS => ⟨a, ns, rfl, hS, hl, fun _ => rfl⟩) (fun w H s e s2 => Mir.cx_no _ w H s e s2)
  case F =>
    intro w mg fa h KX G hmg
    refine' K14.fin_law KX G hmg K14.the_law ?la ?ll ?lc ?lk ?T
    (case la => k_is); (case ll => k_is); (case lc => k_is); (case lk => k_is)
    case T =>
      constructor
      · refine' Mir.df_mk KX G ?a ?l ?c ?k ?b; (case a => k_is); (case l => k_is); (case c => k_is); (case k => k_is); (case b => exact fun _ _ _ _ _ _ us hl => match us, hl with | [_], _ => rfl)
      · refine' Mir.df_mk KX G ?a ?l ?c ?k ?b; (case a => k_is); (case l => k_is); (case c => k_is); (case k => k_is); (case b => exact fun _ _ _ _ _ _ us hl => match us, hl with | [_], _ => rfl)
      · refine' Mir.df_mk KX G ?a ?l ?c ?k ?b; (case a => k_is); (case l => k_is); (case c => k_is); (case k => k_is); (case b => exact fun _ _ _ _ _ _ us hl => match us, hl with | [_], _ => rfl)
      · refine' Mir.df_mk KX G ?a ?l ?c ?k ?b; (case a => k_is); (case l => k_is); (case c => k_is); (case k => k_is); (case b => exact fun _ _ _ _ _ _ us hl => match us, hl with | [_, _], _ => rfl)
      · refine' Mir.df_mk KX G ?a ?l ?c ?k ?b; (case a => k_is); (case l => k_is); (case c => k_is); (case k => k_is); (case b => exact fun _ _ _ _ _ _ us hl => match us, hl with | [_], _ => rfl)
      · refine' Mir.df_mk KX G ?a ?l ?c ?k ?b; (case a => k_is); (case l => k_is); (case c => k_is); (case k => k_is); (case b => exact fun _ _ _ _ _ _ us hl => match us, hl with | [_, _, _], _ => rfl)
      · refine' Mir.df_mk KX G ?a ?l ?c ?k ?b; (case a => k_is); (case l => k_is); (case c => k_is); (case k => k_is); (case b => exact fun _ _ _ _ _ _ us hl => match us, hl with | [_, _, _], _ => rfl)
      · refine' Mir.df_mk KX G ?a ?l ?c ?k ?b; (case a => k_is); (case l => k_is); (case c => k_is); (case k => k_is); (case b => exact fun _ _ _ _ _ _ us hl => match us, hl with | [_], _ => rfl)
      · refine' Mir.df_mk KX G ?a ?l ?c ?k ?b; (case a => k_is); (case l => k_is); (case c => k_is); (case k => k_is); (case b => exact fun _ _ _ _ _ _ us hl => match us, hl with | [_, _, _, _], _ => rfl)
      · refine' Mir.df_mk KX G ?a ?l ?c ?k ?b; (case a => k_is); (case l => k_is); (case c => k_is); (case k => k_is); (case b => exact fun _ _ _ _ _ _ us hl => match us, hl with | [_], _ => rfl)
      · refine' Mir.df_mk KX G ?a ?l ?c ?k ?b; (case a => k_is); (case l => k_is); (case c => k_is); (case k => k_is); (case b => exact fun _ _ _ _ _ _ us hl => match us, hl with | [_], _ => rfl)
      · refine' Mir.df_mk KX G ?a ?l ?c ?k ?b; (case a => k_is); (case l => k_is); (case c => k_is); (case k => k_is); (case b => exact fun _ _ _ _ _ _ us hl => match us, hl with | [_], _ => rfl)
      · refine' Mir.df_mk KX G ?a ?l ?c ?k ?b; (case a => k_is); (case l => k_is); (case c => k_is); (case k => k_is); (case b => exact fun _ _ _ _ _ _ us hl => match us, hl with | [_], _ => rfl)
      · refine' Mir.df_mk KX G ?a ?l ?c ?k ?b; (case a => k_is); (case l => k_is); (case c => k_is); (case k => k_is); (case b => exact fun _ _ _ _ _ _ us hl => match us, hl with | [_], _ => rfl)
      · refine' Mir.df_mk KX G ?a ?l ?c ?k ?b; (case a => k_is); (case l => k_is); (case c => k_is); (case k => k_is); (case b => exact fun _ _ _ _ _ _ us hl => match us, hl with | [_], _ => rfl)
      · refine' Mir.df_mk KX G ?a ?l ?c ?k ?b; (case a => k_is); (case l => k_is); (case c => k_is); (case k => k_is); (case b => exact fun _ _ _ _ _ _ us hl => match us, hl with | [_], _ => rfl)
      · refine' Mir.df_mk KX G ?a ?l ?c ?k ?b; (case a => k_is); (case l => k_is); (case c => k_is); (case k => k_is); (case b => exact fun _ _ _ _ _ _ us hl => match us, hl with | [_], _ => rfl)
      · refine' Mir.df_mk KX G ?a ?l ?c ?k ?b; (case a => k_is); (case l => k_is); (case c => k_is); (case k => k_is); (case b => exact fun _ _ _ _ _ _ us hl => match us, hl with | [_], _ => rfl)
      · refine' Mir.df_mk KX G ?a ?l ?c ?k ?b; (case a => k_is); (case l => k_is); (case c => k_is); (case k => k_is); (case b => exact fun _ _ _ _ _ _ us hl => match us, hl with | [_], _ => rfl)
      · refine' Mir.df_mk KX G ?a ?l ?c ?k ?b; (case a => k_is); (case l => k_is); (case c => k_is); (case k => k_is); (case b => exact fun _ _ _ _ _ _ us hl => match us, hl with | [_, _], _ => rfl)
      · refine' Mir.df_mk KX G ?a ?l ?c ?k ?b; (case a => k_is); (case l => k_is); (case c => k_is); (case k => k_is); (case b => exact fun _ _ _ _ _ _ us hl => match us, hl with | [_, _], _ => rfl)
      · refine' Mir.df_mk KX G ?a ?l ?c ?k ?b; (case a => k_is); (case l => k_is); (case c => k_is); (case k => k_is); (case b => exact fun _ _ _ _ _ _ us hl => match us, hl with | [_, _, _], _ => rfl)
      · refine' Mir.df_mk KX G ?a ?l ?c ?k ?b; (case a => k_is); (case l => k_is); (case c => k_is); (case k => k_is); (case b => exact fun _ _ _ _ _ _ us hl => match us, hl with | [_], _ => rfl)
      · refine' Mir.df_mk KX G ?a ?l ?c ?k ?b; (case a => k_is); (case l => k_is); (case c => k_is); (case k => k_is); (case b => exact fun _ _ _ _ _ _ us hl => match us, hl with | [_, _], _ => rfl)
      · refine' Mir.df_mk KX G ?a ?l ?c ?k ?b; (case a => k_is); (case l => k_is); (case c => k_is); (case k => k_is); (case b => exact fun _ _ _ _ _ _ us hl => match us, hl with | [_], _ => rfl)
      · refine' Mir.df_mk KX G ?a ?l ?c ?k ?b; (case a => k_is); (case l => k_is); (case c => k_is); (case k => k_is); (case b => exact fun _ _ _ _ _ _ us hl => match us, hl with | [_, _], _ => rfl)
      · refine' Mir.df_mk KX G ?a ?l ?c ?k ?b; (case a => k_is); (case l => k_is); (case c => k_is); (case k => k_is); (case b => exact fun _ _ _ _ _ _ us hl => match us, hl with | [_], _ => rfl)
      · refine' Mir.df_mk KX G ?a ?l ?c ?k ?b; (case a => k_is); (case l => k_is); (case c => k_is); (case k => k_is); (case b => exact fun _ _ _ _ _ _ us hl => match us, hl with | [_], _ => rfl)
      · refine' Mir.df_mk KX G ?a ?l ?c ?k ?b; (case a => k_is); (case l => k_is); (case c => k_is); (case k => k_is); (case b => exact fun _ _ _ _ _ _ us hl => match us, hl with | [], _ => rfl)
      · refine' Mir.df_mk KX G ?a ?l ?c ?k ?b; (case a => k_is); (case l => k_is); (case c => k_is); (case k => k_is); (case b => exact fun _ _ _ _ _ _ us hl => match us, hl with | [_, _], _ => rfl)
      · refine' Mir.df_mk KX G ?a ?l ?c ?k ?b; (case a => k_is); (case l => k_is); (case c => k_is); (case k => k_is); (case b => exact fun _ _ _ _ _ _ us hl => match us, hl with | [_, _], _ => rfl)
      · refine' Mir.df_mk KX G ?a ?l ?c ?k ?b; (case a => k_is); (case l => k_is); (case c => k_is); (case k => k_is); (case b => exact fun _ _ _ _ _ _ us hl => match us, hl with | [_, _], _ => rfl)
      · refine' Mir.df_mk KX G ?a ?l ?c ?k ?b; (case a => k_is); (case l => k_is); (case c => k_is); (case k => k_is); (case b => exact fun _ _ _ _ _ _ us hl => match us, hl with | [_], _ => rfl)
      · refine' Mir.df_mk KX G ?a ?l ?c ?k ?b; (case a => k_is); (case l => k_is); (case c => k_is); (case k => k_is); (case b => exact fun _ _ _ _ _ _ us hl => match us, hl with | [_], _ => rfl)
      · refine' Mir.df_mk KX G ?a ?l ?c ?k ?b; (case a => k_is); (case l => k_is); (case c => k_is); (case k => k_is); (case b => exact fun _ _ _ _ _ _ us hl => match us, hl with | [_], _ => rfl)
      · refine' Mir.df_mk KX G ?a ?l ?c ?k ?b; (case a => k_is); (case l => k_is); (case c => k_is); (case k => k_is); (case b => exact fun _ _ _ _ _ _ us hl => match us, hl with | [_], _ => rfl)
      · refine' Mir.df_mk KX G ?a ?l ?c ?k ?b; (case a => k_is); (case l => k_is); (case c => k_is); (case k => k_is); (case b => exact fun _ _ _ _ _ _ us hl => match us, hl with | [_, _], _ => rfl)
      · refine' Mir.df_mk KX G ?a ?l ?c ?k ?b; (case a => k_is); (case l => k_is); (case c => k_is); (case k => k_is); (case b => exact fun _ _ _ _ _ _ us hl => match us, hl with | [_, _], _ => rfl)
      · refine' Mir.df_mk KX G ?a ?l ?c ?k ?b; (case a => k_is); (case l => k_is); (case c => k_is); (case k => k_is); (case b => exact fun _ _ _ _ _ _ us hl => match us, hl with | [_], _ => rfl)
      · refine' Mir.df_mk KX G ?a ?l ?c ?k ?b; (case a => k_is); (case l => k_is); (case c => k_is); (case k => k_is); (case b => exact fun _ _ _ _ _ _ us hl => match us, hl with | [_, _], _ => rfl)
      · refine' Mir.df_mk KX G ?a ?l ?c ?k ?b; (case a => k_is); (case l => k_is); (case c => k_is); (case k => k_is); (case b => exact fun _ _ _ _ _ _ us hl => match us, hl with | [_], _ => rfl)
      · refine' Mir.df_mk KX G ?a ?l ?c ?k ?b; (case a => k_is); (case l => k_is); (case c => k_is); (case k => k_is); (case b => exact fun _ _ _ _ _ _ us hl => match us, hl with | [_, _, _], _ => rfl)
      · refine' Mir.df_mk KX G ?a ?l ?c ?k ?b; (case a => k_is); (case l => k_is); (case c => k_is); (case k => k_is); (case b => exact fun _ _ _ _ _ _ us hl => match us, hl with | [_, _, _], _ => rfl)
      · refine' Mir.df_mk KX G ?a ?l ?c ?k ?b; (case a => k_is); (case l => k_is); (case c => k_is); (case k => k_is); (case b => exact fun _ _ _ _ _ _ us hl => match us, hl with | [_, _], _ => rfl)
      · refine' Mir.df_mk KX G ?a ?l ?c ?k ?b; (case a => k_is); (case l => k_is); (case c => k_is); (case k => k_is); (case b => exact fun _ _ _ _ _ _ us hl => match us, hl with | [_], _ => rfl)
      · refine' Mir.df_mk KX G ?a ?l ?c ?k ?b; (case a => k_is); (case l => k_is); (case c => k_is); (case k => k_is); (case b => exact fun _ _ _ _ _ _ us hl => match us, hl with | [_], _ => rfl)
      · refine' Mir.df_mk KX G ?a ?l ?c ?k ?b; (case a => k_is); (case l => k_is); (case c => k_is); (case k => k_is); (case b => exact fun _ _ _ _ _ _ us hl => match us, hl with | [_, _], _ => rfl)
      · refine' Mir.df_mk KX G ?a ?l ?c ?k ?b; (case a => k_is); (case l => k_is); (case c => k_is); (case k => k_is); (case b => exact fun _ _ _ _ _ _ us hl => match us, hl with | [_], _ => rfl)
      · refine' PySem.W.mg_none_of KX G ?z; (case z => k_is)
      · refine' PySem.W.mg_none_of KX G ?z; (case z => k_is)
      · refine' PySem.W.mg_none_of KX G ?z; (case z => k_is)
      · refine' PySem.W.mg_none_of KX G ?z; (case z => k_is)
      · refine' PySem.W.mg_none_of KX G ?z; (case z => k_is)
      · refine' PySem.W.mg_none_of KX G ?z; (case z => k_is)
      · refine' PySem.W.mg_none_of KX G ?z; (case z => k_is)
      · refine' PySem.W.mg_none_of KX G ?z; (case z => k_is)
      · refine' PySem.W.mg_none_of KX G ?z; (case z => k_is)
      · refine' PySem.W.mg_none_of KX G ?z; (case z => k_is)
      · refine' PySem.W.mg_none_of KX G ?z; (case z => k_is)
      · refine' PySem.W.mg_none_of KX G ?z; (case z => k_is)
      · refine' PySem.W.mg_none_of KX G ?z; (case z => k_is)
      · refine' PySem.W.mg_none_of KX G ?z; (case z => k_is)
      · refine' PySem.W.mg_none_of KX G ?z; (case z => k_is)
      · refine' PySem.W.mg_none_of KX G ?z; (case z => k_is)
      · refine' Mir.gc_of KX G ?a ?e; (case a => k_is); (case e => rfl)
      · refine' Mir.gc_of KX G ?a ?e; (case a => k_is); (case e => rfl)
      · refine' Mir.gc_of KX G ?a ?e; (case a => k_is); (case e => rfl)
      · refine' Mir.gc_of KX G ?a ?e; (case a => k_is); (case e => rfl)
      · refine' Mir.gc_of KX G ?a ?e; (case a => k_is); (case e => rfl)
      · refine' Mir.gc_of KX G ?a ?e; (case a => k_is); (case e => rfl)
      · refine' Mir.gc_of KX G ?a ?e; (case a => k_is); (case e => rfl)
      · refine' Mir.gt_of KX G ?a ?l ?z ?e; (case a => k_is); (case l => k_is); (case z => decide); (case e => rfl)
      · refine' Mir.gt_of KX G ?a ?l ?z ?e; (case a => k_is); (case l => k_is); (case z => decide); (case e => rfl)
