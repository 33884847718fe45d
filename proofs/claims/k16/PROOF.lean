import PyProof.Rows.All
import Wide.All
import OpenK.AllK
import Wide.FinOn
import HandS.ForMost
import HandS.Flow
import HandS.Style
import HandS.Deep
import HandS.TupAny
import HandS.TupMul
import HandS.Wide
import HandS.Gcd
import HandS.IsInst
import KE.SortData
import KE.OsSortAny
import KE.DataEq
import KE.DataCmp
import KE.DataMinMax
import KE.DataAny
import KE.DataFind
import KE.DataIsa
import KE.DatumIndex
import KE.KTupSum
import HandS.NoneIn
import HandS.Zip
import KE.GoesMore
import HandS.Conv
import HandS.SetFor
import HandS.TupSets
import PyProof.TupleOfSeq
import HandS.ExcValue
import PySem.Challenge.RW_ornamentwright_k16_least_forms_and_sorts
set_option Elab.async false
set_option linter.all false
set_option maxRecDepth 100000
namespace Qv
open PySem PySem.Spec PyProof.Rows L2
/-! ## plain values: the library's own data type; a mark for the script's draws -/
abbrev D := PyData
def tokD : D := .dict [(.none, .none)]
def tokA : D := .dict [(.none, .bool false)]
def scrD : D := .dict [(.none, .bool true)]

/-! ## the two monads of the mirrors -/
class PM (m : Type → Type) extends Monad m where
  run : {α : Type} → m α → (α → Prop) → Prop
  lift : {α : Type} → Option α → m α
  run_pure : ∀ {α : Type} (a : α) (K : α → Prop), run (pure a) K ↔ K a
  run_bind : ∀ {α β : Type} (x : m α) (f : α → m β) (K : β → Prop), run (x >>= f) K ↔ run x (fun a => run (f a) K)
  run_lift : ∀ {α : Type} (o : Option α) (K : α → Prop), run (lift o) K ↔ ∃ r, o = some r ∧ K r
  mono : ∀ {α : Type} {x : m α} {K K' : α → Prop}, (∀ a, K a → K' a) → run x K → run x K'
instance : PM Option where
  run := fun x K => ∃ r, x = some r ∧ K r
  lift := fun o => o
  run_pure := fun a K => ⟨fun ⟨_, e, h⟩ => by cases e; exact h, fun h => ⟨a, rfl, h⟩⟩
  run_bind := fun x f K => by
    cases x with
    | none => exact ⟨fun ⟨_, e, _⟩ => (nomatch e), fun ⟨_, e, _⟩ => (nomatch e)⟩
    | some a => exact ⟨fun h => ⟨a, rfl, h⟩, fun ⟨_, e, h⟩ => by cases e; exact h⟩
  run_lift := fun o K => Iff.rfl
  mono := fun h ⟨r, e, k⟩ => ⟨r, e, h r k⟩
/-- whatever is drawn: what follows is asked of each draw; by computation, or as a proposition -/
structure PP (α : Type) where
  f : (α → Bool) → Bool
  mono : ∀ {K K' : α → Bool}, (∀ a, K a = true → K' a = true) → f K = true → f K' = true
instance : Monad PP where
  pure := fun a => ⟨fun K => K a, fun h k => h _ k⟩
  bind := fun x g => ⟨fun K => x.f fun a => (g a).f K, fun h k => x.mono (fun a q => (g a).mono h q) k⟩
def PP.run {α : Type} (x : PP α) (K : α → Prop) : Prop := ∃ b : α → Bool, (∀ a, b a = true → K a) ∧ x.f b = true
noncomputable def cb {α : Type} (K : α → Prop) (a : α) : Bool := @decide (K a) (Classical.propDecidable _)
theorem cb_t {α : Type} {K : α → Prop} {a : α} : cb K a = true ↔ K a := by unfold cb; exact @decide_eq_true_iff _ (Classical.propDecidable _)
theorem PP.run_iff {α : Type} {x : PP α} {K : α → Prop} : PP.run x K ↔ x.f (cb K) = true :=
  ⟨fun ⟨_, h, e⟩ => x.mono (fun a q => cb_t.mpr (h a q)) e, fun h => ⟨cb K, fun _ => cb_t.mp, h⟩⟩
def PP.lift {α : Type} (o : Option α) : PP α := ⟨fun K => match o with | some r => K r | none => false, fun h k => by cases o with | none => exact k | some r => exact h _ k⟩
instance : PM PP where
  run := PP.run
  lift := PP.lift
  run_pure := fun a K => PP.run_iff.trans cb_t
  run_bind := fun x f K => by
    rw [PP.run_iff, PP.run_iff]
    have e : (cb fun a => PP.run (f a) K) = fun a => (f a).f (cb K) := funext fun a => by
      rw [Bool.eq_iff_iff, cb_t, PP.run_iff]
    rw [e]
    exact Iff.rfl
  run_lift := fun o K => by
    rw [PP.run_iff]
    cases o with
    | none => exact ⟨fun h => (nomatch (show false = true from h)), fun ⟨_, e, _⟩ => (nomatch e)⟩
    | some r => exact ⟨fun h => ⟨r, rfl, cb_t.mp h⟩, fun ⟨_, e, h⟩ => by cases e; exact cb_t.mpr h⟩
  mono := fun h ⟨b, k, e⟩ => ⟨b, fun a q => h a (k a q), e⟩
/-- every number below n -/
def allB (K : Int → Bool) : Nat → Bool
  | 0 => true
  | n + 1 => allB K n && K (n : Int)
theorem allB_iff {K : Int → Bool} : ∀ {n : Nat}, allB K n = true ↔ ∀ d : Int, 0 ≤ d → d < n → K d = true
  | 0 => ⟨fun _ d h h' => by omega, fun _ => rfl⟩
  | n + 1 => by
    rw [allB, Bool.and_eq_true, allB_iff]
    constructor
    · intro ⟨h1, h2⟩ d h h'
      by_cases e : d < n
      · exact h1 d h e
      · have : d = n := by omega
        rw [this]; exact h2
    · exact fun h => ⟨fun d a b => h d a (by omega), h n (by omega) (by omega)⟩
/-- a draw below k -/
def draw (k : Int) : PP D := ⟨fun K => decide (0 < k) && allB (fun d => K (.int d)) k.toNat, fun h q => by
  rw [Bool.and_eq_true] at q ⊢
  exact ⟨q.1, allB_iff.mpr fun d a b => h _ (allB_iff.mp q.2 d a b)⟩⟩
theorem run_draw {k : Int} {K : D → Prop} : PM.run (draw k) K ↔ 0 < k ∧ ∀ d : Int, 0 ≤ d → d < k → K (.int d) := by
  refine PP.run_iff.trans ?_
  show (decide (0 < k) && allB (fun d => cb K (.int d)) k.toNat) = true ↔ _
  rw [Bool.and_eq_true, decide_eq_true_iff, allB_iff]
  constructor
  · exact fun ⟨h, q⟩ => ⟨h, fun d a b => cb_t.mp (q d a (by omega))⟩
  · exact fun ⟨h, q⟩ => ⟨h, fun d a b => cb_t.mpr (q d a (by omega))⟩
/-- by computation -/
theorem run_by {α : Type} {x : PP α} {K : α → Prop} (b : α → Bool) (h : ∀ a, b a = true → K a) (e : x.f b = true) : PM.run x K := ⟨b, h, e⟩

/-! ## loops of the mirrors -/
inductive Out (α : Type) where
  | nx (a : α) | rt (v : D) | bk (a : α) | ct (a : α)
section
variable {m : Type → Type} [PM m] {α β : Type}
def fail : m α := PM.lift none
def forB (f : α → D → m α) : α → List D → m α
  | s, [] => pure s
  | s, x :: xs => f s x >>= fun s' => forB f s' xs
def forO (f : α → D → m (Out α)) : α → List D → m (Out α)
  | s, [] => pure (.nx s)
  | s, x :: xs => f s x >>= fun o => match o with
    | .nx s' => forO f s' xs
    | .ct s' => forO f s' xs
    | .bk s' => pure (.nx s')
    | .rt v => pure (.rt v)
def whB (c : α → m Bool) (f : α → m α) : Nat → α → m α
  | 0, _ => fail
  | n + 1, s => c s >>= fun b => if b = true then f s >>= whB c f n else pure s
def whO (c : α → m Bool) (f : α → m (Out α)) : Nat → α → m (Out α)
  | 0, _ => fail
  | n + 1, s => c s >>= fun b => if b = true then f s >>= fun o => (match o with
    | .nx s' => whO c f n s'
    | .ct s' => whO c f n s'
    | .bk s' => pure (.nx s')
    | .rt v => pure (.rt v)) else pure (.nx s)
/-- [f x for x in xs], [.. if ..] -/
def mapD (f : D → m D) : List D → m (List D)
  | [] => pure []
  | x :: xs => f x >>= fun y => mapD f xs >>= fun ys => pure (y :: ys)
def cmpD (f : D → m (Option D)) : List D → m (List D)
  | [] => pure []
  | x :: xs => f x >>= fun o => cmpD f xs >>= fun ys => pure (match o with | some y => y :: ys | none => ys)
/-- two clauses -/
def catD (f : D → m (List D)) : List D → m (List D)
  | [] => pure []
  | x :: xs => f x >>= fun y => catD f xs >>= fun ys => pure (y ++ ys)
/-- then: behind a block that may return -/
def thenT (k : α → m D) : Out α → m D
  | .nx a => k a
  | .rt v => pure v
  | .bk _ => fail
  | .ct _ => fail
def thenO (k : α → m (Out β)) : Out α → m (Out β)
  | .nx a => k a
  | .rt v => pure (.rt v)
  | .bk _ => fail
  | .ct _ => fail
def un1 (f : D → m β) : List D → m β | [a] => f a | _ => fail
def un2 (f : D → D → m β) : List D → m β | [a, b] => f a b | _ => fail
def un3 (f : D → D → D → m β) : List D → m β | [a, b, c] => f a b c | _ => fail
def un4 (f : D → D → D → D → m β) : List D → m β | [a, b, c, d] => f a b c d | _ => fail
def un5 (f : D → D → D → D → D → m β) : List D → m β | [a, b, c, d, e] => f a b c d e | _ => fail
def un6 (f : D → D → D → D → D → D → m β) : List D → m β | [a, b, c, d, e, g] => f a b c d e g | _ => fail
end

/-! ## targets -/
inductive Pt where
  | n (i : Nat) | t (ps : List Pt)
mutual
def Pt.flat : Pt → D → Option (List D)
  | .n _, x => some [x]
  | .t ps, .tuple xs => Pt.flats ps xs
  | .t ps, .list xs => Pt.flats ps xs
  | .t _, _ => none
def Pt.flats : List Pt → List D → Option (List D)
  | [], [] => some []
  | p :: ps, x :: xs => (Pt.flat p x).bind fun a => (Pt.flats ps xs).map fun b => a ++ b
  | _, _ => none
end
mutual
def Pt.slots : Pt → List Nat
  | .n i => [i]
  | .t ps => Pt.slotss ps
def Pt.slotss : List Pt → List Nat
  | [] => []
  | p :: ps => Pt.slots p ++ Pt.slotss ps
end

theorem ifs {α : Type} {c : Prop} [Decidable c] {x z : α} (h : (if c then some x else none) = some z) : c ∧ x = z := by
  by_cases q : c
  · rw [if_pos q] at h; exact ⟨q, Option.some.inj h⟩
  · rw [if_neg q] at h; cases h
/-! ## operations -/
mutual
/-- nothing in it may change -/
def noMut : D → Bool
  | .none | .bool _ | .int _ | .str _ => true
  | .tuple xs => noMuts xs
  | .list _ => false
  | .dict _ => false
def noMuts : List D → Bool
  | [] => true
  | x :: xs => noMut x && noMuts xs
end
def imm (d : D) : Option D := if noMut d then some d else none
def immL (d : D) : Option D := match d with | .list xs => if noMuts xs then some d else none | _ => none
def line : Nat := sizeLine
def smallI (i : Int) : Bool := decide (-(2 ^ 64) < i) && decide (i < 2 ^ 64)
def dAdd : D → D → Option D
  | .int i, .int j => some (.int (i + j))
  | .tuple xs, .tuple ys => if xs.length + ys.length ≤ sizeLine then some (.tuple (xs ++ ys)) else none
  | .list xs, .list ys => if xs.length + ys.length ≤ sizeLine then some (.list (xs ++ ys)) else none
  | .str a, .str b => if a.length + b.length ≤ sizeLine then some (.str (a ++ b)) else none
  | _, _ => none
def dSub : D → D → Option D
  | .int i, .int j => some (.int (i - j))
  | _, _ => none
def dMul : D → D → Option D
  | .int i, .int j => if smallI i || smallI j || decide (i.natAbs.log2 + j.natAbs.log2 < 1000000) then some (.int (i * j)) else none
  | .list xs, .int k => if decide (-(2 ^ 63) ≤ k) && decide (k < 2 ^ 63) && decide (xs.length * k.toNat ≤ sizeLine) then some (.list (List.replicate k.toNat xs).flatten) else none
  | .tuple xs, .int k => if !xs.isEmpty && decide (2 ≤ k) && decide (k ≤ 1000) && decide (xs.length ≤ 1000) then some (.tuple (List.replicate k.toNat xs).flatten) else none
  | _, _ => none
def dDiv : D → D → Option D
  | .int i, .int j => if decide (j ≠ 0) && (decide (j.natAbs < 1073741824) || (decide (0 < j) && decide (j.natAbs.log2 < 9000))) then some (.int (i.fdiv j)) else none
  | _, _ => none
def dMod : D → D → Option D
  | .int i, .int j => if decide (j ≠ 0) then some (.int (i.fmod j)) else none
  | _, _ => none
def dNeg : D → Option D
  | .int i => some (.int (-i))
  | _ => none
def dTruth : D → Option Bool
  | .none => some false
  | .bool b => some b
  | .int i => some (i != 0)
  | .str s => if s.length ≤ sizeLine then some ((s.length : Int) != 0) else none
  | .list xs => some (!xs.isEmpty)
  | .tuple xs => some (!xs.isEmpty)
  | .dict _ => none
def dIx : D → D → Option D
  | .list xs, .int i => atI xs i
  | .tuple xs, .int i => atI xs i
  | .str s, .int i => if s.length ≤ sizeLine then (atI s.cps.toList i).map fun c => .str ⟨#[c]⟩ else none
  | _, _ => none
def cutD (xs : List D) (lo hi : Option Int) : List D := (xs.drop (HT.sIx xs.length 0 lo)).take (HT.sIx xs.length xs.length hi - HT.sIx xs.length 0 lo)
def cutT (s : Str) (lo hi : Option Int) : Str := cutS s lo hi
def dPart : Option D → Option (Option Int)
  | none => some none
  | some (.int i) => some (some i)
  | _ => none
def dSlice (x : D) (lo hi : Option Int) : Option D := match x with
  | .list xs => some (.list (cutD xs lo hi))
  | .tuple xs => some (.tuple (cutD xs lo hi))
  | .str s => if s.length ≤ sizeLine then some (.str (cutS s lo hi)) else none
  | _ => none
def dLen : D → Option D
  | .list xs => some (.int xs.length)
  | .tuple xs => some (.int xs.length)
  | .str s => if s.length ≤ sizeLine then some (.int s.length) else none
  | _ => none
/-- of like make: what may be compared -/
inductive Sh where
  | bad | i | b | s | vi | li | nil | cons (a r : Sh) | t (r : Sh) | l (r : Sh)
  deriving DecidableEq
def isInts : List D → Bool
  | [] => true
  | .int _ :: xs => isInts xs
  | _ => false
mutual
def cls : D → Sh
  | .none => .bad
  | .bool _ => .b
  | .int _ => .i
  | .str _ => .s
  | .tuple xs => if isInts xs then .vi else .t (clss xs)
  | .list xs => if isInts xs then .li else .l (clss xs)
  | .dict _ => .bad
def clss : List D → Sh
  | [] => .nil
  | x :: xs => .cons (cls x) (clss xs)
end
/-- no bad make within -/
def Sh.ok : Sh → Bool
  | .bad => false
  | .cons a r => a.ok && r.ok
  | .t r => r.ok
  | .l r => r.ok
  | _ => true
def likes : List D → Bool
  | [] => true
  | x :: xs => (cls x).ok && xs.all fun y => decide (cls y = cls x)
def dEq : D → D → Option D
  | .int i, .int j => some (.bool (i == j))
  | a, b => if a.plain && b.plain && decide (min a.depth b.depth ≤ 60) then some (.bool (PyData.eqv a b)) else none
def dNe : D → D → Option D
  | .int i, .int j => some (.bool (!(i == j)))
  | a, b => if a.plain && b.plain && decide (min a.depth b.depth ≤ 60) then some (.bool (!PyData.eqv a b)) else none
def dIn (x : D) : D → Option D
  | .list ys => if x.plain && PyData.plainAll ys && decide (min (PyData.depthAll ys) x.depth ≤ 60) then some (.bool (ys.any fun z => PyData.eqv z x)) else none
  | .tuple ys => if x.plain && PyData.plainAll ys && decide (min (PyData.depthAll ys) x.depth ≤ 60) then some (.bool (ys.any fun z => PyData.eqv z x)) else none
  | _ => none
def dNotIn (x : D) : D → Option D
  | .list ys => if x.plain && PyData.plainAll ys && decide (min (PyData.depthAll ys) x.depth ≤ 60) then some (.bool (!ys.any fun z => PyData.eqv z x)) else none
  | .tuple ys => if x.plain && PyData.plainAll ys && decide (min (PyData.depthAll ys) x.depth ≤ 60) then some (.bool (!ys.any fun z => PyData.eqv z x)) else none
  | _ => none
def likeD (a b : D) : Bool := (cls a).ok && decide (cls a = cls b) && decide (min a.depth b.depth ≤ 60)
def dLt : D → D → Option D
  | .int i, .int j => some (.bool (decide (i < j)))
  | a, b => if likeD a b then some (.bool (W.dataLt a b)) else none
def dGt : D → D → Option D
  | .int i, .int j => some (.bool (decide (j < i)))
  | a, b => if likeD a b then some (.bool (W.dataLt b a)) else none
def dLe : D → D → Option D
  | .int i, .int j => some (.bool (decide (i ≤ j)))
  | a, b => if likeD a b then some (.bool (!W.dataLt b a)) else none
def dGe : D → D → Option D
  | .int i, .int j => some (.bool (decide (j ≤ i)))
  | a, b => if likeD a b then some (.bool (!W.dataLt a b)) else none
/-- what a for walks -/
def dSeq : D → Option (List D)
  | .list xs => some xs
  | .tuple xs => some xs
  | _ => none
def dMinL : List D → Option D
  | [] => none
  | x :: xs => if likes (x :: xs) && decide (PyData.depthAll (x :: xs) ≤ 60) then some (W.minD x xs) else none
def dMaxL : List D → Option D
  | [] => none
  | x :: xs => if likes (x :: xs) && decide (PyData.depthAll (x :: xs) ≤ 60) then some (W.maxD x xs) else none
def dMin (d : D) : Option D := (dSeq d).bind dMinL
def dMax (d : D) : Option D := (dSeq d).bind dMaxL
def dInts : List D → Option (List Int)
  | [] => some []
  | .int i :: xs => (dInts xs).map (i :: ·)
  | _ => none
def dSum (d : D) : Option D := ((dSeq d).bind dInts).map fun ns => .int ns.sum
def dBools : List D → Option (List Bool)
  | [] => some []
  | .bool b :: xs => (dBools xs).map (b :: ·)
  | _ => none
def dAll (d : D) : Option D := ((dSeq d).bind dBools).map fun bs => .bool (bs.all id)
def dAny (d : D) : Option D := ((dSeq d).bind dBools).map fun bs => .bool (bs.any id)
/-- in order: stable, by insertion -/
def insD (le : D → D → Bool) (x : D) : List D → List D
  | [] => [x]
  | y :: ys => if le x y then x :: y :: ys else y :: insD le x ys
def srtD (le : D → D → Bool) : List D → List D
  | [] => []
  | x :: xs => insD le x (srtD le xs)
def leD (a b : D) : Bool := !W.dataLt b a
def sortOk (xs : List D) : Bool := likes xs && decide (PyData.depthAll xs ≤ 60) && xs.all fun x => match x with
  | .tuple [] => false
  | _ => true
def dSorted (d : D) : Option D := match d with
  | .list xs => if sortOk xs then some (.list (srtD leD xs)) else none
  | .tuple xs => if sortOk xs then some (.list (srtD leD xs)) else none
  | _ => none
def dBool : D → Option Bool
  | .bool b => some b
  | _ => none
def dAbs : D → Option D
  | .int i => some (.int (if i < 0 then -i else i))
  | _ => none
def dInt : D → Option D
  | .int i => some (.int i)
  | .bool b => some (.int (if b then 1 else 0))
  | _ => none
def dMin2 : D → D → Option D
  | .int i, .int j => some (.int (if j < i then j else i))
  | _, _ => none
def dMax2 : D → D → Option D
  | .int i, .int j => some (.int (if j > i then j else i))
  | _, _ => none
def dTuple (d : D) : Option D := (dSeq d).map .tuple
def dList (d : D) : Option D := (dSeq d).map .list
def isInt : D → Bool
  | .bool _ => true
  | .int _ => true
  | _ => false
def isStr : D → Bool
  | .str _ => true
  | _ => false
def isBool : D → Bool
  | .bool _ => true
  | _ => false
def isList : D → Bool
  | .list _ => true
  | _ => false
def isTup : D → Bool
  | .tuple _ => true
  | _ => false
def dGcd : D → D → Option D
  | .int a, .int b => some (.int ((Nat.gcd a.natAbs b.natAbs : Nat) : Int))
  | _, _ => none
def isNone : D → Bool
  | .none => true
  | _ => false
def okR (i : Int) : Bool := decide (-(2 ^ 62) ≤ i) && decide (i < 2 ^ 62)
def rgL (lo : Int) (n : Nat) : List D := (List.range n).map fun (k : Nat) => PyData.int (lo + (k : Int))
def sizeL (l : List D) : Option (List D) := if l.length ≤ sizeLine then some l else none
def rng1L : List D → Option (List D)
  | [.int n] => if okR n then some (rgL 0 n.toNat) else none
  | _ => none
def rng2L : List D → Option (List D)
  | [.int a, .int b] => if okR a && okR b then some (rgL a (b - a).toNat) else none
  | _ => none
end Qv

namespace Qv
open PySem PySem.Spec PyProof.Rows L2
/-! ## what stands for plain data in the heap -/
def Mut : Option HO → Prop
  | some (.lst _) => True
  | some (.dK _) => True
  | some (.dT _) => True
  | some (.frz _ (.lst _)) => True
  | _ => False
/-- the draws' own objects. kd 0: none; 1: [k, v] and the script; 2: [cells, seed] -/
structure Tk where
  kd : Nat
  s : Addr
  c : Addr
  scr : Addr
  ns : List Int
  fz : Bool
def Tk.S (T : Tk) (a : Addr) : Prop := (T.kd ≠ 0 ∧ a = T.s) ∨ (T.kd = 1 ∧ T.fz = true ∧ a = T.scr) ∨ (T.kd = 2 ∧ a = T.c)
def Tk.ok (T : Tk) (H : Hp) : Prop :=
  (T.kd = 1 → (∃ k v : Int, 0 ≤ k ∧ 0 ≤ v ∧ H T.s = some (.lst [.int k, .int v])) ∧ (T.fz = true → ∃ o, H T.scr = some (.frz o (.lst (T.ns.map V.int))))) ∧
  (T.kd ≠ 0 → T.kd ≠ 1 → T.kd = 2) ∧
  (T.kd = 2 → ∃ (xs : List Int) (z : Int), 0 ≤ z ∧ (∀ x ∈ xs, 0 ≤ x) ∧ T.s ≠ T.c ∧ H T.s = some (.lst [.ref T.c, .int z]) ∧ H T.c = some (.lst (xs.map V.int)))
theorem Tk.keep (T : Tk) {H H' : Hp} (h : T.ok H) (e : ∀ a, T.S a → H' a = H a) : T.ok H' := by
  obtain ⟨h1, h2, h3⟩ := h
  refine ⟨fun q => ?_, h2, fun q => ?_⟩
  · obtain ⟨⟨k, v, k1, k2, k3⟩, k4⟩ := h1 q
    refine ⟨⟨k, v, k1, k2, by rw [e _ (.inl ⟨by omega, rfl⟩)]; exact k3⟩, fun z => ?_⟩
    obtain ⟨o, k5⟩ := k4 z
    exact ⟨o, by rw [e _ (.inr (.inl ⟨q, z, rfl⟩))]; exact k5⟩
  · obtain ⟨xs, z, k1, k2, k3, k4, k5⟩ := h3 q
    exact ⟨xs, z, k1, k2, k3, by rw [e _ (.inl ⟨by omega, rfl⟩)]; exact k4, by rw [e _ (.inr (.inr ⟨q, rfl⟩))]; exact k5⟩
theorem Tk.mu (T : Tk) {H : Hp} {a : Addr} (h : T.ok H) (q : T.S a) : Mut (H a) := by
  obtain ⟨h1, h2, h3⟩ := h
  rcases q with ⟨q, rfl⟩ | ⟨q, z, rfl⟩ | ⟨q, rfl⟩
  · by_cases q1 : T.kd = 1
    · obtain ⟨⟨k, v, k1, k2, k3⟩, k4⟩ := h1 q1
      rw [k3]; trivial
    · obtain ⟨xs, z, k1, k2, k3, k4, k5⟩ := h3 (h2 q q1)
      rw [k4]; trivial
  · obtain ⟨_, k4⟩ := h1 q
    obtain ⟨o, k5⟩ := k4 z
    rw [k5]; trivial
  · obtain ⟨xs, z, k1, k2, k3, k4, k5⟩ := h3 q
    rw [k5]; trivial
/-- no draws -/
def Tk.no : Tk := ⟨0, 0, 0, 0, [], false⟩
/-- a list of the module's own, known to K -/
def KL (K : PySem.W.Frag) (a : Addr) (xs : List V) : Prop := ∃ (o : Obj) (its : Array Value) (n : Nat), K.lookup a = some o ∧ o.cls = .type "list" ∧ o.dict = none ∧ o.data = .seq its n ∧ its.size ≤ sizeLine ∧ Vals xs its.toList
section
variable (K : PySem.W.Frag) (T : Tk) (A : Addr → Prop) (H : Hp)
mutual
inductive Rep : V → D → Prop
  | non : Rep .non .none
  | bl (b : Bool) : Rep (.bl b) (.bool b)
  | int (i : Int) : Rep (.int i) (.int i)
  | str (x : Str) : Rep (.str x) (.str x)
  | lst {a : Addr} {xs : List V} {ds : List D} : ¬ A a → H a = some (.lst xs) → Reps xs ds → Rep (.ref a) (.list ds)
  | tup {a : Addr} {xs : List V} {ds : List D} : SqT K H a xs → Reps xs ds → Rep (.ref a) (.tuple ds)
  | tok : T.kd = 1 → Rep (.ref T.s) tokD
  | tok2 : T.kd = 2 → Rep (.ref T.s) tokA
  | scr : T.kd = 1 → (T.fz = false → KL K T.scr (T.ns.map V.int)) → Rep (.ref T.scr) scrD
inductive Reps : List V → List D → Prop
  | nil : Reps [] []
  | cons {v : V} {vs : List V} {d : D} {ds : List D} : Rep v d → Reps vs ds → Reps (v :: vs) (d :: ds)
end
end
/-- the addresses A are the owners' own; they may change -/
structure Wd (T : Tk) (A : Addr → Prop) (H : Hp) : Prop where
  ok : T.ok H
  sub : ∀ a, T.S a → A a
  mu : ∀ a, A a → Mut (H a)
/-- all but the draws' objects stays -/
def Step (T : Tk) (H H' : Hp) : Prop := ∀ a o, H a = some o → ¬ T.S a → H' a = some o
/-- all but A stays -/
def StA (A : Addr → Prop) (H H' : Hp) : Prop := ∀ a o, H a = some o → ¬ A a → H' a = some o
section
variable {K : PySem.W.Frag} {T : Tk} {A B : Addr → Prop} {H H' H2 : Hp}
theorem Step.refl : Step T H H := fun _ _ h _ => h
theorem Step.trans (a : Step T H H') (b : Step T H' H2) : Step T H H2 := fun c o h n => b c o (a c o h n) n
theorem StA.refl : StA A H H := fun _ _ h _ => h
theorem StA.trans (a : StA A H H') (b : StA A H' H2) : StA A H H2 := fun c o h n => b c o (a c o h n) n
theorem Step.stA (s : Step T H H') (h : ∀ a, T.S a → A a) : StA A H H' := fun c o e n => s c o e fun q => n (h c q)
theorem StA.weak (s : StA A H H') (h : ∀ a, A a → B a) : StA B H H' := fun c o e n => s c o e fun q => n (h c q)
theorem Wd.step (w : Wd T A H) (s : Step T H H') (ok : T.ok H') : Wd T A H' := ⟨ok, w.sub, fun a ha => by
  by_cases q : T.S a
  · exact T.mu ok q
  · have m := w.mu a ha
    cases e : H a with
    | none => rw [e] at m; exact m.elim
    | some o => rw [s a o e q]; rw [e] at m; exact m⟩
theorem Wd.tup {a : Addr} {xs : List V} (w : Wd T A H) (h : H a = some (.tup xs)) : ¬ A a := fun q => by
  have m := w.mu a q
  rw [h] at m
  exact m
theorem Wd.new {a : Addr} (w : Wd T A H) (h : H a = none) : ¬ A a := fun q => by
  have m := w.mu a q
  rw [h] at m
  exact m
theorem step_new {p : Addr} {o : HO} (h : H p = none) : Step T H (upd H p o) := fun a u e _ => by
  rw [upd_ne (ne_of_none e h)]; exact e
theorem Wd.laid {p : Addr} {o : HO} (w : Wd T A H) (h : H p = none) : Wd T A (upd H p o) := w.step (step_new h) (T.keep w.ok fun a q => upd_ne (fun e => by
  subst e
  have m := w.mu a (w.sub a q)
  rw [h] at m
  exact m))
theorem sqL_keep {a : Addr} {xs : List V} (h : SqL K H a xs) (s : ∀ o, H a = some o → H' a = some o) : SqL K H' a xs := by
  rcases h with (h | ⟨o, h⟩) | h
  · exact .inl (.inl (s _ h))
  · exact .inl (.inr ⟨o, s _ h⟩)
  · exact .inr h
theorem sqT_keep {a : Addr} {xs : List V} (h : SqT K H a xs) (s : ∀ o, H a = some o → H' a = some o) : SqT K H' a xs := by
  rcases h with (h | ⟨o, h⟩) | h
  · exact .inl (.inl (s _ h))
  · exact .inl (.inr ⟨o, s _ h⟩)
  · exact .inr h
/-- what A holds is new or may change -/
def MuN (A : Addr → Prop) (H : Hp) : Prop := ∀ a, A a → H a = none ∨ Mut (H a)
theorem Wd.mun (w : Wd T A H) : MuN A H := fun a q => .inr (w.mu a q)
theorem sqT_stA {a : Addr} {xs : List V} (w : MuN A H) (h : SqT K H a xs) (s : StA A H H') : SqT K H' a xs := by
  rcases h with (h | ⟨o, h⟩) | h
  · refine .inl (.inl (s _ _ h fun q => ?_))
    rcases w a q with e | m
    · rw [h] at e; cases e
    · rw [h] at m; exact m
  · refine .inl (.inr ⟨o, s _ _ h fun q => ?_⟩)
    rcases w a q with e | m
    · rw [h] at e; cases e
    · rw [h] at m; exact m
  · exact .inr h
mutual
theorem Rep.stA (w : MuN A H) (s : StA A H H') : ∀ {v : V} {d : D}, Rep K T A H v d → Rep K T A H' v d
  | _, _, .non => .non
  | _, _, .bl b => .bl b
  | _, _, .int i => .int i
  | _, _, .str x => .str x
  | _, _, .lst n h r => .lst n (s _ _ h n) (Reps.stA w s r)
  | _, _, .tup h r => .tup (sqT_stA w h s) (Reps.stA w s r)
  | _, _, .tok h => .tok h
  | _, _, .tok2 h => .tok2 h
  | _, _, .scr h h' => .scr h h'
theorem Reps.stA (w : MuN A H) (s : StA A H H') : ∀ {vs : List V} {ds : List D}, Reps K T A H vs ds → Reps K T A H' vs ds
  | _, _, .nil => .nil
  | _, _, .cons h r => .cons (Rep.stA w s h) (Reps.stA w s r)
end
mutual
theorem Rep.weak (s : ∀ a, B a → A a) : ∀ {v : V} {d : D}, Rep K T A H v d → Rep K T B H v d
  | _, _, .non => .non
  | _, _, .bl b => .bl b
  | _, _, .int i => .int i
  | _, _, .str x => .str x
  | _, _, .lst n h r => .lst (fun q => n (s _ q)) h (Reps.weak s r)
  | _, _, .tup h r => .tup h (Reps.weak s r)
  | _, _, .tok h => .tok h
  | _, _, .tok2 h => .tok2 h
  | _, _, .scr h h' => .scr h h'
theorem Reps.weak (s : ∀ a, B a → A a) : ∀ {vs : List V} {ds : List D}, Reps K T A H vs ds → Reps K T B H vs ds
  | _, _, .nil => .nil
  | _, _, .cons h r => .cons (Rep.weak s h) (Reps.weak s r)
end
mutual
/-- new addresses are in nothing that stands -/
theorem Rep.ext (h : ∀ a, B a → A a ∨ H a = none) : ∀ {v : V} {d : D}, Rep K T A H v d → Rep K T B H v d
  | _, _, .non => .non
  | _, _, .bl b => .bl b
  | _, _, .int i => .int i
  | _, _, .str x => .str x
  | _, _, .lst n e r => .lst (fun q => (h _ q).elim n fun z => by rw [e] at z; cases z) e (Reps.ext h r)
  | _, _, .tup e r => .tup e (Reps.ext h r)
  | _, _, .tok h => .tok h
  | _, _, .tok2 h => .tok2 h
  | _, _, .scr h h' => .scr h h'
theorem Reps.ext (h : ∀ a, B a → A a ∨ H a = none) : ∀ {vs : List V} {ds : List D}, Reps K T A H vs ds → Reps K T B H vs ds
  | _, _, .nil => .nil
  | _, _, .cons e r => .cons (Rep.ext h e) (Reps.ext h r)
end
theorem Rep.step {v : V} {d : D} (w : Wd T A H) (r : Rep K T A H v d) (s : Step T H H') : Rep K T A H' v d := r.stA w.mun (s.stA w.sub)
theorem Reps.step {v : List V} {d : List D} (w : Wd T A H) (r : Reps K T A H v d) (s : Step T H H') : Reps K T A H' v d := r.stA w.mun (s.stA w.sub)
theorem Reps.length : ∀ {vs : List V} {ds : List D}, Reps K T A H vs ds → vs.length = ds.length
  | _, _, .nil => rfl
  | _, _, .cons _ r => by rw [List.length_cons, List.length_cons, Reps.length r]
theorem Reps.append : ∀ {vs us : List V} {ds es : List D}, Reps K T A H vs ds → Reps K T A H us es → Reps K T A H (vs ++ us) (ds ++ es)
  | _, _, _, _, .nil, q => q
  | _, _, _, _, .cons h r, q => .cons h (Reps.append r q)
theorem Reps.get : ∀ {vs : List V} {ds : List D} {i : Nat} {d : D}, Reps K T A H vs ds → ds[i]? = some d → ∃ v, vs[i]? = some v ∧ Rep K T A H v d
  | _, _, _, _, .nil, e => by simp at e
  | _, _, 0, _, .cons h r, e => by simp at e; subst e; exact ⟨_, rfl, h⟩
  | _, _, i + 1, d, .cons h r, e => by
    obtain ⟨v, h1, h2⟩ := Reps.get (i := i) (d := d) r (by simpa using e)
    exact ⟨v, by simpa using h1, h2⟩
theorem Reps.get' : ∀ {vs : List V} {ds : List D} {i : Nat} {v : V}, Reps K T A H vs ds → vs[i]? = some v → ∃ d, ds[i]? = some d ∧ Rep K T A H v d
  | _, _, _, _, .nil, e => by simp at e
  | _, _, 0, _, .cons h r, e => by simp at e; subst e; exact ⟨_, rfl, h⟩
  | _, _, i + 1, v, .cons h r, e => by
    obtain ⟨d, h1, h2⟩ := Reps.get' (i := i) (v := v) r (by simpa using e)
    exact ⟨d, by simpa using h1, h2⟩
theorem Reps.take : ∀ {vs : List V} {ds : List D} (n : Nat), Reps K T A H vs ds → Reps K T A H (vs.take n) (ds.take n)
  | _, _, 0, _ => .nil
  | _, _, _ + 1, .nil => .nil
  | _, _, n + 1, .cons h r => .cons h (Reps.take n r)
theorem Reps.drop : ∀ {vs : List V} {ds : List D} (n : Nat), Reps K T A H vs ds → Reps K T A H (vs.drop n) (ds.drop n)
  | _, _, 0, r => r
  | _, _, _ + 1, .nil => .nil
  | _, _, n + 1, .cons h r => Reps.drop n r
theorem Reps.set : ∀ {vs : List V} {ds : List D} {v : V} {d : D} (n : Nat), Reps K T A H vs ds → Rep K T A H v d → Reps K T A H (vs.set n v) (ds.set n d)
  | _, _, _, _, _, .nil, _ => .nil
  | _, _, _, _, 0, .cons h r, q => .cons q r
  | _, _, _, _, n + 1, .cons h r, q => .cons h (Reps.set n r q)
theorem Reps.reverse : ∀ {vs : List V} {ds : List D}, Reps K T A H vs ds → Reps K T A H vs.reverse ds.reverse
  | _, _, .nil => .nil
  | _, _, .cons h r => by
    rw [List.reverse_cons, List.reverse_cons]
    exact (Reps.reverse r).append (.cons h .nil)
theorem Reps.flat {vs : List V} {ds : List D} (r : Reps K T A H vs ds) : ∀ n : Nat, Reps K T A H (List.replicate n vs).flatten (List.replicate n ds).flatten
  | 0 => .nil
  | n + 1 => by
    rw [List.replicate_succ, List.replicate_succ, List.flatten_cons, List.flatten_cons]
    exact r.append (Reps.flat r n)
mutual
/-- what cannot change avoids everything -/
theorem Rep.imm : ∀ {v : V} {d : D}, Rep K T A H v d → noMut d = true → Rep K T B H v d
  | _, _, .non, _ => .non
  | _, _, .bl b, _ => .bl b
  | _, _, .int i, _ => .int i
  | _, _, .str x, _ => .str x
  | _, _, .lst n h r, e => by simp [noMut] at e
  | _, _, .tup h r, e => .tup h (Reps.imm r (by simpa [noMut] using e))
  | _, _, .tok _, e => by simp [noMut, tokD] at e
  | _, _, .tok2 _, e => by simp [noMut, tokA] at e
  | _, _, .scr _ _, e => by simp [noMut, scrD] at e
theorem Reps.imm : ∀ {vs : List V} {ds : List D}, Reps K T A H vs ds → noMuts ds = true → Reps K T B H vs ds
  | _, _, .nil, _ => .nil
  | _, _, .cons h r, e => by
    simp only [noMuts, Bool.and_eq_true] at e
    exact .cons (Rep.imm h e.1) (Reps.imm r e.2)
end
end
end Qv

namespace Qv
open PySem PySem.Spec PyProof.Rows L2
/-! ## readings may be narrowed -/
section
variable {X : Cx}
theorem imE {e : Expr} {t t' : TE} (h : PE X e t) (i : ∀ σ H Q, t' σ H Q → t σ H Q) : PE X e t' := ⟨fun pins s σ H Q I q => h.run pins s σ H Q I (i σ H Q q)⟩
theorem imT {e : Expr} {t t' : TT} (h : PT X e t) (i : ∀ σ H Q, t' σ H Q → t σ H Q) : PT X e t' := ⟨fun pins s σ H Q I q => h.run pins s σ H Q I (i σ H Q q)⟩
theorem imW {e : Expr} {t t' : TT} (h : PW X e t) (i : ∀ σ H Q, t' σ H Q → t σ H Q) : PW X e t' := ⟨fun wh pins s σ H Q I q => h.run wh pins s σ H Q I (i σ H Q q)⟩
theorem imA {e : List Expr} {t t' : TA} (h : PA X e t) (i : ∀ σ H Q, t' σ H Q → t σ H Q) : PA X e t' := ⟨fun pos pins s σ H Q I q => h.run pos pins s σ H Q I (i σ H Q q)⟩
theorem imI {tg e : Expr} {t t' : TI} (h : PI X tg e t) (i : ∀ σ H Q, t' σ H Q → t σ H Q) : PI X tg e t' := ⟨fun pins s σ H Q I q => h.run pins s σ H Q I (i σ H Q q)⟩
theorem imS {e : Stmt} {t t' : TS} (h : PS X e t) (i : ∀ D σ H, t' D σ H → t D σ H) : PS X e t' := ⟨fun pins s σ H Q I q => h.run pins s σ H Q I (i Q σ H q)⟩
theorem imSs {e : List Stmt} {t t' : TS} (h : PSs X e t) (i : ∀ D σ H, t' D σ H → t D σ H) : PSs X e t' := ⟨fun pins s σ H Q I q => h.run pins s σ H Q I (i Q σ H q)⟩
end

/-! ## the names' values -/
abbrev Rh := List (Option D)
def rAt : Rh → Nat → Option D
  | [], _ => none
  | x :: _, 0 => x
  | _ :: xs, n + 1 => rAt xs n
def rPut : Rh → Nat → D → Rh
  | [], _, _ => []
  | _ :: xs, 0, d => some d :: xs
  | x :: xs, n + 1, d => x :: rPut xs n d
structure Ev (K : PySem.W.Frag) (T : Tk) (A : Addr → Prop) (ρ : Rh) (σ : L2.St) (H : Hp) : Prop where
  len : ρ.length = σ.length
  val : ∀ i p, rAt ρ i = some p → ∃ v, σ[i]? = some (some v) ∧ Rep K T A H v p
def rCut1 : Rh → Nat → Rh
  | [], _ => []
  | _ :: xs, 0 => none :: xs
  | x :: xs, n + 1 => x :: rCut1 xs n
def rCut (ρ : Rh) : List Nat → Rh
  | [] => ρ
  | v :: vs => rCut1 (rCut ρ vs) v
def rPuts : Rh → List Nat → List D → Rh
  | ρ, i :: is, d :: ds => rPuts (rPut ρ i d) is ds
  | ρ, _, _ => ρ
theorem rPut_len : ∀ (ρ : Rh) (i : Nat) (d : D), (rPut ρ i d).length = ρ.length
  | [], _, _ => rfl
  | _ :: _, 0, _ => rfl
  | _ :: xs, n + 1, d => by rw [rPut, List.length_cons, rPut_len xs n d, List.length_cons]
theorem rCut1_len : ∀ (ρ : Rh) (i : Nat), (rCut1 ρ i).length = ρ.length
  | [], _ => rfl
  | _ :: _, 0 => rfl
  | _ :: xs, n + 1 => by rw [rCut1, List.length_cons, rCut1_len xs n, List.length_cons]
theorem rCut_len (ρ : Rh) : ∀ vs : List Nat, (rCut ρ vs).length = ρ.length
  | [] => rfl
  | v :: vs => by rw [rCut, rCut1_len, rCut_len ρ vs]
theorem rAt_put : ∀ (ρ : Rh) (i j : Nat) (d : D), rAt (rPut ρ i d) j = if j = i then (if i < ρ.length then some d else none) else rAt ρ j
  | [], i, j, d => by simp [rPut, rAt]
  | x :: xs, 0, 0, d => by simp [rPut, rAt]
  | x :: xs, 0, j + 1, d => by simp [rPut, rAt]
  | x :: xs, i + 1, 0, d => by simp [rPut, rAt]
  | x :: xs, i + 1, j + 1, d => by simp [rPut, rAt, rAt_put xs i j d]
theorem rAt_cut1 : ∀ (ρ : Rh) (i j : Nat), rAt (rCut1 ρ i) j = if j = i then none else rAt ρ j
  | [], i, j => by simp [rCut1, rAt]
  | x :: xs, 0, 0 => by simp [rCut1, rAt]
  | x :: xs, 0, j + 1 => by simp [rCut1, rAt]
  | x :: xs, i + 1, 0 => by simp [rCut1, rAt]
  | x :: xs, i + 1, j + 1 => by simp [rCut1, rAt, rAt_cut1 xs i j]
theorem rAt_cut (ρ : Rh) (j : Nat) : ∀ vs : List Nat, rAt (rCut ρ vs) j = if j ∈ vs then none else rAt ρ j
  | [] => by simp [rCut]
  | v :: vs => by
    rw [rCut, rAt_cut1, rAt_cut ρ j vs]
    by_cases h : j = v
    · simp [h]
    · by_cases h2 : j ∈ vs <;> simp [h, h2]
section
variable {K : PySem.W.Frag} {T : Tk} {A : Addr → Prop} {H H' : Hp}
theorem Ev.step {ρ : Rh} {σ : L2.St} (w : Wd T A H) (e : Ev K T A ρ σ H) (s : Step T H H') : Ev K T A ρ σ H' := ⟨e.len, fun i p h => by
  obtain ⟨v, h1, h2⟩ := e.val i p h
  exact ⟨v, h1, h2.step w s⟩⟩
theorem Ev.put {ρ : Rh} {σ : L2.St} {i : Nat} {v : V} {d : D} (e : Ev K T A ρ σ H) (r : Rep K T A H v d) : Ev K T A (rPut ρ i d) (σ.set i (some v)) H := ⟨by rw [rPut_len, List.length_set, e.len], fun j p h => by
  rw [rAt_put] at h
  by_cases hj : j = i
  · rw [if_pos hj] at h
    subst hj
    by_cases hl : j < ρ.length
    · rw [if_pos hl] at h
      cases h
      exact ⟨v, List.getElem?_set_self (by rw [← e.len]; exact hl), r⟩
    · rw [if_neg hl] at h; cases h
  · rw [if_neg hj] at h
    obtain ⟨u, h1, h2⟩ := e.val j p h
    exact ⟨u, by rw [List.getElem?_set_ne (Ne.symm hj)]; exact h1, h2⟩⟩
theorem Ev.cut {ρ : Rh} {σ : L2.St} (e : Ev K T A ρ σ H) (vs : List Nat) : Ev K T A (rCut ρ vs) (wipe σ vs) H := ⟨by rw [rCut_len, wipe_length, e.len], fun j p h => by
  rw [rAt_cut] at h
  by_cases hj : j ∈ vs
  · rw [if_pos hj] at h; cases h
  · rw [if_neg hj] at h
    obtain ⟨u, h1, h2⟩ := e.val j p h
    exact ⟨u, by rw [wipe_out hj]; exact h1, h2⟩⟩
theorem Ev.ext {B : Addr → Prop} {ρ : Rh} {σ : L2.St} (e : Ev K T A ρ σ H) (h : ∀ a, B a → A a ∨ H a = none) : Ev K T B ρ σ H := ⟨e.len, fun j p q => by
  obtain ⟨u, h1, h2⟩ := e.val j p q
  exact ⟨u, h1, h2.ext h⟩⟩
theorem Ev.stA {ρ : Rh} {σ : L2.St} (w : MuN A H) (e : Ev K T A ρ σ H) (s : StA A H H') : Ev K T A ρ σ H' := ⟨e.len, fun i p h => by
  obtain ⟨v, h1, h2⟩ := e.val i p h
  exact ⟨v, h1, h2.stA w s⟩⟩
end
structure Post (K : PySem.W.Frag) (T : Tk) (A : Addr → Prop) (H H' : Hp) (p : D) (v : V) : Prop where
  st : Step T H H'
  ok : T.ok H'
  rp : Rep K T A H' v p
section
variable {K : PySem.W.Frag} {T : Tk} {A : Addr → Prop} {H H' H2 : Hp} {p : D} {v : V}
theorem Post.same (w : Wd T A H) (r : Rep K T A H v p) : Post K T A H H p v := ⟨.refl, w.ok, r⟩
theorem Post.after (q : Post K T A H' H2 p v) (s : Step T H H') : Post K T A H H2 p v := ⟨s.trans q.st, q.ok, q.rp⟩
theorem Post.wd (q : Post K T A H H' p v) (w : Wd T A H) : Wd T A H' := w.step q.st q.ok
theorem Post.tup {a : Addr} {xs : List V} {ds : List D} (w : Wd T A H) (n : H a = none) (r : Reps K T A H xs ds) : Post K T A H (upd H a (.tup xs)) (.tuple ds) (.ref a) :=
  ⟨step_new n, (w.laid n).ok, .tup (SqT.of upd_same) (r.step w (step_new n))⟩
theorem Post.lst {a : Addr} {xs : List V} {ds : List D} (w : Wd T A H) (n : H a = none) (r : Reps K T A H xs ds) : Post K T A H (upd H a (.lst xs)) (.list ds) (.ref a) :=
  ⟨step_new n, (w.laid n).ok, .lst (w.new n) upd_same (r.step w (step_new n))⟩
end

/-! ## the judgements -/
section
variable {m : Type → Type} [PM m]
def tE (K : PySem.W.Frag) (ρ : Rh) (x : m D) : TE := fun σ H Q => ∃ T A, Wd T A H ∧ Ev K T A ρ σ H ∧ PM.run x fun p => ∀ v H', Post K T A H H' p v → Q v H'
def tL (K : PySem.W.Frag) (ρ : Rh) (x : m (List D)) : TA := fun σ H Q => ∃ T A, Wd T A H ∧ Ev K T A ρ σ H ∧ PM.run x fun ps => ∀ vs H', Step T H H' → T.ok H' → Reps K T A H' vs ps → Q vs H'
def tP (K : PySem.W.Frag) (ρ : Rh) (x : m Bool) : TT := fun σ H Q => ∃ T A, Wd T A H ∧ Ev K T A ρ σ H ∧ PM.run x fun b => ∀ H', Step T H H' → T.ok H' → Q b H'
abbrev VE (X : Cx) (ρ : Rh) (e : Expr) (x : m D) : Prop := PE X e (tE X.K ρ x)
structure VA (X : Cx) (ρ : Rh) (es : List Expr) (x : m (List D)) : Prop where
  pa : PA X es (tL X.K ρ x)
  ln : ∀ K : List D → Prop, PM.run x K → PM.run x fun l => K l ∧ l.length = es.length
abbrev VP (X : Cx) (ρ : Rh) (e : Expr) (x : m Bool) : Prop := PT X e (tP X.K ρ x)
abbrev VW (X : Cx) (ρ : Rh) (e : Expr) (x : m Bool) : Prop := PW X e (tP X.K ρ x)
end
section
variable {m : Type → Type} [PM m] {X : Cx} {ρ : Rh} {a b e : Expr} {es : List Expr} {xa xb : m D} {xs : m (List D)} {pos : Pos}
/-- one thing after another -/
theorem seqE {K : PySem.W.Frag} {σ : L2.St} {H : Hp} {f : D → m D} {Q : VK} {R : V → Hp → Prop} (h : tE K ρ (xa >>= f) σ H Q)
    (k : ∀ T A v H1 p, Wd T A H1 → Ev K T A ρ σ H1 → Rep K T A H1 v p → (PM.run (f p) fun p => ∀ v H', Post K T A H1 H' p v → Q v H') → R v H1) : tE K ρ xa σ H R := by
  obtain ⟨T, A, w, ev, h⟩ := h
  rw [PM.run_bind] at h
  refine ⟨T, A, w, ev, PM.mono (fun p h v H1 q => ?_) h⟩
  exact k T A v H1 p (q.wd w) (ev.step w q.st) q.rp (PM.mono (fun p2 h2 v2 H2 q2 => h2 v2 H2 (q2.after q.st)) h)
theorem tE_intro {K : PySem.W.Frag} {T : Tk} {A : Addr → Prop} {σ : L2.St} {H : Hp} {Q : VK} {x : m D} (w : Wd T A H) (ev : Ev K T A ρ σ H) (h : PM.run x fun p => ∀ v H', Post K T A H H' p v → Q v H') : tE K ρ x σ H Q := ⟨T, A, w, ev, h⟩
/-! ### names, constants -/
theorem VE.var (i : Nat) {x : Str} {p : D} (hr : rAt ρ i = some p := by rfl) (hN : X.N[i]? = some x := by rfl) (hv : Vis X.env.scope x := by first | exact Or.inl rfl | exact Or.inr (Or.inl rfl) | exact Or.inr (Or.inr rfl)) (hd : (x == ("__debug__" : Str)) = false := by decide)
    (hcd : (x == ("__classdict__" : Str)) = false := by decide) : VE (m := m) X ρ (.Name x pos) (pure p) :=
  imE (pe_var hN hv hd hcd) fun σ H Q ⟨T, A, w, ev, h⟩ => by
    obtain ⟨v, h1, h2⟩ := ev.val i p hr
    exact ⟨v, h1, (PM.run_pure _ _).mp h v H (.same w h2)⟩
theorem veC {v : V} {d : D} (h : PE X e (tC v)) (r : ∀ T A H, Rep X.K T A H v d) : VE (m := m) X ρ e (pure d) :=
  imE h fun σ H Q ⟨T, A, w, ev, h⟩ => (PM.run_pure _ _).mp h v H (.same w (r T A H))
theorem VE.int {i : Int} {j : Nat} : VE (m := m) X ρ (.Constant (.int i) j pos) (pure (.int i)) := veC pe_int fun _ _ _ => .int i
theorem VE.bl {i : Bool} {j : Nat} : VE (m := m) X ρ (.Constant (.bool i) j pos) (pure (.bool i)) := veC pe_bl fun _ _ _ => .bl i
theorem VE.non {j : Nat} : VE (m := m) X ρ (.Constant .none j pos) (pure .none) := veC pe_non fun _ _ _ => .non
theorem VE.str {i : Str} {j : Nat} : VE (m := m) X ρ (.Constant (.str i) j pos) (pure (.str i)) := veC pe_str fun _ _ _ => .str i
theorem VE.negc {i : Int} {j : Nat} {p2 : Pos} : VE (m := m) X ρ (.UnaryOp .USub (.Constant (.int i) j p2) pos) (pure (.int (-i))) :=
  imE (pe_un un_neg pe_int) fun σ H Q ⟨T, A, w, ev, h⟩ => ⟨i, rfl, (PM.run_pure _ _).mp h _ H (.same w (.int _))⟩
/-! ### arguments, displays -/
theorem VA.nil : VA (m := m) X ρ [] (pure []) := ⟨imA pa_nil fun σ H Q ⟨T, A, w, ev, h⟩ => (PM.run_pure _ _).mp h [] H .refl w.ok .nil, fun K h => (PM.run_pure _ _).mpr ⟨(PM.run_pure _ _).mp h, rfl⟩⟩
theorem VA.cons (ha : VE X ρ e xa) (hr : VA X ρ es xs) (hs : starEach (e :: es) X.env = (false, eval e X.env) :: starEach es X.env := by rfl) : VA X ρ (e :: es) (xa >>= fun a => xs >>= fun l => pure (a :: l)) :=
  ⟨imA (pa_cons ha hr.pa hs) fun σ H Q ⟨T, A, w, ev, h⟩ => by
    rw [PM.run_bind] at h
    refine ⟨T, A, w, ev, PM.mono (fun p h v H1 q => ?_) h⟩
    rw [PM.run_bind] at h
    refine ⟨T, A, q.wd w, ev.step w q.st, PM.mono (fun ps h vs H2 s2 o2 r2 => ?_) h⟩
    exact (PM.run_pure _ _).mp h _ _ (q.st.trans s2) o2 (.cons (q.rp.step (q.wd w) s2) r2), fun K h => by
    rw [PM.run_bind] at h ⊢
    refine PM.mono (fun p h => ?_) h
    rw [PM.run_bind] at h ⊢
    refine PM.mono (fun ps h => ?_) (hr.ln _ h)
    rw [PM.run_pure] at h ⊢
    exact ⟨h.1, by rw [List.length_cons, List.length_cons, h.2]⟩⟩
/-- constants -/
theorem VA.consC {d : D} {ds : List D} (ha : VE (m := m) X ρ e (pure d)) (hr : VA (m := m) X ρ es (pure ds)) (hs : starEach (e :: es) X.env = (false, eval e X.env) :: starEach es X.env := by rfl) : VA (m := m) X ρ (e :: es) (pure (d :: ds)) :=
  ⟨imA (VA.cons ha hr hs).pa fun σ H Q ⟨T, A, w, ev, h⟩ => ⟨T, A, w, ev, by
    rw [PM.run_bind, PM.run_pure, PM.run_bind, PM.run_pure]
    exact h⟩, fun K h => by
    have e2 := (PM.run_pure _ _).mp (hr.ln (fun _ => True) ((PM.run_pure _ _).mpr trivial))
    rw [PM.run_pure] at h ⊢
    exact ⟨h, by rw [List.length_cons, List.length_cons, e2.2]⟩⟩
theorem VE.tup {k : Nat} (h : VA X ρ es xs) (hz : es.length ≤ sizeLine := by decide) : VE X ρ (.Tuple es k pos) (xs >>= fun l => pure (.tuple l)) :=
  imE (pe_tup h.pa) fun σ H Q ⟨T, A, w, ev, q⟩ => by
    rw [PM.run_bind] at q
    refine ⟨T, A, w, ev, PM.mono (fun ps q vs H2 s2 o2 r2 => ?_) (h.ln _ q)⟩
    obtain ⟨q, hl⟩ := q
    refine ⟨by rw [r2.length, hl]; exact hz, fun p np => ?_⟩
    exact (PM.run_pure _ _).mp q _ _ ((Post.tup (w.step s2 o2) np r2).after s2)
theorem VE.lst (h : VA X ρ es xs) (hz : es.length ≤ sizeLine := by decide) : VE X ρ (.List es pos) (xs >>= fun l => pure (.list l)) :=
  imE (pe_lst h.pa) fun σ H Q ⟨T, A, w, ev, q⟩ => by
    rw [PM.run_bind] at q
    refine ⟨T, A, w, ev, PM.mono (fun ps q vs H2 s2 o2 r2 => ?_) (h.ln _ q)⟩
    obtain ⟨q, hl⟩ := q
    refine ⟨by rw [r2.length, hl]; exact hz, fun p np => ?_⟩
    exact (PM.run_pure _ _).mp q _ _ ((Post.lst (w.step s2 o2) np r2).after s2)
theorem tE_pure {K : PySem.W.Frag} {σ : L2.St} {H : Hp} {Q : VK} {α : Type} {d : α} {f : α → m D} (h : tE K ρ (f d) σ H Q) : tE K ρ ((pure d : m α) >>= f) σ H Q := by
  obtain ⟨T, A, w, ev, q⟩ := h
  exact ⟨T, A, w, ev, by rw [PM.run_bind, PM.run_pure]; exact q⟩
theorem VE.tupC {k : Nat} {ds : List D} (h : VA (m := m) X ρ es (pure ds)) (hz : es.length ≤ sizeLine := by decide) : VE (m := m) X ρ (.Tuple es k pos) (pure (.tuple ds)) :=
  imE (VE.tup h hz) fun _ _ _ q => tE_pure (f := fun l => pure (.tuple l)) q
theorem VE.lstC {ds : List D} (h : VA (m := m) X ρ es (pure ds)) (hz : es.length ≤ sizeLine := by decide) : VE (m := m) X ρ (.List es pos) (pure (.list ds)) :=
  imE (VE.lst h hz) fun _ _ _ q => tE_pure (f := fun l => pure (.list l)) q
/-! ### operators, by what they ask of plain values -/
def OkR (K : PySem.W.Frag) (f : D → D → Option D) (r : R2) : Prop := ∀ (T : Tk) (A : Addr → Prop) (H : Hp) (x y : V) (p q d : D) (Q : VK), Wd T A H → Rep K T A H x p → Rep K T A H y q → f p q = some d → (∀ v H', Post K T A H H' d v → Q v H') → r x y H Q
def OkU (K : PySem.W.Frag) (f : D → Option D) (r : V → Hp → VK → Prop) : Prop := ∀ (T : Tk) (A : Addr → Prop) (H : Hp) (x : V) (p d : D) (Q : VK), Wd T A H → Rep K T A H x p → f p = some d → (∀ v H', Post K T A H H' d v → Q v H') → r x H Q
def OkC (K : PySem.W.Frag) (f : List D → Option D) (r : List V → Hp → VK → Prop) : Prop := ∀ (T : Tk) (A : Addr → Prop) (H : Hp) (xs : List V) (ps : List D) (d : D) (Q : VK), Wd T A H → Reps K T A H xs ps → f ps = some d → (∀ v H', Post K T A H H' d v → Q v H') → r xs H Q
/-- the reading of two things and an operator -/
theorem tOp2 {K : PySem.W.Frag} {f : D → D → Option D} {r : R2} (hr : OkR K f r) {σ : L2.St} {H : Hp} {Q : VK} (h : tE K ρ (xa >>= fun p => xb >>= fun q => PM.lift (f p q)) σ H Q) : tOp r (tE K ρ xa) (tE K ρ xb) σ H Q := by
  refine seqE h fun T A v H1 p w ev rp h => ?_
  rw [PM.run_bind] at h
  refine ⟨T, A, w, ev, PM.mono (fun q h v2 H2 o2 => ?_) h⟩
  obtain ⟨d, e, h⟩ := (PM.run_lift _ _).mp h
  exact hr T A H2 v v2 p q d Q (o2.wd w) (rp.step w o2.st) o2.rp e fun v3 H3 o3 => h v3 H3 (o3.after o2.st)
theorem VE.op {op : Operator} {r : R2} {f : D → D → Option D} (ho : OpR X (binaryOp op) r) (hr : OkR X.K f r) (ha : VE X ρ a xa) (hb : VE X ρ b xb) : VE X ρ (.BinOp a op b pos) (xa >>= fun p => xb >>= fun q => PM.lift (f p q)) :=
  imE (pe_op ho ha hb) fun _ _ _ h => tOp2 hr h
theorem VE.un {op : UnaryOp} {r : V → Hp → VK → Prop} {f : D → Option D} (ho : UnR X (unaryOp op) r) (hr : OkU X.K f r) (ha : VE X ρ a xa) : VE X ρ (.UnaryOp op a pos) (xa >>= fun p => PM.lift (f p)) :=
  imE (pe_un ho ha) fun σ H Q h => seqE h fun T A v H1 p w ev rp h => by
    obtain ⟨d, e, h⟩ := (PM.run_lift _ _).mp h
    exact hr T A H1 v p d Q w rp e h
theorem VE.cmp {op : CmpOp} {r : R2} {f : D → D → Option D} (ho : OpR X (compareOp op) r) (hr : OkR X.K f r) (ha : VE X ρ a xa) (hb : VE X ρ b xb) (hm : behindInMarks op b = false) : VE X ρ (.Compare a [op] [b] pos) (xa >>= fun p => xb >>= fun q => PM.lift (f p q)) :=
  imE (pe_cmpR ho ha hb hm) fun _ _ _ h => tOp2 hr h
theorem VP.cmp {op : CmpOp} {r : R2} {f : D → D → Option D} (ho : OpR X (compareOp op) r) (hr : OkR X.K f r) (ha : VE X ρ a xa) (hb : VE X ρ b xb) (hm : behindInMarks op b = false) : VP X ρ (.Compare a [op] [b] pos) (xa >>= fun p => xb >>= fun q => PM.lift ((f p q).bind dBool)) :=
  imT (pt_cmpR ho ha hb hm) fun σ H Q ⟨T, A, w, ev, h⟩ => by
    refine tOp2 (m := m) (f := f) hr (Q := fun x H' => ∃ k, x = .bl k ∧ Q k H') ⟨T, A, w, ev, ?_⟩
    rw [PM.run_bind] at h ⊢
    refine PM.mono (fun p h => ?_) h
    rw [PM.run_bind] at h ⊢
    refine PM.mono (fun q h => ?_) h
    rw [PM.run_lift] at h ⊢
    obtain ⟨k, e, h⟩ := h
    cases ef : f p q with
    | none => rw [ef] at e; cases e
    | some d =>
      rw [ef] at e
      refine ⟨d, rfl, fun v H' o => ?_⟩
      cases d with
      | bool c => cases e; cases o.rp; exact ⟨_, rfl, h H' o.st o.ok⟩
      | _ => cases e
/-- a value that is a bool, as a test -/
theorem VP.val (h : VE X ρ e xa) (he : ∀ whole, isTrue e X.env whole = (do let v ← whole; standAt e.pos; holding [v] (truthy v)) := by intro _; rfl) : VP X ρ e (xa >>= fun p => PM.lift (dBool p)) :=
  imT (pt_val h he) fun σ H Q ⟨T, A, w, ev, h⟩ => by
    rw [PM.run_bind] at h
    refine ⟨T, A, w, ev, PM.mono (fun p h v H1 o => ?_) h⟩
    obtain ⟨k, e1, h1⟩ := (PM.run_lift _ _).mp h
    cases p with
    | bool c => cases e1; cases o.rp; exact ⟨_, rfl, h1 H1 o.st o.ok⟩
    | _ => cases e1
/-! ### tests -/
section
variable {ta tb : m Bool} {rest : List Expr}
theorem VW.and1 (ha : VP X ρ a ta) : VW X ρ (.BoolOp .And [a] pos) ta := pw_and1 ha
theorem VW.or1 (ha : VP X ρ a ta) : VW X ρ (.BoolOp .Or [a] pos) ta := pw_or1 ha
theorem VW.and (ha : VP X ρ a ta) (hb : VW X ρ (.BoolOp .And (b :: rest) pos) tb) : VW X ρ (.BoolOp .And (a :: b :: rest) pos) (ta >>= fun c => if c = true then tb else pure false) :=
  imW (pw_and ha hb) fun σ H Q ⟨T, A, w, ev, h⟩ => by
    rw [PM.run_bind] at h
    refine ⟨T, A, w, ev, PM.mono (fun c h H1 s1 o1 => ?_) h⟩
    cases c with
    | true =>
      rw [if_pos rfl] at h ⊢
      exact ⟨T, A, w.step s1 o1, ev.step w s1, PM.mono (fun k h H2 s2 o2 => h H2 (s1.trans s2) o2) h⟩
    | false =>
      rw [if_neg Bool.false_ne_true] at h ⊢
      exact (PM.run_pure _ _).mp h H1 s1 o1
theorem VW.or (ha : VP X ρ a ta) (hb : VW X ρ (.BoolOp .Or (b :: rest) pos) tb) : VW X ρ (.BoolOp .Or (a :: b :: rest) pos) (ta >>= fun c => if c = true then pure true else tb) :=
  imW (pw_or ha hb) fun σ H Q ⟨T, A, w, ev, h⟩ => by
    rw [PM.run_bind] at h
    refine ⟨T, A, w, ev, PM.mono (fun c h H1 s1 o1 => ?_) h⟩
    cases c with
    | false =>
      rw [if_neg Bool.false_ne_true] at h ⊢
      exact ⟨T, A, w.step s1 o1, ev.step w s1, PM.mono (fun k h H2 s2 o2 => h H2 (s1.trans s2) o2) h⟩
    | true =>
      rw [if_pos rfl] at h ⊢
      exact (PM.run_pure _ _).mp h H1 s1 o1
theorem VP.not (ha : VP X ρ a ta) : VP X ρ (.UnaryOp .Not a pos) (ta >>= fun c => pure (!c)) :=
  imT (pt_not ha) fun σ H Q ⟨T, A, w, ev, h⟩ => by
    rw [PM.run_bind] at h
    exact ⟨T, A, w, ev, PM.mono (fun c h H1 s1 o1 => by rw [PM.run_pure] at h; exact h H1 s1 o1) h⟩
/-- truth of any value -/
theorem VP.tru (h : VE X ρ e xa) (he : ∀ whole, isTrue e X.env whole = (do let v ← whole; standAt e.pos; holding [v] (truthy v)) := by intro _; rfl) : VP X ρ e (xa >>= fun p => PM.lift (dTruth p)) :=
  imT (pt_truth h he) fun σ H Q ⟨T, A, w, ev, h⟩ => by
    rw [PM.run_bind] at h
    refine ⟨T, A, w, ev, PM.mono (fun p h v H1 o => ?_) h⟩
    obtain ⟨k, e, h2⟩ := (PM.run_lift _ _).mp h
    refine ⟨k, ?_, h2 H1 o.st o.ok⟩
    have r := o.rp
    cases r with
    | non => cases e; exact rfl
    | bl b => cases e; exact rfl
    | int i => cases e; exact rfl
    | str x =>
      have q := ifs e
      exact ⟨q.1, q.2.symm⟩
    | lst n hs hr =>
      have e2 := Option.some.inj e
      have hl := hr.length
      exact .inl ⟨_, .inl (.inl hs), by rw [← e2]; rename_i xs ds; cases xs <;> cases ds <;> simp at hl ⊢⟩
    | tup hs hr =>
      have e2 := Option.some.inj e
      have hl := hr.length
      exact .inr (.inl ⟨_, hs, by rw [← e2]; rename_i xs ds; cases xs <;> cases ds <;> simp at hl ⊢⟩)
    | tok => cases e
    | tok2 => cases e
    | scr => cases e
end
end
end Qv

namespace Qv
open PySem PySem.Spec PyProof.Rows L2
/-! ## the operators by plain values -/
section
variable {X : Cx} {K : PySem.W.Frag}
def rAddS : R2 := fun x y H Q => ∃ i j, x = .str i ∧ y = .str j ∧ i.length + j.length ≤ sizeLine ∧ Q (.str (i ++ j)) H
def rAddD (K : PySem.W.Frag) : R2 := fun x y H Q => (rI0 (fun i j => .int (i + j)) x y H Q ∨ rCatA K x y H Q) ∨ (rCat x y H Q ∨ rAddS x y H Q)
theorem opAdd : OpR X (binaryOp .Add) (rAddD X.K) := (op_add.or op_catA).or (op_cat.or op_add_str)
theorem okAdd : OkR K dAdd (rAddD K) := by
  intro T A H x y p q d Q w rx ry e k
  cases rx with
  | int i =>
    cases ry with
    | int j => cases e; exact .inl (.inl ⟨i, j, rfl, rfl, k _ _ (.same w (.int _))⟩)
    | _ => cases e
  | str i =>
    cases ry with
    | str j =>
      obtain ⟨h, e⟩ := ifs e
      subst e
      exact .inr (.inr ⟨i, j, rfl, rfl, h, k _ _ (.same w (.str _))⟩)
    | _ => cases e
  | @tup a xs ds hs hr =>
    cases ry with
    | @tup b ys es hs' hr' =>
      obtain ⟨h, e⟩ := ifs e
      subst e
      refine .inl (.inr ⟨a, b, xs, ys, rfl, rfl, hs, hs', by rw [hr.length, hr'.length]; exact h, fun e0 => ?_, fun e0 e1 => ?_, fun e0 e1 p np => ?_⟩)
      · subst e0
        cases hr
        exact k _ _ (.same w (.tup hs' hr'))
      · subst e1
        cases hr'
        rw [List.append_nil] at k
        exact k _ _ (.same w (.tup hs hr))
      · exact k _ _ (.tup w np (hr.append hr'))
    | _ => cases e
  | @lst a xs ds n hs hr =>
    cases ry with
    | @lst b ys es n' hs' hr' =>
      obtain ⟨h, e⟩ := ifs e
      subst e
      exact .inr (.inl ⟨a, b, xs, ys, rfl, rfl, hs, hs', by rw [hr.length, hr'.length]; exact h, fun p np => k _ _ (.lst w np (hr.append hr'))⟩)
    | _ => cases e
  | _ => cases e
theorem okSub : OkR K dSub (rI0 fun i j => .int (i - j)) := by
  intro T A H x y p q d Q w rx ry e k
  cases rx with
  | int i =>
    cases ry with
    | int j => cases e; exact ⟨i, j, rfl, rfl, k _ _ (.same w (.int _))⟩
    | _ => cases e
  | _ => cases e
def rMulD (K : PySem.W.Frag) : R2 := fun x y H Q => (rI CMul (fun i j => .int (i * j)) x y H Q ∨ rI CMulW (fun i j => .int (i * j)) x y H Q) ∨ (rRep x y H Q ∨ rRepT K x y H Q)
theorem opMul : OpR X (binaryOp .Mult) (rMulD X.K) := (op_mul.or op_mulW).or (op_rep.or op_repT)
theorem okMul : OkR K dMul (rMulD K) := by
  intro T A H x y p q d Q w rx ry e k
  cases rx with
  | int i =>
    cases ry with
    | int j =>
      obtain ⟨h, e⟩ := ifs e
      subst e
      simp only [Bool.or_eq_true, smallI, Bool.and_eq_true, decide_eq_true_eq] at h
      rcases h with (h | h) | h
      · exact .inl (.inl ⟨i, j, rfl, rfl, .inl h, k _ _ (.same w (.int _))⟩)
      · exact .inl (.inl ⟨i, j, rfl, rfl, .inr h, k _ _ (.same w (.int _))⟩)
      · exact .inl (.inr ⟨i, j, rfl, rfl, h, k _ _ (.same w (.int _))⟩)
    | _ => cases e
  | @lst a xs ds n hs hr =>
    cases ry with
    | int j =>
      obtain ⟨h, e⟩ := ifs e
      subst e
      simp only [Bool.and_eq_true, decide_eq_true_eq] at h
      exact .inr (.inl ⟨a, j, xs, rfl, rfl, hs, h.1.1, h.1.2, by rw [hr.length]; exact h.2, fun p np => k _ _ (.lst w np (hr.flat _))⟩)
    | _ => cases e
  | @tup a xs ds hs hr =>
    cases ry with
    | int j =>
      obtain ⟨h, e⟩ := ifs e
      subst e
      simp only [Bool.and_eq_true, decide_eq_true_eq] at h
      have hl := hr.length
      refine .inr (.inr ⟨a, j, xs, rfl, rfl, hs, fun z => ?_, h.1.1.2, h.1.2, by omega, fun p np => k _ _ (.tup w np (hr.flat _))⟩)
      subst z
      cases hr
      exact absurd h.1.1.1 (by decide)
    | _ => cases e
  | _ => cases e
def rDivD : R2 := fun x y H Q => rI CDivN (fun i j => .int (i.fdiv j)) x y H Q ∨ rI CDivW (fun i j => .int (i / j)) x y H Q
theorem opDiv : OpR X (binaryOp .FloorDiv) rDivD := op_fdivN.or op_fdivW
theorem okDiv : OkR K dDiv rDivD := by
  intro T A H x y p q d Q w rx ry e k
  cases rx with
  | int i =>
    cases ry with
    | int j =>
      obtain ⟨h, e⟩ := ifs e
      subst e
      simp only [Bool.or_eq_true, Bool.and_eq_true, decide_eq_true_eq] at h
      rcases h.2 with h2 | h2
      · exact .inl ⟨i, j, rfl, rfl, ⟨h.1, h2⟩, k _ _ (.same w (.int _))⟩
      · refine .inr ⟨i, j, rfl, rfl, ⟨h2.1, h2.2⟩, ?_⟩
        show Q (.int (i / j)) H
        rw [← Int.fdiv_eq_ediv_of_nonneg i (Int.le_of_lt h2.1)]
        exact k _ _ (.same w (.int _))
    | _ => cases e
  | _ => cases e
theorem okMod : OkR K dMod (rI (fun _ j => j ≠ 0) fun i j => .int (i.fmod j)) := by
  intro T A H x y p q d Q w rx ry e k
  cases rx with
  | int i =>
    cases ry with
    | int j =>
      obtain ⟨h, e⟩ := ifs e
      subst e
      exact ⟨i, j, rfl, rfl, of_decide_eq_true h, k _ _ (.same w (.int _))⟩
    | _ => cases e
  | _ => cases e
theorem okNeg : OkU K dNeg (rU fun i => .int (-i)) := by
  intro T A H x p d Q w rx e k
  cases rx with
  | int i => cases e; exact ⟨i, rfl, k _ _ (.same w (.int _))⟩
  | _ => cases e
end
end Qv

namespace Qv
open PySem PySem.Spec PyProof.Rows L2
/-! ## of like make -/
theorem alike_isInts : ∀ (xs ys : List D), isInts xs = true → isInts ys = true → W.alikeAll xs ys = true
  | [], _, _, _ => by simp [W.alikeAll]
  | _ :: _, [], _, _ => by simp [W.alikeAll]
  | x :: xs, y :: ys, h1, h2 => by
    cases x <;> simp [isInts] at h1
    cases y <;> simp [isInts] at h2
    rw [W.alikeAll, alike_isInts xs ys h1 h2]
    simp [W.alike]
mutual
theorem alike_cls : ∀ (a b : D), cls a = cls b → (cls a).ok = true → W.alike a b = true
  | .none, b, h, o => by simp [cls, Sh.ok] at o
  | .dict _, b, h, o => by simp [cls, Sh.ok] at o
  | .bool x, b, h, o => by
    cases b <;> simp [cls] at h <;> first | (split at h <;> cases h; done) | simp [W.alike]
  | .int x, b, h, o => by
    cases b <;> simp [cls] at h <;> first | (split at h <;> cases h; done) | simp [W.alike]
  | .str x, b, h, o => by
    cases b <;> simp [cls] at h <;> first | (split at h <;> cases h; done) | simp [W.alike]
  | .tuple xs, b, h, o => by
    cases b with
    | tuple ys =>
      rw [W.alike]
      simp only [cls] at h o
      by_cases hx : isInts xs = true
      · by_cases hy : isInts ys = true
        · exact alike_isInts xs ys hx hy
        · rw [if_pos hx, if_neg hy] at h; cases h
      · by_cases hy : isInts ys = true
        · rw [if_neg hx, if_pos hy] at h; cases h
        · rw [if_neg hx, if_neg hy] at h
          rw [if_neg hx] at o
          exact alike_clss xs ys (Sh.t.inj h) o
    | list ys => simp only [cls] at h; split at h <;> split at h <;> cases h
    | _ => simp only [cls] at h; split at h <;> cases h
  | .list xs, b, h, o => by
    cases b with
    | list ys =>
      rw [W.alike]
      simp only [cls] at h o
      by_cases hx : isInts xs = true
      · by_cases hy : isInts ys = true
        · exact alike_isInts xs ys hx hy
        · rw [if_pos hx, if_neg hy] at h; cases h
      · by_cases hy : isInts ys = true
        · rw [if_neg hx, if_pos hy] at h; cases h
        · rw [if_neg hx, if_neg hy] at h
          rw [if_neg hx] at o
          exact alike_clss xs ys (Sh.l.inj h) o
    | tuple ys => simp only [cls] at h; split at h <;> split at h <;> cases h
    | _ => simp only [cls] at h; split at h <;> cases h
theorem alike_clss : ∀ (xs ys : List D), clss xs = clss ys → (clss xs).ok = true → W.alikeAll xs ys = true
  | [], ys, _, _ => by simp [W.alikeAll]
  | x :: xs, [], _, _ => by simp [W.alikeAll]
  | x :: xs, y :: ys, h, o => by
    simp only [clss] at h o
    have h1 := Sh.cons.inj h
    simp only [Sh.ok, Bool.and_eq_true] at o
    rw [W.alikeAll, alike_cls x y h1.1 o.1, alike_clss xs ys h1.2 o.2]
    rfl
end
mutual
theorem plain_cls : ∀ a : D, (cls a).ok = true → a.plain = true
  | .none, o => by simp [cls, Sh.ok] at o
  | .dict _, o => by simp [cls, Sh.ok] at o
  | .bool _, _ => rfl
  | .int _, _ => rfl
  | .str _, _ => rfl
  | .tuple xs, o => by
    simp only [cls] at o
    rw [PyData.plain]
    by_cases hx : isInts xs = true
    · exact plain_isInts xs hx
    · rw [if_neg hx] at o; exact plain_clss xs o
  | .list xs, o => by
    simp only [cls] at o
    rw [PyData.plain]
    by_cases hx : isInts xs = true
    · exact plain_isInts xs hx
    · rw [if_neg hx] at o; exact plain_clss xs o
theorem plain_clss : ∀ xs : List D, (clss xs).ok = true → PyData.plainAll xs = true
  | [], _ => rfl
  | x :: xs, o => by
    simp only [clss, Sh.ok, Bool.and_eq_true] at o
    rw [PyData.plainAll, plain_cls x o.1, plain_clss xs o.2]
    rfl
theorem plain_isInts : ∀ xs : List D, isInts xs = true → PyData.plainAll xs = true
  | [], _ => rfl
  | x :: xs, o => by
    cases x <;> simp [isInts] at o
    rw [PyData.plainAll, plain_isInts xs o]
    rfl
end
theorem ne_none_cls {a : D} (o : (cls a).ok = true) : a ≠ .none := fun e => by
  subst e
  simp [cls, Sh.ok] at o
theorem likes_mem {xs : List D} (h : likes xs = true) : ∀ x ∈ xs, ∀ y ∈ xs, cls x = cls y ∧ (cls x).ok = true := by
  cases xs with
  | nil => intro x hx; cases hx
  | cons z zs =>
    simp only [likes, Bool.and_eq_true, List.all_eq_true, decide_eq_true_eq] at h
    have q : ∀ x ∈ z :: zs, cls x = cls z := fun x hx => by
      rcases List.mem_cons.mp hx with rfl | hx
      · rfl
      · exact h.2 x hx
    exact fun x hx y hy => ⟨(q x hx).trans (q y hy).symm, by rw [q x hx]; exact h.1⟩
theorem likes_alike {xs : List D} (h : likes xs = true) : W.AlikeAll xs :=
  ⟨fun x hx y hy => alike_cls x y (likes_mem h x hx y hy).1 (likes_mem h x hx y hy).2, fun x hx => ne_none_cls (likes_mem h x hx x hx).2⟩
theorem likes_plain {xs : List D} (h : likes xs = true) : PyData.plainAll xs = true := by
  have q := fun x hx => plain_cls x (likes_mem h x hx x hx).2
  clear h
  induction xs with
  | nil => rfl
  | cons x xs ih =>
    rw [PyData.plainAll, q x List.mem_cons_self, ih fun y hy => q y (List.mem_cons_of_mem _ hy)]
    rfl
/-! ## plain data is read by the library -/
section
variable {X : Cx} {T : Tk} {A : Addr → Prop} {K : PySem.W.Frag}
mutual
theorem Rep.dp {H : Hp} : ∀ {v : V} {d : D}, Rep K T A H v d → d.plain = true → Dp K H v d
  | _, _, .non, _ => .non
  | _, _, .bl b, _ => .bl b
  | _, _, .int i, _ => .int i
  | _, _, .str x, _ => .str x
  | _, _, .lst n h r, e => .lst (SqL.of h) (Reps.dp r (by simpa [PyData.plain] using e))
  | _, _, .tup h r, e => .tup h (Reps.dp r (by simpa [PyData.plain] using e))
  | _, _, .tok _, e => by simp [tokD, PyData.plain] at e
  | _, _, .tok2 _, e => by simp [tokA, PyData.plain] at e
  | _, _, .scr _ _, e => by simp [scrD, PyData.plain] at e
theorem Reps.dp {H : Hp} : ∀ {v : List V} {d : List D}, Reps K T A H v d → PyData.plainAll d = true → DpAll K H v d
  | _, _, .nil, _ => .nil
  | _, _, .cons h r, e => by
    simp only [PyData.plainAll, Bool.and_eq_true] at e
    exact .cons (Rep.dp h e.1) (Reps.dp r e.2)
end
def rCmpD (K : PySem.W.Frag) (C : D → D → Prop) (g : D → D → Bool) : R2 := fun x y H Q => ∃ d e, Dp K H x d ∧ Dp K H y e ∧ C d e ∧ Q (.bl (g d e)) H
theorem opCmpD {op : CmpOp} {C : D → D → Prop} {g : D → D → Bool}
    (h : ∀ (s : Shared) (v u : Value) (d e : D) (as bs : List Addr) (Q : Value → Shared → Prop), Reads s.heap v d as → Reads s.heap u e bs → C d e → Q (.bool (g d e)) s → wpAny (model X.prog X.w) X.A (compareOp op v u) Q X.xe s) : OpR X (compareOp op) (rCmpD X.K C g) := by
  intro pins s σ H x y v u Q I rx ry ⟨d, e, hd, he, c, q⟩
  obtain ⟨as, r1⟩ := Dp.reads I d x v hd rx
  obtain ⟨bs, r2⟩ := Dp.reads I e y u he ry
  exact h s v u d e as bs _ r1 r2 c ⟨.bl _, H, I, rfl, q⟩
def CEq (d e : D) : Prop := d.plain = true ∧ e.plain = true ∧ min d.depth e.depth ≤ 60
def CLk (d e : D) : Prop := W.alike d e = true ∧ d ≠ .none ∧ min d.depth e.depth ≤ 60
theorem opEqP (hu : X.A.units + 64 < cLine) : OpR X (compareOp .Eq) (rCmpD X.K CEq PyData.eqv) := opCmpD fun s v u d e as bs Q r1 r2 c q => SeqAt.eq_plain r1 r2 c.1 c.2.1 (by have := c.2.2; omega) q
theorem opNeP (hu : X.A.units + 64 < cLine) : OpR X (compareOp .NotEq) (rCmpD X.K CEq fun d e => !PyData.eqv d e) := opCmpD fun s v u d e as bs Q r1 r2 c q => SeqAt.ne_plain r1 r2 c.1 c.2.1 (by have := c.2.2; omega) q
theorem opLtP (hu : X.A.units + 64 < cLine) : OpR X (compareOp .Lt) (rCmpD X.K CLk W.dataLt) := opCmpD fun s v u d e as bs Q r1 r2 c q => W.lt_data r1 r2 c.1 c.2.1 (by have := c.2.2; omega) q
theorem opGtP (hu : X.A.units + 64 < cLine) : OpR X (compareOp .Gt) (rCmpD X.K CLk fun d e => W.dataLt e d) := opCmpD fun s v u d e as bs Q r1 r2 c q => W.gt_data r1 r2 c.1 c.2.1 (by have := c.2.2; omega) q
theorem opLeP (hu : X.A.units + 64 < cLine) : OpR X (compareOp .LtE) (rCmpD X.K CLk fun d e => !W.dataLt e d) := opCmpD fun s v u d e as bs Q r1 r2 c q => W.le_data r1 r2 c.1 c.2.1 (by have := c.2.2; omega) q
theorem opGeP (hu : X.A.units + 64 < cLine) : OpR X (compareOp .GtE) (rCmpD X.K CLk fun d e => !W.dataLt d e) := opCmpD fun s v u d e as bs Q r1 r2 c q => W.ge_data r1 r2 c.1 c.2.1 (by have := c.2.2; omega) q
theorem ok_eqv {f : D → D → Option D} {g : D → D → Bool} (h0 : ∀ a b d, f a b = some d → CEq a b ∧ d = .bool (g a b)) : OkR K f (rCmpD K CEq g) := by
  intro T A H x y p q d Q w rx ry e k
  obtain ⟨c, rfl⟩ := h0 p q d e
  exact ⟨p, q, rx.dp c.1, ry.dp c.2.1, c, k _ _ (.same w (.bl _))⟩
theorem ceq_int {i j : Int} : CEq (.int i) (.int j) := ⟨rfl, rfl, by simp [PyData.depth]⟩
theorem eqv_int {i j : Int} : PyData.eqv (.int i) (.int j) = (i == j) := by simp [PyData.eqv]
theorem ceq_of {a b : D} (h : (a.plain && b.plain && decide (min a.depth b.depth ≤ 60)) = true) : CEq a b := by
  simp only [Bool.and_eq_true, decide_eq_true_eq] at h
  exact ⟨h.1.1, h.1.2, h.2⟩
theorem okEq : OkR K dEq (rCmpD K CEq PyData.eqv) := ok_eqv fun a b d e => by
  unfold dEq at e
  split at e
  · cases e; exact ⟨ceq_int, by rw [eqv_int]⟩
  · obtain ⟨h, e⟩ := ifs e; exact ⟨ceq_of h, e.symm⟩
theorem okNe : OkR K dNe (rCmpD K CEq fun d e => !PyData.eqv d e) := ok_eqv fun a b d e => by
  unfold dNe at e
  split at e
  · cases e; exact ⟨ceq_int, by rw [eqv_int]⟩
  · obtain ⟨h, e⟩ := ifs e; exact ⟨ceq_of h, e.symm⟩
theorem ok_like {f : D → D → Option D} {g : D → D → Bool} (h0 : ∀ a b d, f a b = some d → (likeD a b = true) ∧ d = .bool (g a b)) : OkR K f (rCmpD K CLk g) := by
  intro T A H x y p q d Q w rx ry e k
  obtain ⟨c, rfl⟩ := h0 p q d e
  simp only [likeD, Bool.and_eq_true, decide_eq_true_eq] at c
  exact ⟨p, q, rx.dp (plain_cls p c.1.1), ry.dp (plain_cls q (by rw [← c.1.2]; exact c.1.1)), ⟨alike_cls p q c.1.2 c.1.1, ne_none_cls c.1.1, c.2⟩, k _ _ (.same w (.bl _))⟩
theorem like_int {i j : Int} : likeD (.int i) (.int j) = true := by simp [likeD, cls, Sh.ok, PyData.depth]
theorem okLt : OkR K dLt (rCmpD K CLk W.dataLt) := ok_like fun a b d e => by
  unfold dLt at e
  split at e
  · cases e; exact ⟨like_int, by rw [W.dataLt_int]⟩
  · obtain ⟨h, e⟩ := ifs e; exact ⟨h, e.symm⟩
theorem okGt : OkR K dGt (rCmpD K CLk fun d e => W.dataLt e d) := ok_like fun a b d e => by
  unfold dGt at e
  split at e
  · cases e; exact ⟨like_int, by rw [W.dataLt_int]⟩
  · obtain ⟨h, e⟩ := ifs e; exact ⟨h, e.symm⟩
theorem not_lt_le (i j : Int) : decide (i ≤ j) = !decide (j < i) := by
  by_cases h : i ≤ j
  · rw [decide_eq_true h, decide_eq_false (by omega)]; rfl
  · rw [decide_eq_false h, decide_eq_true (by omega)]; rfl
theorem okLe : OkR K dLe (rCmpD K CLk fun d e => !W.dataLt e d) := ok_like fun a b d e => by
  unfold dLe at e
  split at e
  · cases e; exact ⟨like_int, by rw [W.dataLt_int, not_lt_le]⟩
  · obtain ⟨h, e⟩ := ifs e; exact ⟨h, e.symm⟩
theorem okGe : OkR K dGe (rCmpD K CLk fun d e => !W.dataLt d e) := ok_like fun a b d e => by
  unfold dGe at e
  split at e
  · cases e; exact ⟨like_int, by rw [W.dataLt_int, not_lt_le]⟩
  · obtain ⟨h, e⟩ := ifs e; exact ⟨h, e.symm⟩
/-! ### in, not in -/
def rInP (K : PySem.W.Frag) (n : Bool) : R2 := fun x y H Q => ∃ d ds, Dp K H x d ∧ (Dp K H y (.list ds) ∨ Dp K H y (.tuple ds)) ∧ (d.plain = true ∧ PyData.plainAll ds = true ∧ min (PyData.depthAll ds) d.depth ≤ 60) ∧ Q (.bl (xor n (ds.any fun z => PyData.eqv z d))) H
theorem opInP (hu : X.A.units + 64 < cLine) : OpR X (compareOp .In) (rInP X.K false) := by
  intro pins s σ H x y v u Q I rx ry ⟨d, ds, hd, he, c, q⟩
  obtain ⟨as, r1⟩ := Dp.reads I d x v hd rx
  rcases he with he | he
  · obtain ⟨bs, r2⟩ := Dp.reads I _ y u he ry
    exact SeqAt.in_list_data r2 r1 c.2.1 c.1 (by have := c.2.2; omega) ⟨.bl _, H, I, rfl, by rw [Bool.false_xor] at q; exact q⟩
  · obtain ⟨bs, r2⟩ := Dp.reads I _ y u he ry
    exact SeqAt.in_tuple_data r2 r1 c.2.1 c.1 (by have := c.2.2; omega) ⟨.bl _, H, I, rfl, by rw [Bool.false_xor] at q; exact q⟩
theorem opNotInP (hu : X.A.units + 64 < cLine) : OpR X (compareOp .NotIn) (rInP X.K true) := by
  intro pins s σ H x y v u Q I rx ry ⟨d, ds, hd, he, c, q⟩
  obtain ⟨as, r1⟩ := Dp.reads I d x v hd rx
  rcases he with he | he
  · obtain ⟨bs, r2⟩ := Dp.reads I _ y u he ry
    exact SeqAt.notIn_list_data r2 r1 c.2.1 c.1 (by have := c.2.2; omega) ⟨.bl _, H, I, rfl, by rw [Bool.true_xor] at q; exact q⟩
  · obtain ⟨bs, r2⟩ := Dp.reads I _ y u he ry
    exact SeqAt.notIn_tuple_data r2 r1 c.2.1 c.1 (by have := c.2.2; omega) ⟨.bl _, H, I, rfl, by rw [Bool.true_xor] at q; exact q⟩
theorem okIn : OkR K dIn (rInP K false) := by
  intro T A H x y p q d Q w rx ry e k
  unfold dIn at e
  split at e
  · obtain ⟨h, e⟩ := ifs e
    subst e
    simp only [Bool.and_eq_true, decide_eq_true_eq] at h
    exact ⟨p, _, rx.dp h.1.1, .inl (ry.dp h.1.2), ⟨h.1.1, h.1.2, h.2⟩, by rw [Bool.false_xor]; exact k _ _ (.same w (.bl _))⟩
  · obtain ⟨h, e⟩ := ifs e
    subst e
    simp only [Bool.and_eq_true, decide_eq_true_eq] at h
    exact ⟨p, _, rx.dp h.1.1, .inr (ry.dp h.1.2), ⟨h.1.1, h.1.2, h.2⟩, by rw [Bool.false_xor]; exact k _ _ (.same w (.bl _))⟩
  · cases e
theorem okNotIn : OkR K dNotIn (rInP K true) := by
  intro T A H x y p q d Q w rx ry e k
  unfold dNotIn at e
  split at e
  · obtain ⟨h, e⟩ := ifs e
    subst e
    simp only [Bool.and_eq_true, decide_eq_true_eq] at h
    exact ⟨p, _, rx.dp h.1.1, .inl (ry.dp h.1.2), ⟨h.1.1, h.1.2, h.2⟩, by rw [Bool.true_xor]; exact k _ _ (.same w (.bl _))⟩
  · obtain ⟨h, e⟩ := ifs e
    subst e
    simp only [Bool.and_eq_true, decide_eq_true_eq] at h
    exact ⟨p, _, rx.dp h.1.1, .inr (ry.dp h.1.2), ⟨h.1.1, h.1.2, h.2⟩, by rw [Bool.true_xor]; exact k _ _ (.same w (.bl _))⟩
  · cases e
/-! ### is None -/
def dIs (x y : D) : Option D := match y with | .none => some (.bool (isNone x)) | _ => none
def dIsNot (x y : D) : Option D := match y with | .none => some (.bool (!isNone x)) | _ => none
theorem isN {H : Hp} {v : V} {d : D} (r : Rep K T A H v d) : decide (v = .non) = isNone d := by
  cases r <;> rfl
theorem okIs : OkR K dIs (fun x y H Q => y = .non ∧ Q (.bl (decide (x = .non))) H) := by
  intro T A H x y p q d Q w rx ry e k
  cases ry with
  | non =>
    cases e
    refine ⟨rfl, ?_⟩
    rw [isN rx]
    exact k _ _ (.same w (.bl _))
  | _ => cases e
theorem okIsNot : OkR K dIsNot (fun x y H Q => y = .non ∧ Q (.bl (!decide (x = .non))) H) := by
  intro T A H x y p q d Q w rx ry e k
  cases ry with
  | non =>
    cases e
    refine ⟨rfl, ?_⟩
    rw [isN rx]
    exact k _ _ (.same w (.bl _))
  | _ => cases e
end
end Qv

namespace Qv
open PySem PySem.Spec PyProof.Rows L2
/-! ## insertion is the library's sorting -/
section
variable {le : D → D → Bool} (trans : ∀ x y z, le x y = true → le y z = true → le x z = true) (total : ∀ x y, (le x y || le y x) = true)
include trans total
theorem ins_pw (x : D) : ∀ l : List D, l.Pairwise (fun x y => le x y = true) → (insD le x l).Pairwise (fun x y => le x y = true)
  | [], _ => by simp [insD]
  | y :: ys, h => by
    rw [List.pairwise_cons] at h
    unfold insD
    by_cases q : le x y = true
    · rw [if_pos q, List.pairwise_cons, List.pairwise_cons]
      refine ⟨fun z hz => ?_, h⟩
      rcases List.mem_cons.mp hz with rfl | hz
      · exact q
      · exact trans _ _ _ q (h.1 z hz)
    · rw [if_neg q, List.pairwise_cons]
      refine ⟨fun z hz => ?_, ins_pw x ys h.2⟩
      have hm : ∀ l : List D, z ∈ insD le x l → z = x ∨ z ∈ l := by
        intro l
        induction l with
        | nil => intro h; simp [insD] at h; exact .inl h
        | cons a l ih =>
          intro h
          unfold insD at h
          split at h
          · rcases List.mem_cons.mp h with h | h
            · exact .inl h
            · exact .inr h
          · rcases List.mem_cons.mp h with h | h
            · exact .inr (h ▸ List.mem_cons_self)
            · rcases ih h with h | h
              · exact .inl h
              · exact .inr (List.mem_cons_of_mem _ h)
      rcases hm ys hz with rfl | hz
      · have := total z y
        rw [Bool.or_eq_true] at this
        rcases this with h | h
        · exact absurd h q
        · exact h
      · exact h.1 z hz
theorem ins_filter (x z : D) : ∀ l : List D, (insD le x l).filter (W.Srt.alike le z) = (x :: l).filter (W.Srt.alike le z)
  | [] => rfl
  | y :: ys => by
    unfold insD
    by_cases q : le x y = true
    · rw [if_pos q]
    · rw [if_neg q]
      have ih := ins_filter x z ys
      cases hx : W.Srt.alike le z x with
      | false =>
        rw [List.filter_cons, ih, List.filter_cons, List.filter_cons, List.filter_cons, hx]
        simp
      | true =>
        have hy : W.Srt.alike le z y = false := by
          cases e : W.Srt.alike le z y with
          | false => rfl
          | true =>
            simp only [W.Srt.alike, Bool.and_eq_true] at hx e
            exact absurd (trans _ _ _ hx.2 e.1) q
        rw [List.filter_cons, ih, List.filter_cons, List.filter_cons, List.filter_cons, hx, hy]
        simp
theorem srt_pw : ∀ l : List D, (srtD le l).Pairwise (fun x y => le x y = true)
  | [] => .nil
  | x :: xs => ins_pw trans total x _ (srt_pw xs)
theorem srt_filter (z : D) : ∀ l : List D, (srtD le l).filter (W.Srt.alike le z) = l.filter (W.Srt.alike le z)
  | [] => rfl
  | x :: xs => by
    show (insD le x (srtD le xs)).filter _ = _
    rw [ins_filter trans total, List.filter_cons, List.filter_cons, srt_filter z xs]
theorem merge_srt (l : List D) : l.mergeSort le = srtD le l :=
  W.Srt.any_one le total _ _ (List.pairwise_mergeSort trans total l) (srt_pw trans total l) fun z => by
    rw [W.Srt.any_kept le trans total, srt_filter trans total]
end
theorem leD_total : W.TotalLe leD := W.sortLe_total (listOrd itemOrd) false W.keyToks
theorem merge_leD (l : List D) : l.mergeSort (W.dataLe false id) = srtD leD l := merge_srt (le := leD) leD_total.trans (fun x y => by have := leD_total.total x y; rw [Bool.or_eq_true]; exact this) l
/-! ## built-in functions on plain data -/
section
variable {X : Cx} {T : Tk} {A : Addr → Prop} {K : PySem.W.Frag}
/-- a list or a tuple that reads as plain data -/
def Sq (K : PySem.W.Frag) (H : Hp) (a : Addr) (us : List V) : Prop := SqL K H a us ∨ SqT K H a us
theorem Inv.dpAll {pins : List (Addr × Obj)} {σ : L2.St} {H : Hp} {s : Shared} {us : List V} {ds : List D} {its : List Value} (I : Inv X pins σ H s) (h : DpAll X.K H us ds) (r : Vals us its) : ∃ as, ReadsAll s.heap its ds as := Dp.readsAll I ds us its h r
theorem mem_fold {f : D → D → D} (hf : ∀ a b, f a b = a ∨ f a b = b) : ∀ (xs : List D) (x : D), xs.foldl f x ∈ x :: xs
  | [], x => List.mem_cons_self
  | y :: ys, x => by
    have h := mem_fold hf ys (f x y)
    rw [List.foldl_cons]
    rcases List.mem_cons.mp h with h | h
    · rw [h]
      rcases hf x y with e | e
      · rw [e]; exact List.mem_cons_self
      · rw [e]; exact List.mem_cons_of_mem _ List.mem_cons_self
    · exact List.mem_cons_of_mem _ (List.mem_cons_of_mem _ h)
theorem minD_mem (x : D) (xs : List D) : W.minD x xs ∈ x :: xs := mem_fold (fun a b => by by_cases h : W.dataLt b a = true <;> simp [h]) xs x
theorem maxD_mem (x : D) (xs : List D) : W.maxD x xs ∈ x :: xs := mem_fold (fun a b => by by_cases h : W.dataLt a b = true <;> simp [h]) xs x
def rBest (K : PySem.W.Frag) (g : D → List D → D) : List V → Hp → VK → Prop := fun vs H Q => ∃ (a : Addr) (us : List V) (x : D) (xs : List D), vs = [V.ref a] ∧ Sq K H a us ∧ DpAll K H us (x :: xs) ∧ W.AlikeAll (x :: xs) ∧ PyData.depthAll (x :: xs) ≤ 60 ∧
  ∀ (i : Nat) (v : V), us[i]? = some v → (x :: xs)[i]? = some (g x xs) → Q v H
theorem best_end {pins : List (Addr × Obj)} {σ : L2.St} {H : Hp} {s : Shared} {Q : VK} {us : List V} {its : List Value} {x : D} {xs : List D} {bs cs : List Addr} {g : D} {h' : Heap} {tk : Nat} {i : Nat} {u : Value} (I : Inv X pins σ H s) (r : Vals us its) (hr : ReadsAll s.heap its (x :: xs) bs) (ha : W.AlikeAll (x :: xs)) (hg : g ∈ x :: xs)
    (hi : its[i]? = some u) (hv : Reads h' u g cs) (hk : ∀ b o, s.heap.get? b = some o → h'.get? b = some o) (q : ∀ (i : Nat) (v : V), us[i]? = some v → (x :: xs)[i]? = some g → Q v H) : EP X pins σ Q u { s with heap := h', toks := tk } := by
  obtain ⟨cs', r1, hlt, hm, _⟩ := W.readsAll_at hr i u hi
  have e1 : (x :: xs).getD i .none = g := W.alike_unique _ _ _ _ _ (ha.1 _ hm _ hg) (PyProof.Rows.Reads.keeps hk r1) hv
  have e2 : (x :: xs)[i]? = some g := by
    rw [← e1, List.getElem?_eq_getElem hlt, List.getD_eq_getElem?_getD, List.getElem?_eq_getElem hlt]; rfl
  have hl := r.length
  obtain ⟨v, ev⟩ : ∃ v, us[i]? = some v := by
    have : i < its.length := (List.getElem?_eq_some_iff.mp hi).1
    exact ⟨_, List.getElem?_eq_getElem (by omega)⟩
  obtain ⟨u', eu, rv⟩ := r.get ev
  rw [hi] at eu
  cases eu
  exact ⟨v, H, I.kept (t' := tk) hk, rv, q i v ev e2⟩
theorem cr_minD (hc : X.calm = true) (hu : X.A.units + 64 < cLine) : CallR X (.builtin "min") (rBest X.K W.minD) := by
  intro pins s σ H vs us' Q I r h
  obtain ⟨a, us, x, xs, rfl, hs, hd, ha, hz, q⟩ := h
  rw [Vals.ref1 r]
  rcases hs with hs | hs
  · obtain ⟨its, rv, hl, _⟩ := I.list hs
    obtain ⟨bs, hr⟩ := Inv.dpAll I hd rv
    exact W.min_list_data (I.ok.hd hc) hl.isList (show ReadsAll s.heap its.toArray.toList _ _ from hr) ha (by omega) fun i v h' tk cs hi hv hk => best_end I rv hr ha (minD_mem x xs) (by simpa using hi) hv hk q
  · obtain ⟨its, rv, hl, _⟩ := I.tuple hs
    obtain ⟨bs, hr⟩ := Inv.dpAll I hd rv
    exact W.min_tuple_data (I.ok.hd hc) hl (show ReadsAll s.heap its.toArray.toList _ _ from hr) ha (by omega) fun i v h' tk cs hi hv hk => best_end I rv hr ha (minD_mem x xs) (by simpa using hi) hv hk q
theorem cr_maxD (hc : X.calm = true) (hu : X.A.units + 64 < cLine) : CallR X (.builtin "max") (rBest X.K W.maxD) := by
  intro pins s σ H vs us' Q I r h
  obtain ⟨a, us, x, xs, rfl, hs, hd, ha, hz, q⟩ := h
  rw [Vals.ref1 r]
  rcases hs with hs | hs
  · obtain ⟨its, rv, hl, _⟩ := I.list hs
    obtain ⟨bs, hr⟩ := Inv.dpAll I hd rv
    exact W.max_list_data (I.ok.hd hc) hl.isList (show ReadsAll s.heap its.toArray.toList _ _ from hr) ha (by omega) fun i v h' tk cs hi hv hk => best_end I rv hr ha (maxD_mem x xs) (by simpa using hi) hv hk q
  · obtain ⟨its, rv, hl, _⟩ := I.tuple hs
    obtain ⟨bs, hr⟩ := Inv.dpAll I hd rv
    exact W.max_tuple_data (I.ok.hd hc) hl (show ReadsAll s.heap its.toArray.toList _ _ from hr) ha (by omega) fun i v h' tk cs hi hv hk => best_end I rv hr ha (maxD_mem x xs) (by simpa using hi) hv hk q
def f1 (f : D → Option D) : List D → Option D
  | [a] => f a
  | _ => none
def f2 (f : D → D → Option D) : List D → Option D
  | [a, b] => f a b
  | _ => none
theorem reps1 {H : Hp} {xs : List V} {p : D} (r : Reps K T A H xs [p]) : ∃ v, xs = [v] ∧ Rep K T A H v p := by
  cases r with
  | cons h r =>
    cases r
    exact ⟨_, rfl, h⟩
theorem reps2 {H : Hp} {xs : List V} {p q : D} (r : Reps K T A H xs [p, q]) : ∃ v u, xs = [v, u] ∧ Rep K T A H v p ∧ Rep K T A H u q := by
  cases r with
  | cons h r =>
    cases r with
    | cons h' r =>
      cases r
      exact ⟨_, _, rfl, h, h'⟩
theorem okc1 {f : D → Option D} {r : List V → Hp → VK → Prop} (h : ∀ (T : Tk) (A : Addr → Prop) (H : Hp) (v : V) (p d : D) (Q : VK), Wd T A H → Rep K T A H v p → f p = some d → (∀ v H', Post K T A H H' d v → Q v H') → r [v] H Q) : OkC K (f1 f) r := by
  intro T A H xs ps d Q w rx e k
  match ps, e with
  | [p], e =>
    obtain ⟨v, rfl, hr⟩ := reps1 rx
    exact h T A H v p d Q w hr e k
theorem okc2 {f : D → D → Option D} {r : List V → Hp → VK → Prop} (h : ∀ (T : Tk) (A : Addr → Prop) (H : Hp) (v u : V) (p q d : D) (Q : VK), Wd T A H → Rep K T A H v p → Rep K T A H u q → f p q = some d → (∀ v H', Post K T A H H' d v → Q v H') → r [v, u] H Q) : OkC K (f2 f) r := by
  intro T A H xs ps d Q w rx e k
  match ps, e with
  | [p, q], e =>
    obtain ⟨v, u, rfl, hr, hr'⟩ := reps2 rx
    exact h T A H v u p q d Q w hr hr' e k
/-- its items -/
theorem rep_seq {H : Hp} {v : V} {d : D} {ds : List D} (r : Rep K T A H v d) (e : dSeq d = some ds) : ∃ a us, v = .ref a ∧ Sq K H a us ∧ Reps K T A H us ds := by
  cases r with
  | lst n h hr => cases e; exact ⟨_, _, rfl, .inl (SqL.of h), hr⟩
  | tup h hr => cases e; exact ⟨_, _, rfl, .inr h, hr⟩
  | _ => cases e
theorem okBest {f : D → Option D} {g : D → List D → D} {fl : List D → Option D} (hf : ∀ d, f d = (dSeq d).bind fl) (hn : fl [] = none) (hl : ∀ x xs, fl (x :: xs) = if likes (x :: xs) && decide (PyData.depthAll (x :: xs) ≤ 60) then some (g x xs) else none) : OkC K (f1 f) (rBest K g) := okc1 fun T A H v p d Q w r e k => by
  rw [hf] at e
  cases es : dSeq p with
  | none => rw [es] at e; cases e
  | some ds =>
    rw [es] at e
    obtain ⟨a, us, rfl, hs, hr⟩ := rep_seq r es
    cases ds with
    | nil => rw [Option.bind_some, hn] at e; cases e
    | cons x xs =>
      rw [Option.bind_some, hl] at e
      obtain ⟨h, e⟩ := ifs e
      subst e
      rw [Bool.and_eq_true, decide_eq_true_eq] at h
      refine ⟨a, us, x, xs, rfl, hs, hr.dp (likes_plain h.1), likes_alike h.1, h.2, fun i v e1 e2 => ?_⟩
      obtain ⟨d', e3, r3⟩ := hr.get' e1
      rw [e2] at e3
      cases e3
      exact k _ _ (.same w r3)
theorem okMin : OkC K (f1 dMin) (rBest K W.minD) := okBest (fl := dMinL) (fun _ => rfl) rfl fun _ _ => rfl
theorem okMax : OkC K (f1 dMax) (rBest K W.maxD) := okBest (fl := dMaxL) (fun _ => rfl) rfl fun _ _ => rfl
/-! ### sum -/
def rSumD (K : PySem.W.Frag) : List V → Hp → VK → Prop := fun vs H Q => ∃ (a : Addr) (ns : List Int), vs = [V.ref a] ∧ Sq K H a (ns.map V.int) ∧ Q (.int ns.sum) H
theorem cr_sumD (hc : X.calm = true) : CallR X (.builtin "sum") (rSumD X.K) := by
  intro pins s σ H vs us Q I r h
  obtain ⟨a, ns, rfl, hs | hs, q⟩ := h
  · exact cr_sum hc pins s σ H _ us Q I r ⟨a, ns, rfl, hs, q⟩
  · obtain ⟨its, rv, hl, _⟩ := I.tuple hs
    rw [Vals.ref1 r]
    obtain ⟨xs, e⟩ := rv.ints.allInts.items
    have hn : numsOf (intItems xs).toList = ns := by rw [← e]; exact rv.ints.numsOf
    rw [nums_intItems] at hn
    rw [e] at hl
    refine W.ktm_sumG (I.ok.hd hc) hl fun h' tk t' hk => ?_
    refine ⟨.int ns.sum, H, I.kept hk, ⟨t', ?_⟩, q⟩
    rw [preSum_eq, List.take_of_length_le (by simp), hn]
theorem ints_of {H : Hp} : ∀ {vs : List V} {ds : List D} {ns : List Int}, Reps K T A H vs ds → dInts ds = some ns → vs = ns.map V.int ∧ ds = ns.map PyData.int
  | _, _, _, .nil, e => by cases e; exact ⟨rfl, rfl⟩
  | _, _, _, .cons (d := d) (ds := ds) h r, e => by
    cases h with
    | int i =>
      cases e2 : dInts ds with
      | none => simp [dInts, e2] at e
      | some ms =>
        simp only [dInts, e2, Option.map_some, Option.some.injEq] at e
        obtain ⟨h1, h2⟩ := ints_of r e2
        subst e
        exact ⟨by rw [h1]; rfl, by rw [h2]; rfl⟩
    | _ => simp [dInts, tokD, tokA, scrD] at e
theorem okSum : OkC K (f1 dSum) (rSumD K) := okc1 fun T A H v p d Q w r e k => by
  unfold dSum at e
  cases es : dSeq p with
  | none => rw [es] at e; cases e
  | some ds =>
    rw [es, Option.bind_some] at e
    obtain ⟨a, us, rfl, hs, hr⟩ := rep_seq r es
    cases ei : dInts ds with
    | none => rw [ei] at e; cases e
    | some ns =>
      rw [ei] at e
      cases e
      obtain ⟨rfl, _⟩ := ints_of hr ei
      exact ⟨a, ns, rfl, hs, k _ _ (.same w (.int _))⟩
/-! ### all, any (of truth values) -/
def rQu (K : PySem.W.Frag) (g : List Bool → Bool) : List V → Hp → VK → Prop := fun vs H Q => ∃ (a : Addr) (bs : List Bool), vs = [V.ref a] ∧ SqL K H a (bs.map V.bl) ∧ Q (.bl (g bs)) H
theorem bools_of {H : Hp} : ∀ {vs : List V} {ds : List D} {ns : List Bool}, Reps K T A H vs ds → dBools ds = some ns → vs = ns.map V.bl
  | _, _, _, .nil, e => by cases e; rfl
  | _, _, _, .cons (d := d) (ds := ds) h r, e => by
    cases h with
    | bl i =>
      cases e2 : dBools ds with
      | none => simp [dBools, e2] at e
      | some ms =>
        simp only [dBools, e2, Option.map_some, Option.some.injEq] at e
        subst e
        rw [bools_of r e2]
        rfl
    | _ => simp [dBools, tokD, tokA, scrD] at e
def dAllL (d : D) : Option D := match d with | .list xs => (dBools xs).map fun bs => .bool (bs.all id) | _ => none
def dAnyL (d : D) : Option D := match d with | .list xs => (dBools xs).map fun bs => .bool (bs.any id) | _ => none
theorem okAllL : OkC K (f1 dAllL) (rAll K) := okc1 fun T A H v p d Q w r e k => by
  cases r with
  | @lst a us ds n h hr =>
    unfold dAllL at e
    cases ei : dBools ds with
    | none => simp [ei] at e
    | some ns =>
      simp only [ei, Option.map_some, Option.some.injEq] at e
      subst e
      have := bools_of hr ei
      subst this
      exact ⟨a, ns, rfl, SqL.of h, k _ _ (.same w (.bl _))⟩
  | _ => cases e
theorem okAnyL : OkC K (f1 dAnyL) (rAny K) := okc1 fun T A H v p d Q w r e k => by
  cases r with
  | @lst a us ds n h hr =>
    unfold dAnyL at e
    cases ei : dBools ds with
    | none => simp [ei] at e
    | some ns =>
      simp only [ei, Option.map_some, Option.some.injEq] at e
      subst e
      have := bools_of hr ei
      subst this
      exact ⟨a, ns, rfl, SqL.of h, k _ _ (.same w (.bl _))⟩
  | _ => cases e
/-! ### small ones -/
theorem okLen : OkC K (f1 dLen) (fun xs H Q => ∃ x n, xs = [x] ∧ LenV K x H n ∧ Q (.int n) H) := okc1 fun T A H v p d Q w r e k => by
  cases r with
  | str x =>
    obtain ⟨h, e⟩ := ifs e
    subst e
    exact ⟨_, _, rfl, ⟨h, rfl⟩, k _ _ (.same w (.int _))⟩
  | lst n h hr => cases e; exact ⟨_, _, rfl, .inl ⟨_, SqL.of h, hr.length.symm⟩, k _ _ (.same w (.int _))⟩
  | tup h hr => cases e; exact ⟨_, _, rfl, .inr ⟨_, h, hr.length.symm⟩, k _ _ (.same w (.int _))⟩
  | _ => cases e
theorem okAbs : OkC K (f1 dAbs) (fun xs H Q => ∃ i, xs = [.int i] ∧ Q (.int (if i < 0 then -i else i)) H) := okc1 fun T A H v p d Q w r e k => by
  cases r with
  | int i => cases e; exact ⟨i, rfl, k _ _ (.same w (.int _))⟩
  | _ => cases e
theorem okInt : OkC K (f1 dInt) (fun xs H Q => (∃ i, xs = [.int i] ∧ Q (.int i) H) ∨ ∃ k, xs = [.bl k] ∧ Q (.int (if k then 1 else 0)) H) := okc1 fun T A H v p d Q w r e k => by
  cases r with
  | int i => cases e; exact .inl ⟨i, rfl, k _ _ (.same w (.int _))⟩
  | bl b => cases e; exact .inr ⟨b, rfl, k _ _ (.same w (.int _))⟩
  | _ => cases e
theorem okMin2 : OkC K (f2 dMin2) (fun xs H Q => ∃ i j, xs = [.int i, .int j] ∧ Q (.int (if j < i then j else i)) H) := okc2 fun T A H v u p q d Q w r r' e k => by
  cases r with
  | int i =>
    cases r' with
    | int j => cases e; exact ⟨i, j, rfl, k _ _ (.same w (.int _))⟩
    | _ => cases e
  | _ => cases e
theorem okMax2 : OkC K (f2 dMax2) (fun xs H Q => ∃ i j, xs = [.int i, .int j] ∧ Q (.int (if j > i then j else i)) H) := okc2 fun T A H v u p q d Q w r r' e k => by
  cases r with
  | int i =>
    cases r' with
    | int j => cases e; exact ⟨i, j, rfl, k _ _ (.same w (.int _))⟩
    | _ => cases e
  | _ => cases e
theorem okGcd : OkC K (f2 dGcd) rGcd := okc2 fun T A H v u p q d Q w r r' e k => by
  cases r with
  | int i =>
    cases r' with
    | int j => cases e; exact ⟨i, j, rfl, k _ _ (.same w (.int _))⟩
    | _ => cases e
  | _ => cases e
theorem okTuple : OkC K (f1 dTuple) (fun xs H Q => ∃ p ys, xs = [.ref p] ∧ ((SqL K H p ys ∧ ∀ l, H l = none → Q (.ref l) (upd H l (.tup ys))) ∨ (SqT K H p ys ∧ Q (.ref p) H))) := okc1 fun T A H v p d Q w r e k => by
  cases r with
  | @lst a us ds n h hr => cases e; exact ⟨a, us, rfl, .inl ⟨SqL.of h, fun l nl => k _ _ (.tup w nl hr)⟩⟩
  | @tup a us ds h hr => cases e; exact ⟨a, us, rfl, .inr ⟨h, k _ _ (.same w (.tup h hr))⟩⟩
  | _ => cases e
theorem okList : OkC K (f1 dList) (fun xs H Q => ∃ p ys, xs = [.ref p] ∧ (SqL K H p ys ∨ SqT K H p ys) ∧ ∀ l, H l = none → Q (.ref l) (upd H l (.lst ys))) := okc1 fun T A H v p d Q w r e k => by
  cases r with
  | @lst a us ds n h hr => cases e; exact ⟨a, us, rfl, .inl (SqL.of h), fun l nl => k _ _ (.lst w nl hr)⟩
  | @tup a us ds h hr => cases e; exact ⟨a, us, rfl, .inr h, fun l nl => k _ _ (.lst w nl hr)⟩
  | _ => cases e
/-! ### sorted -/
def rSortP (K : PySem.W.Frag) : List V → Hp → VK → Prop := fun vs H Q => ∃ (a : Addr) (us : List V) (ds : List D), vs = [V.ref a] ∧ SqL K H a us ∧ DpAll K H us ds ∧ W.AllAlike ds ∧ W.Sortable ds ∧ PyData.depthAll ds ≤ 60 ∧
  ∀ p us', H p = none → us'.length ≤ sizeLine → W.EachIs (fun x d => (x, d) ∈ us.zip ds) us' (srtD leD ds) → Q (.ref p) (upd H p (.lst us'))
theorem each_zip {R : V → D → Prop} : ∀ {us : List V} {its : List Value} {ds : List D}, Vals us its → us.length = ds.length → (∀ x d, (x, d) ∈ us.zip ds → R x d) → W.EachIs (fun v d => ∃ x, RelV x v ∧ R x d) its ds
  | _, _, [], .nil, _, _ => .nil
  | _, _, _ :: _, .nil, h, _ => by simp at h
  | _, _, [], .cons _ _, h, _ => by simp at h
  | _, _, d :: ds, .cons r t, h, q => .cons ⟨_, r, q _ _ (by simp)⟩ (each_zip t (by simpa using h) fun x d hm => q x d (by
      rw [List.zip_cons_cons]
      exact List.mem_cons_of_mem _ hm))
theorem each_back {R : V → D → Prop} : ∀ {out : List Value} {ds : List D}, W.EachIs (fun v d => ∃ x, RelV x v ∧ R x d) out ds → ∃ us, Vals us out ∧ W.EachIs R us ds
  | _, _, .nil => ⟨[], .nil, .nil⟩
  | _, _, .cons ⟨x, r, h⟩ t => by
    obtain ⟨us, h1, h2⟩ := each_back t
    exact ⟨x :: us, .cons r h1, .cons h h2⟩
theorem dpAll_len {H : Hp} : ∀ {us : List V} {ds : List D}, DpAll K H us ds → us.length = ds.length
  | _, _, .nil => rfl
  | _, _, .cons _ r => by rw [List.length_cons, List.length_cons, dpAll_len r]
theorem depth_mem {ds : List D} {d : D} (h : d ∈ ds) : d.depth ≤ PyData.depthAll ds := by
  induction ds with
  | nil => cases h
  | cons x xs ih =>
    rw [PyData.depthAll]
    rcases List.mem_cons.mp h with rfl | h
    · exact Nat.le_max_left _ _
    · exact Nat.le_trans (ih h) (Nat.le_max_right _ _)
theorem cr_sortP (hu : X.A.units + 64 < cLine) : CallR X (.builtin "sorted") (rSortP X.K) := by
  intro pins s σ H vs us' Q I r h
  obtain ⟨a, us, ds, rfl, hs, hd, hal, hso, hz, q⟩ := h
  rw [Vals.ref1 r]
  obtain ⟨its, rv, hl, hL0⟩ := I.list hs
  obtain ⟨bs, hr⟩ := Inv.dpAll I hd rv
  have hlen := dpAll_len hd
  have hL : ds.length ≤ sizeLine := by rw [← hlen]; exact hL0
  refine W.sorted_data (β := D) (enc := id) (bs := ds) (R := fun v d => ∃ x, RelV x v ∧ (x, d) ∈ us.zip ds) hl.isList (each_zip rv hlen fun x d h => h) ?_ (by rw [List.map_id]; exact hal) (by rw [List.map_id]; exact hso) hL (fun b hb => ?_) fun out hout he => ?_
  · have := W.readsAll_each (h := s.heap) (enc := (id : D → D)) (vs := its) (bs := ds) (as := bs) (by rw [List.map_id]; exact hr)
    exact this
  · have := depth_mem hb
    show X.A.units + 2 + b.depth < cLine
    omega
  · rw [merge_leD] at he
    obtain ⟨us2, h1, h2⟩ := each_back he
    obtain ⟨ep, he'⟩ := PyProof.Rows.sortedAll_at s.heap its out.toArray
    have hlen2 : us2.length ≤ sizeLine := by rw [h1.length, hout]; exact hL
    exact ⟨.ref _, upd H (s.heap.objs.size + 1) (.lst us2), I.laid (t' := s.toks) (fun _ _ => PyProof.Rows.sortedAll_old) (Nat.le_succ _) ⟨hlen2, out, ep, h1, he'⟩, rfl, q _ us2 (I.hok.fresh (Nat.le_succ _)) hlen2 h2⟩
theorem reps_of_each {H : Hp} {us : List V} {ds : List D} (r : Reps K T A H us ds) : ∀ {us' : List V} {ds' : List D}, W.EachIs (fun x d => (x, d) ∈ us.zip ds) us' ds' → Reps K T A H us' ds'
  | _, _, .nil => .nil
  | _, _, .cons h t => .cons (by
      obtain ⟨i, hi⟩ := List.mem_iff_getElem?.mp h
      rw [List.getElem?_zip_eq_some] at hi
      obtain ⟨d, e, q⟩ := r.get' hi.1
      rw [hi.2] at e
      cases e
      exact q) (reps_of_each r t)
theorem sortable_of {xs : List D} (h : sortOk xs = true) : W.Sortable xs := by
  simp only [sortOk, Bool.and_eq_true, List.all_eq_true] at h
  cases xs with
  | nil => exact .inl fun d hd => by cases hd
  | cons x xs =>
    have hm := likes_mem h.1.1
    cases x with
    | tuple ys =>
      refine .inl fun d hd => ?_
      have e := (hm d hd _ List.mem_cons_self).1
      have n := h.2 d hd
      cases d with
      | tuple zs =>
        cases zs with
        | nil => simp at n
        | cons z zs => exact ⟨z, zs, rfl⟩
      | list zs => simp only [cls] at e; split at e <;> split at e <;> cases e
      | _ => simp only [cls] at e; split at e <;> cases e
    | _ =>
      refine .inr fun d hd => ⟨ne_none_cls (hm d hd _ List.mem_cons_self).2, fun zs z => ?_⟩
      subst z
      have e := (hm _ hd _ List.mem_cons_self).1
      simp only [cls] at e
      first
        | (split at e <;> cases e; done)
        | (split at e <;> split at e <;> cases e; done)
end
end Qv

namespace Qv
open PySem PySem.Spec PyProof.Rows L2
section
variable {m : Type → Type} [PM m] {X : Cx} {ρ : Rh} {a b c e : Expr} {es : List Expr} {xa xb xc : m D} {xs : m (List D)} {pos : Pos}
/-! ### subscripts, slices -/
theorem okIx {K : PySem.W.Frag} : OkR K dIx (rIx K) := by
  intro T A H x y p q d Q w rx ry e k
  have at_get : ∀ {us : List V} {ds : List D} {i : Int}, Reps K T A H us ds → atI ds i = some d → ∃ v, atI us i = some v ∧ Rep K T A H v d := by
    intro us ds i r h
    unfold atI at h ⊢
    rw [r.length]
    cases ej : ixN ds.length i with
    | none => rw [ej] at h; cases h
    | some j =>
      rw [ej] at h
      exact r.get h
  cases ry with
  | int i =>
    cases rx with
    | lst n h hr =>
      obtain ⟨v, h1, h2⟩ := at_get hr e
      exact .inl ⟨_, _, i, v, rfl, rfl, SqL.of h, h1, k _ _ (.same w h2)⟩
    | tup h hr =>
      obtain ⟨v, h1, h2⟩ := at_get hr e
      exact .inr (.inl ⟨_, _, i, v, rfl, rfl, h, h1, k _ _ (.same w h2)⟩)
    | str z =>
      unfold dIx at e
      by_cases hz : z.length ≤ sizeLine
      · simp only [hz, if_true] at e
        cases ec : atI z.cps.toList i with
        | none => rw [ec] at e; cases e
        | some c =>
          rw [ec] at e
          cases e
          exact .inr (.inr ⟨z, i, c, rfl, rfl, hz, ec, k _ _ (.same w (.str _))⟩)
      · simp only [hz, if_false] at e
        cases e
    | _ => cases e
  | _ => cases rx <;> cases e
theorem VE.ix (ha : VE X ρ a xa) (hb : VE X ρ b xb) (hs : PlainIx b := by exact fun _ _ => rfl) : VE X ρ (.Subscript a b pos) (xa >>= fun p => xb >>= fun q => PM.lift (dIx p q)) :=
  imE (pe_ix ix_seq ha hb hs) fun _ _ _ h => tOp2 okIx h
/-- a slice's part -/
def tO (K : PySem.W.Frag) (ρ : Rh) (x : m (Option Int)) : TO := fun σ H Q => ∃ T A, Wd T A H ∧ Ev K T A ρ σ H ∧ PM.run x fun o => ∀ H', Step T H H' → T.ok H' → Q o H'
abbrev VO_ (X : Cx) (ρ : Rh) (e : Option Expr) (x : m (Option Int)) : Prop := PO X e (tO X.K ρ x)
theorem imO {e : Option Expr} {t t' : TO} (h : PO X e t) (i : ∀ σ H Q, t' σ H Q → t σ H Q) : PO X e t' := ⟨fun pins s σ H Q I q => h.run pins s σ H Q I (i σ H Q q)⟩
theorem VO_.none : VO_ (m := m) X ρ none (pure none) := imO po_none fun σ H Q ⟨T, A, w, ev, h⟩ => by
  rw [PM.run_pure] at h
  exact h H .refl w.ok
def dIntO : D → Option (Option Int)
  | .int i => some (some i)
  | _ => none
theorem VO_.some (h : VE X ρ e xa) : VO_ X ρ (some e) (xa >>= fun p => PM.lift (dIntO p)) := imO (po_some h) fun σ H Q ⟨T, A, w, ev, h⟩ => by
  rw [PM.run_bind] at h
  refine ⟨T, A, w, ev, PM.mono (fun p h v H1 o => ?_) h⟩
  rw [PM.run_lift] at h
  obtain ⟨k, e1, h1⟩ := h
  cases p with
  | int i => cases e1; cases o.rp; exact ⟨i, rfl, h1 H1 o.st o.ok⟩
  | _ => cases e1
theorem sl_seq : SlR X (fun x lo hi H Q => rSlL X.K x lo hi H Q ∨ (rSlA X.K x lo hi H Q ∨ rSlS x lo hi H Q)) := sl_list.or (sl_tupA.or sl_str)
theorem cut_whole {α : Type} (xs : List α) (lo hi : Option Int) (h : HT.sIx xs.length 0 lo = 0 ∧ HT.sIx xs.length xs.length hi = xs.length) : (xs.drop (HT.sIx xs.length 0 lo)).take (HT.sIx xs.length xs.length hi - HT.sIx xs.length 0 lo) = xs := by
  rw [h.1, h.2, List.drop_zero, Nat.sub_zero, List.take_length]
theorem VE.slice {lo hi : Option Expr} {xl xh : m (Option Int)} {p2 : Pos} (ha : VE X ρ a xa) (hl : VO_ X ρ lo xl) (hh : VO_ X ρ hi xh) : VE X ρ (.Subscript a (.Slice lo hi none p2) pos) (xa >>= fun p => xl >>= fun l => xh >>= fun u => PM.lift (dSlice p l u)) :=
  imE (pe_slice sl_seq ha hl hh) fun σ H Q h => seqE h fun T A v H1 p w ev rp h => by
    rw [PM.run_bind] at h
    refine ⟨T, A, w, ev, PM.mono (fun l h H2 s2 o2 => ?_) h⟩
    rw [PM.run_bind] at h
    refine ⟨T, A, w.step s2 o2, ev.step w s2, PM.mono (fun u h H3 s3 o3 => ?_) h⟩
    rw [PM.run_lift] at h
    obtain ⟨d, e, k⟩ := h
    have w3 := (w.step s2 o2).step s3 o3
    have rp3 := (rp.step w s2).step (w.step s2 o2) s3
    have k3 : ∀ v H', Post X.K T A H3 H' d v → Q v H' := fun v H' q => k v H' (q.after (s2.trans s3))
    cases rp3 with
    | @lst a us ds n hs hr =>
      cases e
      refine .inl ⟨a, us, rfl, SqL.of hs, fun p np => ?_⟩
      refine k3 _ _ (.lst w3 np ?_)
      unfold cutV cutD
      rw [hr.length]
      exact (hr.drop _).take _
    | @tup a us ds hs hr =>
      cases e
      have hc : Reps X.K T A H3 (cutV us l u) (cutD ds l u) := by
        unfold cutV cutD
        rw [hr.length]
        exact (hr.drop _).take _
      refine .inr (.inl ⟨a, us, rfl, hs, fun hw => ?_, fun hw p np => k3 _ _ (.tup w3 np hc)⟩)
      have e1 : cutV us l u = us := cut_whole us l u hw
      rw [e1] at hc
      exact k3 _ _ (.same w3 (.tup hs hc))
    | str z =>
      obtain ⟨hz, e⟩ := ifs e
      subst e
      exact .inr (.inr ⟨z, rfl, hz, k3 _ _ (.same w3 (.str _))⟩)
    | _ => cases e
/-! ### two comparisons in a row -/
theorem VP.chain {op op' : CmpOp} {r r' : R2} {f f' : D → D → Option D} (ho : OpR X (compareOp op) r) (ho' : OpR X (compareOp op') r') (hr : OkR X.K f r) (hr' : OkR X.K f' r') (ha : VE X ρ a xa) (hb : VE X ρ b xb) (hc : VE X ρ c xc)
    (hm : lastMarks [op, op'] [b, c] = false := by with_unfolding_all rfl) :
    VP X ρ (.Compare a [op, op'] [b, c] pos) (xa >>= fun p => xb >>= fun q => PM.lift ((f p q).bind dBool) >>= fun k => if k = true then xc >>= fun r => PM.lift ((f' q r).bind dBool) else pure false) :=
  imT (pt_chain ho ho' ha hb hc hm) fun σ H Q ⟨T, A, w, ev, h⟩ => by
    rw [PM.run_bind] at h
    refine ⟨T, A, w, ev, PM.mono (fun p h v H1 o1 => ?_) h⟩
    rw [PM.run_bind] at h
    refine ⟨T, A, o1.wd w, ev.step w o1.st, PM.mono (fun q h v2 H2 o2 => ?_) h⟩
    rw [PM.run_bind, PM.run_lift] at h
    obtain ⟨k, e, h⟩ := h
    have w2 := o2.wd (o1.wd w)
    have ev2 := (ev.step w o1.st).step (o1.wd w) o2.st
    cases ef : f p q with
    | none => rw [ef] at e; cases e
    | some d =>
      rw [ef, Option.bind_some] at e
      refine hr T A H2 v v2 p q d _ w2 (o1.rp.step (o1.wd w) o2.st) o2.rp ef fun v3 H3 o3 => ?_
      cases d with
      | bool kk =>
        cases e
        have r3 := o3.rp
        cases r3
        refine ⟨k, rfl, ?_⟩
        cases k with
        | true =>
          rw [if_pos rfl] at h ⊢
          rw [PM.run_bind] at h
          refine ⟨T, A, o3.wd w2, ev2.step w2 o3.st, PM.mono (fun r h v4 H4 o4 => ?_) h⟩
          rw [PM.run_lift] at h
          obtain ⟨k2, e2, h⟩ := h
          cases ef2 : f' q r with
          | none => rw [ef2] at e2; cases e2
          | some d2 =>
            rw [ef2, Option.bind_some] at e2
            refine hr' T A H4 v2 v4 q r d2 _ (o4.wd (o3.wd w2)) ((o2.rp.step w2 o3.st).step (o3.wd w2) o4.st) o4.rp ef2 fun v5 H5 o5 => ?_
            cases d2 with
            | bool k5 =>
              cases e2
              have r5 := o5.rp
              cases r5
              exact ⟨_, rfl, h H5 (o1.st.trans (o2.st.trans (o3.st.trans (o4.st.trans o5.st)))) o5.ok⟩
            | _ => cases e2
        | false =>
          rw [if_neg Bool.false_ne_true] at h ⊢
          rw [PM.run_pure] at h
          exact ⟨false, rfl, h H3 (o1.st.trans (o2.st.trans o3.st)) o3.ok⟩
      | _ => cases e
theorem VE.chain {op op' : CmpOp} {r r' : R2} {f f' : D → D → Option D} (ho : OpR X (compareOp op) r) (ho' : OpR X (compareOp op') r') (hr : OkR X.K f r) (hr' : OkR X.K f' r') (ha : VE X ρ a xa) (hb : VE X ρ b xb) (hc : VE X ρ c xc)
    (hm : lastMarks [op, op'] [b, c] = false := by with_unfolding_all rfl) :
    VE X ρ (.Compare a [op, op'] [b, c] pos) (xa >>= fun p => xb >>= fun q => PM.lift ((f p q).bind dBool) >>= fun k => if k = true then xc >>= fun r => PM.lift (f' q r) else pure (.bool false)) :=
  imE (pe_chain ho ho' ha hb hc hm) fun σ H Q ⟨T, A, w, ev, h⟩ => by
    rw [PM.run_bind] at h
    refine ⟨T, A, w, ev, PM.mono (fun p h v H1 o1 => ?_) h⟩
    rw [PM.run_bind] at h
    refine ⟨T, A, o1.wd w, ev.step w o1.st, PM.mono (fun q h v2 H2 o2 => ?_) h⟩
    rw [PM.run_bind, PM.run_lift] at h
    obtain ⟨k, e, h⟩ := h
    have w2 := o2.wd (o1.wd w)
    have ev2 := (ev.step w o1.st).step (o1.wd w) o2.st
    cases ef : f p q with
    | none => rw [ef] at e; cases e
    | some d =>
      rw [ef, Option.bind_some] at e
      refine hr T A H2 v v2 p q d _ w2 (o1.rp.step (o1.wd w) o2.st) o2.rp ef fun v3 H3 o3 => ?_
      cases d with
      | bool kk =>
        cases e
        have r3 := o3.rp
        cases r3
        refine ⟨k, rfl, ?_⟩
        cases k with
        | true =>
          rw [if_pos rfl] at h ⊢
          rw [PM.run_bind] at h
          refine ⟨T, A, o3.wd w2, ev2.step w2 o3.st, PM.mono (fun r h v4 H4 o4 => ?_) h⟩
          rw [PM.run_lift] at h
          obtain ⟨d2, ef2, h⟩ := h
          exact hr' T A H4 v2 v4 q r d2 _ (o4.wd (o3.wd w2)) ((o2.rp.step w2 o3.st).step (o3.wd w2) o4.st) o4.rp ef2 fun v5 H5 o5 => h v5 H5 (o5.after (o1.st.trans (o2.st.trans (o3.st.trans o4.st))))
        | false =>
          rw [if_neg Bool.false_ne_true] at h ⊢
          rw [PM.run_pure] at h
          exact h _ H3 ⟨o1.st.trans (o2.st.trans o3.st), o3.ok, .bl _⟩
      | _ => cases e
/-! ### and, or, not as values (of truth values); e if c else f -/
theorem VE.one {op : BoolOp} (h : VE X ρ a xa) : VE X ρ (.BoolOp op [a] pos) xa := pe_one h
theorem VE.and {rest : List Expr} (ha : VE X ρ a xa) (hb : VE X ρ (.BoolOp .And (b :: rest) pos) xb) : VE X ρ (.BoolOp .And (a :: b :: rest) pos) (xa >>= fun p => PM.lift (dBool p) >>= fun k => if k = true then xb else pure (.bool false)) :=
  imE (pe_and ha hb) fun σ H Q h => seqE h fun T A v H1 p w ev rp h => by
    rw [PM.run_bind, PM.run_lift] at h
    obtain ⟨k, e, h⟩ := h
    cases p with
    | bool kk =>
      cases e
      cases rp
      refine ⟨k, rfl, ?_⟩
      cases k with
      | true => rw [if_pos rfl] at h ⊢; exact ⟨T, A, w, ev, h⟩
      | false => rw [if_neg Bool.false_ne_true] at h ⊢; rw [PM.run_pure] at h; exact h _ _ (.same w (.bl _))
    | _ => cases e
theorem VE.or {rest : List Expr} (ha : VE X ρ a xa) (hb : VE X ρ (.BoolOp .Or (b :: rest) pos) xb) : VE X ρ (.BoolOp .Or (a :: b :: rest) pos) (xa >>= fun p => PM.lift (dBool p) >>= fun k => if k = true then pure (.bool true) else xb) :=
  imE (pe_or ha hb) fun σ H Q h => seqE h fun T A v H1 p w ev rp h => by
    rw [PM.run_bind, PM.run_lift] at h
    obtain ⟨k, e, h⟩ := h
    cases p with
    | bool kk =>
      cases e
      cases rp
      refine ⟨k, rfl, ?_⟩
      cases k with
      | false => rw [if_neg Bool.false_ne_true] at h ⊢; exact ⟨T, A, w, ev, h⟩
      | true => rw [if_pos rfl] at h ⊢; rw [PM.run_pure] at h; exact h _ _ (.same w (.bl _))
    | _ => cases e
theorem truV_of {K : PySem.W.Frag} {T : Tk} {A : Addr → Prop} {H : Hp} {v : V} {p : D} {k : Bool} (r : Rep K T A H v p) (e : dTruth p = some k) : TruV K v H k := by
  cases r with
  | non => cases e; exact rfl
  | bl b => cases e; exact rfl
  | int i => cases e; exact rfl
  | str x =>
    have q := ifs e
    exact ⟨q.1, q.2.symm⟩
  | lst n hs hr =>
    have e2 := Option.some.inj e
    have hl := hr.length
    exact .inl ⟨_, .inl (.inl hs), by rw [← e2]; rename_i xs ds; cases xs <;> cases ds <;> simp at hl ⊢⟩
  | tup hs hr =>
    have e2 := Option.some.inj e
    have hl := hr.length
    exact .inr (.inl ⟨_, hs, by rw [← e2]; rename_i xs ds; cases xs <;> cases ds <;> simp at hl ⊢⟩)
  | tok => cases e
  | tok2 => cases e
  | scr => cases e
theorem VE.not (ha : VE X ρ a xa) : VE X ρ (.UnaryOp .Not a pos) (xa >>= fun p => PM.lift (dTruth p) >>= fun k => pure (.bool (!k))) :=
  imE (pe_notT ha) fun σ H Q h => seqE h fun T A v H1 p w ev rp h => by
    rw [PM.run_bind, PM.run_lift] at h
    obtain ⟨k, e, h⟩ := h
    rw [PM.run_pure] at h
    exact ⟨k, truV_of rp e, h _ _ (.same w (.bl _))⟩
theorem VE.ifx {tc : m Bool} (hc : VP X ρ c tc) (ha : VE X ρ a xa) (hb : VE X ρ b xb) : VE X ρ (.IfExp c a b pos) (tc >>= fun k => if k = true then xa else xb) :=
  imE (pe_ifExp hc ha hb) fun σ H Q ⟨T, A, w, ev, h⟩ => by
    rw [PM.run_bind] at h
    refine ⟨T, A, w, ev, PM.mono (fun k h H1 s1 o1 => ?_) h⟩
    cases k with
    | true =>
      rw [if_pos rfl] at h ⊢
      exact ⟨T, A, w.step s1 o1, ev.step w s1, PM.mono (fun p h v H2 q => h v H2 (q.after s1)) h⟩
    | false =>
      rw [if_neg Bool.false_ne_true] at h ⊢
      exact ⟨T, A, w.step s1 o1, ev.step w s1, PM.mono (fun p h v H2 q => h v H2 (q.after s1)) h⟩
/-! ### calls -/
theorem VE.bi {id : String} {x : Str} {p : Pos} {r : List V → Hp → VK → Prop} {f : List D → Option D} (hc : CallR X (.builtin id) r) (hk : OkC X.K f r) (hm : X.mg x = none) (hv : bootBuiltins x = some (.builtin id)) (ha : VA X ρ (e :: es) xs) (hg : Gl X x := by rfl) (hn : x ≠ "__name__" := by decide) (hdb : (x == ("__debug__" : Str)) = false := by decide)
    (he : starEach (e :: es) X.env = (false, eval e X.env) :: starEach es X.env := by rfl) (hpl : (backTo pos (starEach es X.env)).any (·.1) = false := by rfl) : VE X ρ (.Call (.Name x p) (e :: es) [] pos) (xs >>= fun l => PM.lift (f l)) :=
  imE (pe_callB hc hg hm hv ha.pa hn hdb he hpl) fun σ H Q ⟨T, A, w, ev, h⟩ => by
    rw [PM.run_bind] at h
    refine ⟨T, A, w, ev, PM.mono (fun l h vs H1 s1 o1 r1 => ?_) h⟩
    rw [PM.run_lift] at h
    obtain ⟨d, e, h⟩ := h
    exact hk T A H1 vs l d Q (w.step s1 o1) r1 e fun v H' q => h v H' (q.after s1)
theorem VE.ty {id : String} {x : Str} {p : Pos} {r : List V → Hp → VK → Prop} {f : List D → Option D} (hc : CallR X (.type id) r) (hk : OkC X.K f r) (hm : X.mg x = none) (hv : bootBuiltins x = some (.type id)) (ha : VA X ρ (e :: es) xs) (hg : Gl X x := by rfl) (hn : x ≠ "__name__" := by decide) (hdb : (x == ("__debug__" : Str)) = false := by decide)
    (he : starEach (e :: es) X.env = (false, eval e X.env) :: starEach es X.env := by rfl) (hpl : (backTo pos (starEach es X.env)).any (·.1) = false := by rfl) : VE X ρ (.Call (.Name x p) (e :: es) [] pos) (xs >>= fun l => PM.lift (f l)) :=
  imE (pe_callTy hc hg hm hv ha.pa hn hdb he hpl) fun σ H Q ⟨T, A, w, ev, h⟩ => by
    rw [PM.run_bind] at h
    refine ⟨T, A, w, ev, PM.mono (fun l h vs H1 s1 o1 r1 => ?_) h⟩
    rw [PM.run_lift] at h
    obtain ⟨d, e, h⟩ := h
    exact hk T A H1 vs l d Q (w.step s1 o1) r1 e fun v H' q => h v H' (q.after s1)
theorem VE.fun {id : String} {x : Str} {p : Pos} {r : List V → Hp → VK → Prop} {f : List D → Option D} (hc : CallR X (.builtin id) r) (hk : OkC X.K f r) (hm : X.mg x = some (.builtin id)) (ha : VA X ρ (e :: es) xs) (hg : Gl X x := by rfl) (hdb : (x == ("__debug__" : Str)) = false := by decide)
    (he : starEach (e :: es) X.env = (false, eval e X.env) :: starEach es X.env := by rfl) (hpl : (backTo pos (starEach es X.env)).any (·.1) = false := by rfl) : VE X ρ (.Call (.Name x p) (e :: es) [] pos) (xs >>= fun l => PM.lift (f l)) :=
  imE (pe_callBfun hc hg hm ha.pa hdb he hpl) fun σ H Q ⟨T, A, w, ev, h⟩ => by
    rw [PM.run_bind] at h
    refine ⟨T, A, w, ev, PM.mono (fun l h vs H1 s1 o1 r1 => ?_) h⟩
    rw [PM.run_lift] at h
    obtain ⟨d, e, h⟩ := h
    exact hk T A H1 vs l d Q (w.step s1 o1) r1 e fun v H' q => h v H' (q.after s1)
/-- what a def does with plain values -/
def spC (K : PySem.W.Frag) (C : List D → m D) : Sp := fun vs H Q _ => ∃ T A ds, Wd T A H ∧ Reps K T A H vs ds ∧ PM.run (C ds) fun p => ∀ v H', Post K T A H H' p v → Q v H'
/-- a def that stands at the module's name x -/
structure FC (P : Program) (w : World) (K : PySem.W.Frag) (mg : Str → Option Value) (base : Heap) (k : Nat) (x : Str) (C : List D → m D) : Prop where
  ex : ∃ f fd ps, FnOk P w K mg base CX0 k f fd ps (spC K C) ∧ mg x = some (.ref f) ∧ PySem.W.keepIn K (.ref f) = true ∧ Binds K fd ps []
theorem FC.mono {P : Program} {w : World} {K : PySem.W.Frag} {mg : Str → Option Value} {base : Heap} {k j : Nat} {x : Str} {C : List D → m D} (F : FC P w K mg base k x C) (h : k ≤ j) : FC P w K mg base j x C := by
  obtain ⟨f, fd, ps, h1, h2, h3, h4⟩ := F.ex
  exact ⟨f, fd, ps, h1.mono h, h2, h3, h4⟩
/-- a def without draws -/
theorem VE.call {k : Nat} {x : Str} {p : Pos} {C : List D → Option D} (F : FC X.prog X.w X.K X.mg X.base k x C) (hr : Room k X.A) (ha : VA X ρ (e :: es) xs) (hg : Gl X x := by rfl) (hdb : (x == ("__debug__" : Str)) = false := by decide)
    (he : starEach (e :: es) X.env = (false, eval e X.env) :: starEach es X.env := by rfl) (hpl : (backTo pos (starEach es X.env)).any (·.1) = false := by rfl) : VE X ρ (.Call (.Name x p) (e :: es) [] pos) (xs >>= fun l => PM.lift (C l)) := by
  obtain ⟨f, fd, ps, F1, hm, hk, hb⟩ := F.ex
  refine imE (pe_call F1 hr hg hm hk hb .nil pass0 ha.pa hdb he hpl) fun σ H Q ⟨T, A, w, ev, h⟩ => ?_
  rw [PM.run_bind] at h
  refine ⟨T, A, w, ev, PM.mono (fun l h vs H1 s1 o1 r1 => ?_) h⟩
  rw [PM.run_lift] at h
  show spC X.K C (vs ++ []) H1 Q E0
  rw [List.append_nil]
  exact ⟨T, A, l, w.step s1 o1, r1, PM.mono (m := Option) (fun d h v H' q => h v H' (q.after s1)) h⟩
theorem VE.call0 {k : Nat} {x : Str} {p : Pos} {C : List D → Option D} (F : FC X.prog X.w X.K X.mg X.base k x C) (hr : Room k X.A) (hg : Gl X x := by rfl) (hdb : (x == ("__debug__" : Str)) = false := by decide) : VE (m := m) X ρ (.Call (.Name x p) [] [] pos) (PM.lift (C [])) := by
  obtain ⟨f, fd, ps, F1, hm, hk, hb⟩ := F.ex
  refine imE (pe_call0 F1 hr hg hm hk hb .nil pass0 hdb) fun σ H Q ⟨T, A, w, ev, h⟩ => ?_
  rw [PM.run_lift] at h
  exact ⟨T, A, [], w, .nil, h⟩
/-- a def that draws -/
theorem VE.callP {k : Nat} {x : Str} {p : Pos} {C : List D → PP D} {xs : PP (List D)} (F : FC X.prog X.w X.K X.mg X.base k x C) (hr : Room k X.A) (ha : VA X ρ (e :: es) xs) (hg : Gl X x := by rfl) (hdb : (x == ("__debug__" : Str)) = false := by decide)
    (he : starEach (e :: es) X.env = (false, eval e X.env) :: starEach es X.env := by rfl) (hpl : (backTo pos (starEach es X.env)).any (·.1) = false := by rfl) : VE X ρ (.Call (.Name x p) (e :: es) [] pos) (xs >>= fun l => C l) := by
  obtain ⟨f, fd, ps, F1, hm, hk, hb⟩ := F.ex
  refine imE (pe_call F1 hr hg hm hk hb .nil pass0 ha.pa hdb he hpl) fun σ H Q ⟨T, A, w, ev, h⟩ => ?_
  rw [PM.run_bind] at h
  refine ⟨T, A, w, ev, PM.mono (fun l h vs H1 s1 o1 r1 => ?_) h⟩
  show spC X.K C (vs ++ []) H1 Q E0
  rw [List.append_nil]
  exact ⟨T, A, l, w.step s1 o1, r1, PM.mono (m := PP) (fun d h v H' q => h v H' (q.after s1)) h⟩
/-! ### isinstance of a built-in class -/
def rIsP (K : PySem.W.Frag) (t : V) (g : D → Bool) : List V → Hp → VK → Prop := fun vs H Q => ∃ (v : V) (d : D), vs = [v, t] ∧ Dp K H v d ∧ Q (.bl (g d)) H
theorem cr_is {T : String} {g : D → Bool} (h : ∀ (s : Shared) (v : Value) (d : D) (as : List Addr) (Q : Value → Shared → Prop), Reads s.heap v d as → (∀ tk, s.toks ≤ tk → Q (.bool (g d)) { s with toks := tk }) → wpAny (model X.prog X.w) X.A (call (.builtin "isinstance") [v, .type T]) Q X.xe s) : CallR X (.builtin "isinstance") (rIsP X.K (.ty T) g) := by
  intro pins s σ H vs us Q I r ⟨v, d, e, hd, q⟩
  subst e
  obtain ⟨u1, u2, rfl, r1, r2⟩ := vals2 r
  obtain ⟨as, rr⟩ := Dp.reads I d v u1 hd r1
  cases (show u2 = Value.type T from r2)
  exact h s u1 d as _ rr fun tk _ => ⟨.bl _, H, I.tok tk, rfl, q⟩
theorem cr_isInt : CallR X (.builtin "isinstance") (rIsP X.K (.ty "int") PyData.isInt) := cr_is fun s v d as Q r h => PySem.W.isinstance_int_data r h
theorem cr_isBool : CallR X (.builtin "isinstance") (rIsP X.K (.ty "bool") PyData.isBool) := cr_is fun s v d as Q r h => PySem.W.isinstance_bool_data r h
theorem cr_isStr : CallR X (.builtin "isinstance") (rIsP X.K (.ty "str") PyData.isStr) := cr_is fun s v d as Q r h => PySem.W.isinstance_str_data r h
theorem cr_isList : CallR X (.builtin "isinstance") (rIsP X.K (.ty "list") PyData.isList) := cr_is fun s v d as Q r h => PySem.W.isinstance_list_data r h
theorem cr_isTuple : CallR X (.builtin "isinstance") (rIsP X.K (.ty "tuple") PyData.isTuple) := cr_is fun s v d as Q r h => PySem.W.isinstance_tuple_data r h
def plainB (g : D → Bool) (d : D) : Option D := if d.plain then some (.bool (g d)) else none
/-- isinstance(e, T) -/
theorem VE.isi {T : String} {g : D → Bool} {p p2 : Pos} {x : Str} (hc : CallR X (.builtin "isinstance") (rIsP X.K (.ty T) g)) (hm : X.mg "isinstance" = none) (hmx : X.mg x = none) (hvx : bootBuiltins x = some (.type T)) (ha : VE X ρ a xa) (hg : Gl X "isinstance" := by rfl) (hgx : Gl X x := by rfl) (hn : x ≠ "__name__" := by decide) (hdb : (x == ("__debug__" : Str)) = false := by decide)
    (he : starEach [a, .Name x p2] X.env = (false, eval a X.env) :: starEach [.Name x p2] X.env := by rfl) (he2 : starEach [.Name x p2] X.env = (false, eval (.Name x p2) X.env) :: starEach [] X.env := by rfl) (hpl : (backTo pos (starEach [.Name x p2] X.env)).any (·.1) = false := by rfl) :
    VE X ρ (.Call (.Name "isinstance" p) [a, .Name x p2] [] pos) (xa >>= fun q => PM.lift (plainB g q)) :=
  imE (pe_callB hc hg hm boot_isinstance (pa_cons ha (pa_cons (pe_bltn (v := .ty T) hgx hmx hvx rfl hn hdb) pa_nil he2) he) (by decide) (by decide) he hpl) fun σ H Q h => seqE h fun T' A v H1 p w ev rp h => by
    rw [PM.run_lift] at h
    obtain ⟨d, e, h⟩ := h
    obtain ⟨hp, e⟩ := ifs e
    subst e
    exact ⟨v, p, rfl, rp.dp hp, h _ _ (.same w (.bl _))⟩
end
end Qv

namespace Qv
open PySem PySem.Spec PyProof.Rows L2
/-! ## what is walked -/
section
variable {K : PySem.W.Frag} {T : Tk} {A : Addr → Prop}
/-- the items of what J walks, as long as all but A stays -/
def ItOk (K : PySem.W.Frag) (T : Tk) (A : Addr → Prop) (J : It) (ps : List D) (H0 : Hp) : Prop := ∀ (B : Addr → Prop), (∀ a, B a → A a ∨ H0 a = none) → ∀ (i : Nat) (H : Hp), Wd T B H → StA B H0 H →
  (∀ p, ps[i]? = some p → J.go i H ∧ ∀ x H', J.yld i H x H' → (∀ a o, H a = some o → H' a = some o) ∧ T.ok H' ∧ Rep K T B H' x p) ∧ (ps.length ≤ i → J.stop i H)
theorem munB {B : Addr → Prop} {H0 : Hp} (w0 : Wd T A H0) (hB : ∀ a, B a → A a ∨ H0 a = none) : MuN B H0 := fun a q => (hB a q).elim (fun z => .inr (w0.mu a z)) .inl
theorem notB {B : Addr → Prop} {H0 : Hp} {a : Addr} {o : HO} (n : ¬ A a) (h : H0 a = some o) (hB : ∀ a, B a → A a ∨ H0 a = none) : ¬ B a := fun q => (hB a q).elim n fun z => by rw [h] at z; cases z
theorem itList {a : Addr} {us : List V} {ds : List D} {H0 : Hp} (n : ¬ A a) (h : H0 a = some (.lst us)) (r : Reps K T A H0 us ds) (w0 : Wd T A H0) : ItOk K T A (Itl K a) ds H0 := fun B hB i H w s => by
  have hs : SqL K H a us := SqL.of (s a _ h (notB n h hB))
  have r2 := (r.ext hB).stA (munB w0 hB) s
  refine ⟨fun p e => ?_, fun e => ⟨us, hs, by rw [r.length]; exact e⟩⟩
  obtain ⟨v, e1, r1⟩ := r2.get e
  refine ⟨⟨us, v, hs, e1⟩, fun x H' ⟨e2, y⟩ => ?_⟩
  subst e2
  have e3 := y us hs
  rw [e1] at e3
  cases e3
  exact ⟨fun _ _ h => h, w.ok, r1⟩
theorem itTup {a : Addr} {us : List V} {ds : List D} {H0 : Hp} (h : SqT K H0 a us) (r : Reps K T A H0 us ds) (w0 : Wd T A H0) : ItOk K T A (Itt K a) ds H0 := fun B hB i H w s => by
  have hs : SqT K H a us := sqT_stA (munB w0 hB) h s
  have r2 := (r.ext hB).stA (munB w0 hB) s
  refine ⟨fun p e => ?_, fun e => ⟨us, hs, by rw [r.length]; exact e⟩⟩
  obtain ⟨v, e1, r1⟩ := r2.get e
  refine ⟨⟨us, v, hs, e1⟩, fun x H' ⟨e2, y⟩ => ?_⟩
  subst e2
  have e3 := y us hs
  rw [e1] at e3
  cases e3
  exact ⟨fun _ _ h => h, w.ok, r1⟩
theorem rgL_get {lo : Int} {n i : Nat} {p : D} (h : (rgL lo n)[i]? = some p) : i < n ∧ p = .int (lo + i) := by
  unfold rgL at h
  rw [List.getElem?_map] at h
  by_cases hi : i < n
  · rw [List.getElem?_range hi] at h
    exact ⟨hi, (Option.some.inj h).symm⟩
  · rw [List.getElem?_eq_none (by simpa using Nat.le_of_not_lt hi)] at h
    cases h
theorem itRng {lo : Int} {n : Nat} {H0 : Hp} : ItOk K T A (Itr lo n) (rgL lo n) H0 := fun B hB i H w s => by
  refine ⟨fun p e => ?_, fun e => show n ≤ i by simpa [rgL] using e⟩
  obtain ⟨h1, rfl⟩ := rgL_get e
  refine ⟨h1, fun x H' ⟨e2, y⟩ => ?_⟩
  subst e2 y
  exact ⟨fun _ _ h => h, w.ok, .int _⟩
def strL (x : Str) : List D := x.cps.toList.map fun c => .str ⟨#[c]⟩
theorem itStr {x : Str} {H0 : Hp} : ItOk K T A (Its x) (strL x) H0 := fun B hB i H w s => by
  have hl : (strL x).length = x.cps.size := by simp [strL]
  refine ⟨fun p e => ?_, fun e => by rw [hl] at e; exact e⟩
  have hi : i < x.cps.size := by rw [← hl]; exact (List.getElem?_eq_some_iff.mp e).1
  refine ⟨hi, fun v H' ⟨e2, c, ec, ev⟩ => ?_⟩
  subst e2 ev
  refine ⟨fun _ _ h => h, w.ok, ?_⟩
  unfold strL at e
  rw [List.getElem?_map] at e
  have e3 : x.cps.toList[i]? = some c := by simpa using ec
  rw [e3] at e
  cases e
  exact .str _
/-- new tuples of a turn -/
theorem new_tup {H : Hp} {t : Addr} {us : List V} {ds : List D} (w : Wd T A H) (n : H t = none) (r : Reps K T A H us ds) : (∀ a o, H a = some o → (upd H t (.tup us)) a = some o) ∧ T.ok (upd H t (.tup us)) ∧ Rep K T A (upd H t (.tup us)) (.ref t) (.tuple ds) := by
  have q := Post.tup (K := K) w n r
  exact ⟨fun a o e => by rw [upd_ne (ne_of_none e n)]; exact e, q.ok, q.rp⟩
def enumFrom (k : Nat) : List D → List D
  | [] => []
  | d :: ds => .tuple [.int k, d] :: enumFrom (k + 1) ds
theorem enum_get : ∀ {ds : List D} {k i : Nat} {p : D}, (enumFrom k ds)[i]? = some p → ∃ d, ds[i]? = some d ∧ p = .tuple [.int ((k + i : Nat) : Int), d]
  | [], _, _, _, h => by simp [enumFrom] at h
  | d :: ds, k, 0, p, h => by simp [enumFrom] at h; exact ⟨d, rfl, by rw [← h]; rfl⟩
  | d :: ds, k, i + 1, p, h => by
    obtain ⟨d', e1, e2⟩ := enum_get (ds := ds) (k := k + 1) (i := i) (p := p) (by simpa [enumFrom] using h)
    exact ⟨d', by simpa using e1, by rw [e2, show k + 1 + i = k + (i + 1) by omega]⟩
theorem enum_len : ∀ (ds : List D) (k : Nat), (enumFrom k ds).length = ds.length
  | [], _ => rfl
  | d :: ds, k => by simp [enumFrom, enum_len ds (k + 1)]
theorem itEnum {a : Addr} {us : List V} {ds : List D} {H0 : Hp} (n : ¬ A a) (h : H0 a = some (.lst us)) (r : Reps K T A H0 us ds) (w0 : Wd T A H0) : ItOk K T A (Ite K a) (enumFrom 0 ds) H0 := fun B hB i H w s => by
  have hs : SqL K H a us := SqL.of (s a _ h (notB n h hB))
  have r2 := (r.ext hB).stA (munB w0 hB) s
  refine ⟨fun p e => ?_, fun e => ⟨us, hs, by rw [enum_len] at e; rw [r.length]; exact e⟩⟩
  obtain ⟨d, e0, rfl⟩ := enum_get e
  obtain ⟨v, e1, r1⟩ := r2.get e0
  refine ⟨⟨us, v, hs, e1⟩, fun x H' ⟨t, x1, ex, nt, eH, y⟩ => ?_⟩
  subst ex eH
  have e3 := y us hs
  rw [e1] at e3
  cases e3
  rw [Nat.zero_add]
  exact new_tup w nt (.cons (.int _) (.cons r1 .nil))
def zipD : List D → List D → List D
  | x :: xs, y :: ys => .tuple [x, y] :: zipD xs ys
  | _, _ => []
theorem zip_get : ∀ {xs ys : List D} {i : Nat} {p : D}, (zipD xs ys)[i]? = some p → ∃ x y, xs[i]? = some x ∧ ys[i]? = some y ∧ p = .tuple [x, y]
  | [], _, _, _, h => by simp [zipD] at h
  | _ :: _, [], _, _, h => by simp [zipD] at h
  | x :: xs, y :: ys, 0, p, h => by simp [zipD] at h; exact ⟨x, y, rfl, rfl, h.symm⟩
  | x :: xs, y :: ys, i + 1, p, h => by
    obtain ⟨x', y', e1, e2, e3⟩ := zip_get (xs := xs) (ys := ys) (i := i) (p := p) (by simpa [zipD] using h)
    exact ⟨x', y', by simpa using e1, by simpa using e2, e3⟩
theorem zip_len : ∀ (xs ys : List D), (zipD xs ys).length = min xs.length ys.length
  | [], _ => by simp [zipD]
  | _ :: _, [] => by simp [zipD]
  | x :: xs, y :: ys => by simp [zipD, zip_len xs ys]
theorem itZip {a b : Addr} {us ws : List V} {ds es : List D} {H0 : Hp} (n : ¬ A a) (h : H0 a = some (.lst us)) (r : Reps K T A H0 us ds) (n' : ¬ A b) (h' : H0 b = some (.lst ws)) (r' : Reps K T A H0 ws es) (w0 : Wd T A H0) : ItOk K T A (Itz K a b) (zipD ds es) H0 := fun B hB i H w s => by
  have hs : SqL K H a us := SqL.of (s a _ h (notB n h hB))
  have hs' : SqL K H b ws := SqL.of (s b _ h' (notB n' h' hB))
  have r2 := (r.ext hB).stA (munB w0 hB) s
  have r2' := (r'.ext hB).stA (munB w0 hB) s
  refine ⟨fun p e => ?_, fun e => ⟨us, ws, hs, hs', by rw [zip_len] at e; rw [r.length, r'.length]; omega⟩⟩
  obtain ⟨d, d', e0, e0', rfl⟩ := zip_get e
  obtain ⟨v, e1, r1⟩ := r2.get e0
  obtain ⟨v', e1', r1'⟩ := r2'.get e0'
  refine ⟨⟨us, ws, v, v', hs, hs', e1, e1'⟩, fun x H' ⟨t, x1, y1, ex, nt, eH, y, y'⟩ => ?_⟩
  subst ex eH
  have e3 := y us hs
  have e4 := y' ws hs'
  rw [e1] at e3
  rw [e1'] at e4
  cases e3
  cases e4
  exact new_tup w nt (.cons r1 (.cons r1' .nil))
theorem itZipT {a b : Addr} {us ws : List V} {ds es : List D} {H0 : Hp} (h : SqT K H0 a us) (r : Reps K T A H0 us ds) (h' : SqT K H0 b ws) (r' : Reps K T A H0 ws es) (w0 : Wd T A H0) : ItOk K T A (RZ.ItzT K a b) (zipD ds es) H0 := fun B hB i H w s => by
  have hs : SqT K H a us := sqT_stA (munB w0 hB) h s
  have hs' : SqT K H b ws := sqT_stA (munB w0 hB) h' s
  have r2 := (r.ext hB).stA (munB w0 hB) s
  have r2' := (r'.ext hB).stA (munB w0 hB) s
  refine ⟨fun p e => ?_, fun e => ⟨us, ws, hs, hs', by rw [zip_len] at e; rw [r.length, r'.length]; omega⟩⟩
  obtain ⟨d, d', e0, e0', rfl⟩ := zip_get e
  obtain ⟨v, e1, r1⟩ := r2.get e0
  obtain ⟨v', e1', r1'⟩ := r2'.get e0'
  refine ⟨⟨us, ws, v, v', hs, hs', e1, e1'⟩, fun x H' ⟨t, x1, y1, ex, nt, eH, y, y'⟩ => ?_⟩
  subst ex eH
  have e3 := y us hs
  have e4 := y' ws hs'
  rw [e1] at e3
  rw [e1'] at e4
  cases e3
  cases e4
  exact new_tup w nt (.cons r1 (.cons r1' .nil))
end
section
variable {m : Type → Type} [PM m] {X : Cx} {ρ : Rh} {a b c e tg : Expr} {es : List Expr} {xa xb xc : m D} {xs : m (List D)} {pos : Pos}
def tI (K : PySem.W.Frag) (ρ : Rh) (x : m (List D)) : TI := fun σ H R => ∃ T A, Wd T A H ∧ Ev K T A ρ σ H ∧ PM.run x fun ps => ∀ J H', Step T H H' → T.ok H' → ItOk K T A J ps H' → R J H'
abbrev VI (X : Cx) (ρ : Rh) (tg e : Expr) (x : m (List D)) : Prop := PI X tg e (tI X.K ρ x)
/-- a list, a tuple or a text, as it comes -/
theorem pi_any {te : TE} (h : PE X e te) : PI X tg e (fun σ H R => te σ H fun x H1 => (∃ a us, x = .ref a ∧ SqL X.K H1 a us ∧ R (Itl X.K a) H1) ∨ (∃ a us, x = .ref a ∧ SqT X.K H1 a us ∧ R (Itt X.K a) H1) ∨ ∃ z, x = .str z ∧ R (Its z) H1) := by
  constructor
  intro pins s σ H R I q
  refine thn (h.run pins s σ H _ I q) ?_
  rintro v s1 ⟨x, H1, I1, r1, ⟨l, us, rfl, hl, k⟩ | ⟨l, us, rfl, hl, k⟩ | ⟨z, rfl, k⟩⟩
  · obtain rfl : v = .ref l := r1
    obtain ⟨its, rv, pl, hz⟩ := I1.list hl
    exact wpAny_pyIter_list pl.isList (pi_one (tk := s1.toks) I1 _ (turn_list l _) ⟨_, Heap.get?_push_size _ rfl, rfl, rfl⟩ k)
  · obtain rfl : v = .ref l := r1
    obtain ⟨its, rv, pl, hz⟩ := I1.tuple hl
    exact wpAny_pyIter_tuple (items := its.toArray) pl (pi_one (tk := s1.toks) I1 _ (turn_tuple l _) ⟨_, Heap.get?_push_size _ rfl, rfl, rfl⟩ k)
  · obtain ⟨t, rfl⟩ := r1
    cases ha : z.cps.all (· < 128) with
    | false => exact wpAny_pyIter_wide ha (pi_one (tk := s1.toks) I1 _ (turn_str _ z t _ (.inr rfl)) ⟨_, Heap.get?_push_size _ rfl, rfl, rfl⟩ k)
    | true => exact wpAny_pyIter_ascii ha (pi_one (tk := s1.toks) I1 _ (turn_str _ z t _ (.inl rfl)) ⟨_, Heap.get?_push_size _ rfl, rfl, rfl⟩ k)
def dIter : D → Option (List D)
  | .list xs => some xs
  | .tuple xs => some xs
  | .str z => some (strL z)
  | _ => none
theorem VI.any (h : VE X ρ e xa) : VI X ρ tg e (xa >>= fun p => PM.lift (dIter p)) :=
  imI (pi_any h) fun σ H R ⟨T, A, w, ev, q⟩ => by
    rw [PM.run_bind] at q
    refine ⟨T, A, w, ev, PM.mono (fun p q v H1 o => ?_) q⟩
    rw [PM.run_lift] at q
    obtain ⟨ps, e1, q⟩ := q
    have w1 := o.wd w
    have rp := o.rp
    cases rp with
    | lst n h r => cases e1; exact .inl ⟨_, _, rfl, SqL.of h, q _ _ o.st o.ok (itList n h r w1)⟩
    | tup h r => cases e1; exact .inr (.inl ⟨_, _, rfl, h, q _ _ o.st o.ok (itTup h r w1)⟩)
    | str z => cases e1; exact .inr (.inr ⟨_, rfl, q _ _ o.st o.ok itStr⟩)
    | _ => cases e1
theorem VI.range1 {p : Pos} (hm : X.mg "range" = none) (ha : VA X ρ [a] xs) (hg : Gl X "range" := by rfl) (hs : starEach [a] X.env = [(false, eval a X.env)] := by rfl) : VI X ρ tg (.Call (.Name "range" p) [a] [] pos) (xs >>= fun l => PM.lift (rng1L l)) :=
  imI (pi_range1 hg hm ha.pa hs) fun σ H R ⟨T, A, w, ev, q⟩ => by
    rw [PM.run_bind] at q
    refine ⟨T, A, w, ev, PM.mono (fun l q vs H1 s1 o1 r1 => ?_) q⟩
    rw [PM.run_lift] at q
    obtain ⟨ps, e1, q⟩ := q
    match l, e1 with
    | [.int n], e1 =>
      obtain ⟨v, rfl, rv⟩ := reps1 r1
      cases rv
      obtain ⟨h, e1⟩ := ifs e1
      subst e1
      simp only [okR, Bool.and_eq_true, decide_eq_true_eq] at h
      exact ⟨n, rfl, h.1, h.2, q _ _ s1 o1 itRng⟩
theorem VI.range2 {p : Pos} (hm : X.mg "range" = none) (ha : VA X ρ [a, b] xs) (hg : Gl X "range" := by rfl) (hs : starEach [a, b] X.env = [(false, eval a X.env), (false, eval b X.env)] := by rfl) (hs2 : starEach [b] X.env = [(false, eval b X.env)] := by rfl) : VI X ρ tg (.Call (.Name "range" p) [a, b] [] pos) (xs >>= fun l => PM.lift (rng2L l)) :=
  imI (pi_range2 hg hm ha.pa hs hs2) fun σ H R ⟨T, A, w, ev, q⟩ => by
    rw [PM.run_bind] at q
    refine ⟨T, A, w, ev, PM.mono (fun l q vs H1 s1 o1 r1 => ?_) q⟩
    rw [PM.run_lift] at q
    obtain ⟨ps, e1, q⟩ := q
    match l, e1 with
    | [.int n, .int k], e1 =>
      obtain ⟨v, u, rfl, rv, ru⟩ := reps2 r1
      cases rv
      cases ru
      obtain ⟨h, e1⟩ := ifs e1
      subst e1
      simp only [okR, Bool.and_eq_true, decide_eq_true_eq] at h
      exact ⟨n, k, rfl, ⟨h.1.1, h.1.2, h.2.1, h.2.2⟩, q _ _ s1 o1 itRng⟩
def enumL : List D → Option (List D)
  | [.list xs] => some (enumFrom 0 xs)
  | _ => none
theorem VI.enum {p tpos : Pos} {elts : List Expr} {kk : Nat} (hm : X.mg "enumerate" = none) (ha : VA X ρ [a] xs) (hg : Gl X "enumerate" := by rfl) (hs : starEach [a] X.env = [(false, eval a X.env)] := by rfl) : VI X ρ (.Tuple elts kk tpos) (.Call (.Name "enumerate" p) [a] [] pos) (xs >>= fun l => PM.lift (enumL l)) :=
  imI (pi_enum hg hm ha.pa hs) fun σ H R ⟨T, A, w, ev, q⟩ => by
    rw [PM.run_bind] at q
    refine ⟨T, A, w, ev, PM.mono (fun l q vs H1 s1 o1 r1 => ?_) q⟩
    rw [PM.run_lift] at q
    obtain ⟨ps, e1, q⟩ := q
    match l, e1 with
    | [.list ds], e1 =>
      obtain ⟨v, rfl, rv⟩ := reps1 r1
      cases rv with
      | lst n h r =>
        cases e1
        exact ⟨_, _, rfl, SqL.of h, q _ _ s1 o1 (itEnum n h r (w.step s1 o1))⟩
def zipL : List D → Option (List D)
  | [.list xs, .list ys] => some (zipD xs ys)
  | [.tuple xs, .tuple ys] => some (zipD xs ys)
  | _ => none
theorem VI.zip {p tpos : Pos} {elts : List Expr} {kk : Nat} (hm : X.mg "zip" = none) (ha : VA X ρ [a, b] xs) (hg : Gl X "zip" := by rfl) (hs : starEach [a, b] X.env = (false, eval a X.env) :: starEach [b] X.env := by rfl) (hpl : (backTo pos (starEach [b] X.env)).any (·.1) = false := by rfl) :
    VI X ρ (.Tuple elts kk tpos) (.Call (.Name "zip" p) [a, b] [] pos) (xs >>= fun l => PM.lift (zipL l)) :=
  imI (RZ.pi_zipA hg hm ha.pa hs hpl) fun σ H R ⟨T, A, w, ev, q⟩ => by
    rw [PM.run_bind] at q
    refine ⟨T, A, w, ev, PM.mono (fun l q vs H1 s1 o1 r1 => ?_) q⟩
    rw [PM.run_lift] at q
    obtain ⟨ps, e1, q⟩ := q
    match l, e1 with
    | [.list ds, .list ds'], e1 =>
      obtain ⟨v, u, rfl, rv, ru⟩ := reps2 r1
      cases rv with
      | lst n h r =>
        cases ru with
        | lst n' h' r' =>
          cases e1
          exact ⟨_, _, _, _, rfl, .inl ⟨SqL.of h, SqL.of h', q _ _ s1 o1 (itZip n h r n' h' r' (w.step s1 o1))⟩⟩
    | [.tuple ds, .tuple ds'], e1 =>
      obtain ⟨v, u, rfl, rv, ru⟩ := reps2 r1
      cases rv with
      | tup h r =>
        cases ru with
        | tup h' r' =>
          cases e1
          exact ⟨_, _, _, _, rfl, .inr ⟨h, h', q _ _ s1 o1 (itZipT h r h' r' (w.step s1 o1))⟩⟩
/-! ## targets -/
def sPut (σ : L2.St) : List Nat → List V → L2.St
  | i :: is, v :: vs => sPut (σ.set i (some v)) is vs
  | _, _ => σ
/-- the target stores what the pattern takes apart -/
def tG (K : PySem.W.Frag) (pt : Pt) : TG := fun v σ H Q => ∃ T A p l, Wd T A H ∧ Rep K T A H v p ∧ pt.flat p = some l ∧ ∀ vs, Reps K T A H vs l → Q (sPut σ pt.slots vs) H
def tGs (K : PySem.W.Frag) (ps : List Pt) : TGs := fun vs σ H Q => ∃ T A ds l, Wd T A H ∧ Reps K T A H vs ds ∧ Pt.flats ps ds = some l ∧ ∀ us, Reps K T A H us l → Q (sPut σ (Pt.slotss ps) us) H
abbrev VG (X : Cx) (tg : Expr) (pt : Pt) : Prop := PG X tg (tG X.K pt)
abbrev VGs (X : Cx) (tgs : List Expr) (ps : List Pt) : Prop := PGs X tgs (tGs X.K ps)
theorem imG {t t' : TG} (h : PG X e t) (i : ∀ v σ H Q, t' v σ H Q → t v σ H Q) : PG X e t' := ⟨fun pins s σ H v u Q I r q => h.run pins s σ H v u Q I r (i v σ H Q q)⟩
theorem imGs {t t' : TGs} (h : PGs X es t) (i : ∀ v σ H Q, t' v σ H Q → t v σ H Q) : PGs X es t' := ⟨fun pins s σ H v u Q I r q => h.run pins s σ H v u Q I r (i v σ H Q q)⟩
theorem VG.name (i : Nat) {x : Str} (hN : X.N.Nodup) (hi : X.N[i]? = some x := by rfl) (hx : Loc X.env.scope x := by first | exact Or.inl rfl | exact Or.inr rfl) (hf : X.fn x = true ∨ X.env.scope.names.lookup x = some .local := by first | exact .inl rfl | exact .inr rfl) : VG X (.Name x pos) (.n i) :=
  imG (pg_name hN hi hx hf) fun v σ H Q ⟨T, A, p, l, w, r, e, q⟩ => by
    cases e
    exact q [v] (.cons r .nil)
theorem VGs.nil : VGs X [] [] := imGs pgs_nil fun v σ H Q ⟨T, A, ds, l, w, r, e, q⟩ => by
  cases r with
  | nil => cases e; exact ⟨rfl, q [] .nil⟩
  | cons _ _ => cases e
theorem sPut_app : ∀ (is js : List Nat) (vs us : List V) (σ : L2.St), vs.length = is.length → sPut σ (is ++ js) (vs ++ us) = sPut (sPut σ is vs) js us
  | [], js, [], us, σ, _ => rfl
  | i :: is, js, v :: vs, us, σ, h => sPut_app is js vs us _ (by simpa using h)
  | [], _, _ :: _, _, _, h => by simp at h
  | _ :: _, _, [], _, _, h => by simp at h
mutual
theorem flat_len : ∀ (pt : Pt) (p : D) (l : List D), pt.flat p = some l → l.length = pt.slots.length
  | .n i, p, l, h => by simp only [Pt.flat, Option.some.injEq] at h; subst h; rfl
  | .t ps, .tuple xs, l, h => flats_len ps xs l h
  | .t ps, .none, l, h => by cases h
  | .t ps, .bool _, l, h => by cases h
  | .t ps, .int _, l, h => by cases h
  | .t ps, .str _, l, h => by cases h
  | .t ps, .list xs, l, h => flats_len ps xs l h
  | .t ps, .dict _, l, h => by cases h
theorem flats_len : ∀ (ps : List Pt) (xs : List D) (l : List D), Pt.flats ps xs = some l → l.length = (Pt.slotss ps).length
  | [], [], l, h => by simp only [Pt.flats, Option.some.injEq] at h; subst h; rfl
  | [], _ :: _, l, h => by cases h
  | _ :: _, [], l, h => by cases h
  | p :: ps, x :: xs, l, h => by
    rw [Pt.flats] at h
    cases e1 : p.flat x with
    | none => rw [e1] at h; cases h
    | some a =>
      rw [e1, Option.bind_some] at h
      cases e2 : Pt.flats ps xs with
      | none => rw [e2] at h; cases h
      | some b =>
        rw [e2] at h
        cases h
        rw [Pt.slotss, List.length_append, List.length_append, flat_len p x a e1, flats_len ps xs b e2]
end
theorem VGs.cons {pt : Pt} {ps : List Pt} (h1 : VG X e pt) (h2 : VGs X es ps) (hs : (assignEach (e :: es) X.env).map (·.2) = assign e X.env :: (assignEach es X.env).map (·.2) := by rfl) : VGs X (e :: es) (pt :: ps) :=
  imGs (pgs_cons h1 h2 hs) fun vs σ H Q ⟨T, A, ds, l, w, r, e, q⟩ => by
    cases r with
    | nil => cases e
    | @cons v vs d ds r1 r2 =>
      rw [Pt.flats] at e
      cases e1 : pt.flat d with
      | none => rw [e1] at e; cases e
      | some a =>
        rw [e1, Option.bind_some] at e
        cases e2 : Pt.flats ps ds with
        | none => rw [e2] at e; cases e
        | some b =>
          rw [e2] at e
          cases e
          refine ⟨v, vs, rfl, T, A, d, a, w, r1, e1, fun us ru => ⟨T, A, ds, b, w, r2, e2, fun ws rw' => ?_⟩⟩
          have := q (us ++ ws) (ru.append rw')
          rw [Pt.slotss, sPut_app _ _ _ _ _ (by rw [ru.length, flat_len _ _ _ e1])] at this
          exact this
theorem pg_or {tg : Expr} {t1 t2 : TG} (h1 : PG X tg t1) (h2 : PG X tg t2) : PG X tg (fun v σ H Q => t1 v σ H Q ∨ t2 v σ H Q) := ⟨fun pins s σ H v u Q I r h => h.elim (h1.run pins s σ H v u Q I r) (h2.run pins s σ H v u Q I r)⟩
theorem VG.tup {k n : Nat} {ps : List Pt} (h : VGs X es ps) (hc : X.calm = true := by rfl) (hn : (assignEach es X.env).length = n := by rfl) (hst : (assignEach es X.env).findIdx? (·.1) = none := by rfl) (hl : ps.length = n := by rfl) : VG X (.Tuple es k pos) (.t ps) :=
  imG (pg_or (pg_tup hc h hn hst) (pg_unl hc h hn hst)) fun v σ H Q ⟨T, A, p, l, w, r, e, q⟩ => by
    have len : ∀ (ps : List Pt) (xs l : List D), Pt.flats ps xs = some l → xs.length = ps.length := by
      intro ps
      induction ps with
      | nil => intro xs l h; cases xs with | nil => rfl | cons _ _ => cases h
      | cons p ps ih =>
        intro xs l h
        cases xs with
        | nil => cases h
        | cons x xs =>
          rw [Pt.flats] at h
          cases e1 : p.flat x with
          | none => rw [e1] at h; cases h
          | some a =>
            rw [e1, Option.bind_some] at h
            cases e2 : Pt.flats ps xs with
            | none => rw [e2] at h; cases h
            | some b => rw [List.length_cons, List.length_cons, ih xs b e2]
    cases r with
    | @tup a us ds hs hr =>
      refine .inl ⟨a, us, rfl, hs, ?_, T, A, ds, l, w, hr, e, q⟩
      rw [hr.length, len ps ds l e, hl]
    | @lst a us ds hn0 hs hr =>
      refine .inr ⟨a, us, rfl, SqL.of hs, ?_, T, A, ds, l, w, hr, e, q⟩
      rw [hr.length, len ps ds l e, hl]
    | _ => cases e
end
end Qv

namespace Qv
open PySem PySem.Spec PyProof.Rows L2
/-! ## comprehensions -/
section
variable {K : PySem.W.Frag} {T : Tk} {A : Addr → Prop}
theorem wipe_at {σ : L2.St} {j : Nat} {vs : List Nat} (hj : j ∈ vs) (hl : j < σ.length) : (wipe σ vs)[j]? = some none := by
  have hl' : j < (wipe σ vs).length := by rw [wipe_length]; exact hl
  rw [List.getElem?_eq_getElem hl']
  cases e : (wipe σ vs)[j] with
  | none => rfl
  | some x =>
    have := wipe_some (σ := σ) (i := j) (x := x) (vs := vs) (by rw [List.getElem?_eq_getElem hl', e])
    exact absurd hj this.2
theorem wipe_eq {σ τ : L2.St} {vs : List Nat} (hl : σ.length = τ.length) (h : ∀ j, j ∉ vs → σ[j]? = τ[j]?) : wipe σ vs = wipe τ vs := by
  refine List.ext_getElem? fun j => ?_
  by_cases hj : j ∈ vs
  · by_cases hb : j < σ.length
    · rw [wipe_at hj hb, wipe_at hj (hl ▸ hb)]
    · rw [List.getElem?_eq_none (by rw [wipe_length]; omega), List.getElem?_eq_none (by rw [wipe_length]; omega)]
  · rw [wipe_out hj, wipe_out hj, h j hj]
theorem wipe_wipe (σ : L2.St) (vs : List Nat) : wipe (wipe σ vs) vs = wipe σ vs := wipe_eq (wipe_length _ _) fun _ hj => wipe_out hj
theorem sPut_wipe : ∀ (is : List Nat) (us : List V) (σ : L2.St) (vs : List Nat), (∀ i ∈ is, i ∈ vs) → wipe (sPut σ is us) vs = wipe σ vs
  | [], us, σ, vs, _ => by cases us <;> rfl
  | i :: is, [], σ, vs, _ => rfl
  | i :: is, u :: us, σ, vs, h => by
    show wipe (sPut (σ.set i (some u)) is us) vs = _
    rw [sPut_wipe is us _ vs fun j hj => h j (List.mem_cons_of_mem _ hj)]
    have hi := h i List.mem_cons_self
    exact wipe_eq (List.length_set) fun j hj => List.getElem?_set_ne fun e => hj (by rw [← e]; exact hi)
theorem Ev.puts : ∀ {is : List Nat} {us : List V} {ds : List D} {ρ : Rh} {σ : L2.St} {H : Hp}, Ev K T A ρ σ H → Reps K T A H us ds → Ev K T A (rPuts ρ is ds) (sPut σ is us) H
  | [], _, _, _, _, _, e, .nil => e
  | [], _, _, _, _, _, e, .cons _ _ => e
  | _ :: _, _, _, _, _, _, e, .nil => e
  | i :: is, _, _, ρ, σ, H, e, .cons r rs => Ev.puts (is := is) (e.put r) rs
end
/-! ### new lists -/
theorem step_none {T : Tk} {H H2 : Hp} {p : Addr} (s2 : Step T H H2) (o2 : T.ok H2) (np : H2 p = none) : H p = none := by
  cases c : H p with
  | none => rfl
  | some o =>
    by_cases z : T.S p
    · have mm := T.mu o2 z
      rw [np] at mm
      exact mm.elim
    · rw [s2 p o c z] at np; cases np
/-- a new list comes to an owner -/
structure PostN (K : PySem.W.Frag) (T : Tk) (A : Addr → Prop) (H H' : Hp) (p : D) (a : Addr) : Prop where
  st : Step T H H'
  ok : T.ok H'
  nw : H a = none
  ow : ∃ us ds, p = .list ds ∧ H' a = some (.lst us) ∧ Reps K T (fun b => A b ∨ b = a) H' us ds
theorem PostN.post {K : PySem.W.Frag} {T : Tk} {A : Addr → Prop} {H H' : Hp} {p : D} {a : Addr} (q : PostN K T A H H' p a) (w : Wd T A H) : Post K T A H H' p (.ref a) := by
  obtain ⟨us, ds, rfl, e, r⟩ := q.ow
  exact ⟨q.st, q.ok, .lst (w.new q.nw) e (r.weak fun _ => .inl)⟩
theorem PostN.after {K : PySem.W.Frag} {T : Tk} {A : Addr → Prop} {H H' H2 : Hp} {p : D} {a : Addr} (q : PostN K T A H' H2 p a) (s : Step T H H') (n : H a = none) : PostN K T A H H2 p a := ⟨s.trans q.st, q.ok, n, q.ow⟩
section
variable {m : Type → Type} [PM m] {X : Cx} {ρ : Rh} {a b c e tg : Expr} {es : List Expr} {pos : Pos}
def tN (K : PySem.W.Frag) (ρ : Rh) (x : m D) : TE := fun σ H Q => ∃ T A, Wd T A H ∧ Ev K T A ρ σ H ∧ PM.run x fun p => ∀ a H', PostN K T A H H' p a → Q (.ref a) H'
abbrev VN (X : Cx) (ρ : Rh) (e : Expr) (x : m D) : Prop := PE X e (tN X.K ρ x)
theorem VN.ve {x : m D} (h : VN X ρ e x) : VE X ρ e x := imE h fun σ H Q ⟨T, A, w, ev, q⟩ => ⟨T, A, w, ev, PM.mono (fun p k a H' o => k _ _ (o.post w)) q⟩
/-- what is made at D so far -/
structure Mk1 (K : PySem.W.Frag) (T : Tk) (A : Addr → Prop) (H1 : Hp) (L : Addr) (n : Nat) (Q : VK) (rest : Nat → m (List D)) (i k : Nat) (H : Hp) : Prop where
  hk : k = n - i
  hi : i ≤ n
  wd : Wd T (fun a => A a ∨ a = L) H
  st : Step T H1 H
  dn : ∃ acc ds, H L = some (.lst acc) ∧ acc.length ≤ i ∧ Reps K T (fun a => A a ∨ a = L) H acc ds ∧ PM.run (rest i) fun ys => ∀ v H', PostN K T A H1 H' (.list (ds ++ ys)) v → Q (.ref v) H'
theorem mk1_end {K : PySem.W.Frag} {T : Tk} {A : Addr → Prop} {H1 H : Hp} {L : Addr} {n : Nat} {Q : VK} {rest : Nat → m (List D)} {i k : Nat} (M : Mk1 (m := m) K T A H1 L n Q rest i k H) (w1 : Wd T A H1) (nL : H1 L = none) (he : rest i = pure []) : Q (.ref L) H := by
  obtain ⟨acc, ds, e, _, r, q⟩ := M.dn
  rw [he, PM.run_pure] at q
  exact q _ _ ⟨M.st, M.wd.ok, nL, acc, ds, by rw [List.append_nil], e, r⟩
theorem mk1_stA {K : PySem.W.Frag} {T : Tk} {A : Addr → Prop} {H1 H : Hp} {L : Addr} {n : Nat} {Q : VK} {rest : Nat → m (List D)} {i k : Nat} (M : Mk1 (m := m) K T A H1 L n Q rest i k H) (w1 : Wd T A H1) : StA (fun a => A a ∨ a = L) H1 H := (M.st.stA w1.sub).weak fun _ => .inl
/-- a new item -/
theorem mk1_add {K : PySem.W.Frag} {T : Tk} {A : Addr → Prop} {H1 H4 : Hp} {L : Addr} {n : Nat} {Q : VK} {rest : Nat → m (List D)} {i : Nat} {y : V} {d : D} {acc : List V} {ds : List D} (w1 : Wd T A H1) (nL : H1 L = none) (hi : i < n)
    (w4 : Wd T (fun a => A a ∨ a = L) H4) (s4 : Step T H1 H4) (e4 : H4 L = some (.lst acc)) (hl : acc.length ≤ i) (r4 : Reps K T (fun a => A a ∨ a = L) H4 acc ds) (ry : Rep K T (fun a => A a ∨ a = L) H4 y d)
    (q : PM.run (rest (i + 1)) fun ys => ∀ v H', PostN K T A H1 H' (.list (ds ++ d :: ys)) v → Q (.ref v) H') : Mk1 (m := m) K T A H1 L n Q rest (i + 1) (n - (i + 1)) (upd H4 L (.lst (acc ++ [y]))) := by
  have nS : ¬ T.S L := fun z => w1.new nL (w1.sub _ z)
  have keep : ∀ a, T.S a → upd H4 L (.lst (acc ++ [y])) a = H4 a := fun a z => upd_ne fun e => nS (e ▸ z)
  have ok : T.ok (upd H4 L (.lst (acc ++ [y]))) := T.keep w4.ok keep
  have st : StA (fun a => A a ∨ a = L) H4 (upd H4 L (.lst (acc ++ [y]))) := fun a o e z => by
    rw [upd_ne fun q => z (.inr q)]; exact e
  refine ⟨rfl, hi, ⟨ok, fun a z => .inl (w1.sub a z), fun a z => ?_⟩, fun a o e z => ?_, acc ++ [y], ds ++ [d], upd_same, by simp; omega, (r4.stA w4.mun st).append (.cons (ry.stA w4.mun st) .nil), ?_⟩
  · by_cases h : a = L
    · subst h; rw [upd_same]; trivial
    · rw [upd_ne h]; exact w4.mu a z
  · rw [upd_ne (ne_of_none e nL)]; exact s4 a o e z
  · simpa using q
/-- the block's contexts -/
abbrev Bk (X : Cx) (scope : Scope) (s : Shared) (H : Hp) (C : Addr) (cl : List (Str × Addr)) (fp : List Addr) : Cx := X.blk s H scope (compEnvC scope cl C X.env) fp
/-- tests of a clause -/
abbrev VT_ (X : Cx) (ρ : Rh) (ifs : List Expr) (x : m Bool) : Prop := PTs X ifs (tP X.K ρ x)
theorem imTs {es : List Expr} {t t' : TT} (h : PTs X es t) (i : ∀ σ H Q, t' σ H Q → t σ H Q) : PTs X es t' := ⟨fun pins s σ H Q I q => h.run pins s σ H Q I (i σ H Q q)⟩
theorem VT_.nil : VT_ (m := m) X ρ [] (pure true) := imTs pts_nil fun σ H Q ⟨T, A, w, ev, h⟩ => by
  rw [PM.run_pure] at h
  exact h H .refl w.ok
theorem VT_.one {x : m Bool} (h : VP X ρ e x) : VT_ X ρ [e] x := pts_one h
/-- readings for each leaf list -/
def tE' (K : PySem.W.Frag) (n : Nat) (ρ : List D → Rh) (x : List D → m D) : TE := fun σ H Q => ∃ l, l.length = n ∧ tE K (ρ l) (x l) σ H Q
def tP' (K : PySem.W.Frag) (n : Nat) (ρ : List D → Rh) (x : List D → m Bool) : TT := fun σ H Q => ∃ l, l.length = n ∧ tP K (ρ l) (x l) σ H Q
theorem pe_ex {n : Nat} {r : List D → Rh} {x : List D → m D} (h : ∀ l, l.length = n → VE X (r l) e (x l)) : PE X e (tE' X.K n r x) := ⟨fun pins s σ H Q I ⟨l, hl, q⟩ => (h l hl).run pins s σ H Q I q⟩
theorem pts_ex {n : Nat} {r : List D → Rh} {x : List D → m Bool} (h : ∀ l, l.length = n → VT_ X (r l) es (x l)) : PTs X es (tP' X.K n r x) := ⟨fun pins s σ H Q I ⟨l, hl, q⟩ => (h l hl).run pins s σ H Q I q⟩
/-- one turn of a comprehension -/
def turnM (pt : Pt) (c : List D → m Bool) (x : List D → m D) (p : D) : m (Option D) := PM.lift (pt.flat p) >>= fun l => c l >>= fun b => if b = true then x l >>= fun y => pure (some y) else pure none
theorem run_turn {pt : Pt} {c : List D → m Bool} {x : List D → m D} {p : D} {K : Option D → Prop} (h : PM.run (turnM pt c x p) K) : ∃ l, pt.flat p = some l ∧ PM.run (c l) fun b => PM.run (if b = true then x l >>= fun y => pure (some y) else pure none) K := by
  unfold turnM at h
  rw [PM.run_bind, PM.run_lift] at h
  obtain ⟨l, e, h⟩ := h
  rw [PM.run_bind] at h
  exact ⟨l, e, h⟩
theorem drop_get {l : List D} {i : Nat} (h : i < l.length) : ∃ p, l[i]? = some p ∧ l.drop i = p :: l.drop (i + 1) := ⟨l[i], List.getElem?_eq_getElem h, List.drop_eq_getElem_cons h⟩
theorem tLc_read {K : PySem.W.Frag} {own : List (Str × Nat)} {pt : Pt} {it : m (List D)} {c : List D → m Bool} {x : List D → m D} {σ : L2.St} {H : Hp} {Q : VK} (hsub : ∀ i ∈ pt.slots, i ∈ own.map (·.2))
    (h : tN K ρ (it >>= fun ps => PM.lift (sizeL ps) >>= fun ps => cmpD (turnM pt c x) ps >>= fun ys => pure (.list ys)) σ H Q) :
    tLc (tI K ρ it) (tG K pt) (tP' K pt.slots.length (fun l => rPuts (rCut ρ (own.map (·.2))) pt.slots l) c) (tE' K pt.slots.length (fun l => rPuts (rCut ρ (own.map (·.2))) pt.slots l) x) (own.map (·.2)) σ H Q := by
  obtain ⟨T, A, w, ev, h⟩ := h
  rw [PM.run_bind] at h
  refine ⟨T, A, w, ev, PM.mono (fun ps h J H1 s1 o1 hJ L nL => ?_) h⟩
  rw [PM.run_bind, PM.run_lift] at h
  obtain ⟨ps', e, h⟩ := h
  obtain ⟨hz, e⟩ := ifs e
  subst e
  rw [PM.run_bind] at h
  have w1 := w.step s1 o1
  have ev1 := ev.step w s1
  have hB : ∀ a, A a ∨ a = L → A a ∨ H1 a = none := fun a q => q.elim .inl fun e => .inr (e ▸ nL)
  have evB := ev1.ext hB
  refine ⟨Mk1 (m := m) K T A H1 L ps.length Q (fun i => cmpD (turnM pt c x) (ps.drop i)), ⟨ps.length, ?_⟩, ?_⟩
  · refine ⟨by simp, Nat.zero_le _, ⟨(w1.laid nL).ok, fun a z => .inl (w1.sub a z), fun a z => ?_⟩, step_new nL, [], [], upd_same, Nat.le_refl _, .nil, ?_⟩
    · by_cases hq : a = L
      · subst hq; rw [upd_same]; trivial
      · rw [upd_ne hq]; exact w1.mu a (z.resolve_right hq)
    · rw [List.drop_zero]
      refine PM.mono (fun ys q v H' o => ?_) h
      rw [PM.run_pure] at q
      exact q v H' (o.after s1 (step_none s1 o1 o.nw))
  · intro i k H2 M
    have hI := hJ _ hB i H2 M.wd (mk1_stA M w1)
    by_cases hlt : i < ps.length
    · obtain ⟨p, ep, ed⟩ := drop_get hlt
      obtain ⟨hgo, hy⟩ := hI.1 p ep
      refine .inr ⟨hgo, fun H' => Mk1 (m := m) K T A H1 L ps.length Q (fun i => cmpD (turnM pt c x) (ps.drop i)) (i + 1) (ps.length - (i + 1)) H', fun H' M' => ⟨_, by have := M.hk; omega, M'⟩, fun xv H3 yv => ?_⟩
      obtain ⟨keep3, ok3, rp3⟩ := hy xv H3 yv
      obtain ⟨acc, ds, eL, hl, hr, q⟩ := M.dn
      have s23 : Step T H2 H3 := fun a o e _ => keep3 a o e
      have w3 := M.wd.step s23 ok3
      have st13 : Step T H1 H3 := M.st.trans s23
      have ev3 : Ev K T (fun a => A a ∨ a = L) ρ σ H3 := evB.stA (munB w1 hB) (st13.stA (fun a z => .inl (w1.sub a z)))
      rw [ed] at q
      rw [show cmpD (turnM pt c x) (p :: ps.drop (i + 1)) = turnM pt c x p >>= fun o => cmpD (turnM pt c x) (ps.drop (i + 1)) >>= fun ys => pure (match o with | some y => y :: ys | none => ys) from rfl, PM.run_bind] at q
      obtain ⟨l, el, q⟩ := run_turn q
      refine ⟨T, _, p, l, w3, rp3, el, fun us hus => ⟨(sPut_wipe _ _ _ _ hsub).trans (wipe_wipe σ _), ?_⟩⟩
      have ev4 := (ev3.cut (own.map (·.2))).puts (is := pt.slots) hus
      refine ⟨l, flat_len _ _ _ el, T, _, w3, ev4, PM.mono (fun bb q H4 s4 o4 => ?_) q⟩
      have w4 := w3.step s4 o4
      cases bb with
      | true =>
        rw [if_pos rfl] at q
        rw [PM.run_bind] at q
        dsimp only
        rw [if_pos rfl]
        refine ⟨l, flat_len _ _ _ el, T, _, w4, ev4.step w3 s4, PM.mono (fun d q yv2 H5 o5 => ?_) q⟩
        rw [PM.run_pure, PM.run_bind] at q
        have nS : ¬ T.S L := fun z => w1.new nL (w1.sub _ z)
        refine ⟨acc, o5.st _ _ (s4 _ _ (s23 _ _ eL nS) nS) nS, by
          have : ps.length ≤ sizeLine := hz
          omega, ?_⟩
        refine mk1_add w1 nL hlt (o5.wd w4) (st13.trans (s4.trans o5.st)) (o5.st _ _ (s4 _ _ (s23 _ _ eL nS) nS) nS) hl (((hr.step M.wd s23).step w3 s4).step w4 o5.st) o5.rp (PM.mono (fun ys q v H' o => ?_) q)
        rw [PM.run_pure] at q
        exact q v H' o
      | false =>
        rw [if_neg Bool.false_ne_true] at q
        dsimp only
        rw [if_neg Bool.false_ne_true]
        rw [PM.run_pure, PM.run_bind] at q
        have nS : ¬ T.S L := fun z => w1.new nL (w1.sub _ z)
        refine ⟨rfl, hlt, w4, st13.trans s4, acc, ds, s4 _ _ (s23 _ _ eL nS) nS, by omega, (hr.step M.wd s23).step w3 s4, PM.mono (fun ys q v H' o => ?_) q⟩
        rw [PM.run_pure] at q
        exact q v H' o
    · have e0 : i = ps.length := Nat.le_antisymm M.hi (Nat.le_of_not_lt hlt)
      refine .inl ⟨hI.2 (Nat.le_of_not_lt hlt), mk1_end M w1 nL ?_⟩
      rw [e0, List.drop_length]
      rfl
/-- [e for t in it if ..] -/
theorem VN.comp {elt iter : Expr} {ifs : List Expr} {scope : Scope} {own : List (Str × Nat)} {pt : Pt} {it : m (List D)} {c : List D → m Bool} {x : List D → m D} (hN : X.N.Nodup) (hi : VI X ρ tg iter it) (ok : blkC X.N X.env.scope scope own = true)
    (hg : ∀ s H C cl fp, VG (Bk X scope s H C cl fp) tg pt) (ht : ∀ s H C cl fp l, l.length = pt.slots.length → VT_ (Bk X scope s H C cl fp) (rPuts (rCut ρ (own.map (·.2))) pt.slots l) ifs (c l))
    (he : ∀ s H C cl fp l, l.length = pt.slots.length → VE (Bk X scope s H C cl fp) (rPuts (rCut ρ (own.map (·.2))) pt.slots l) elt (x l)) (hsub : ∀ i ∈ pt.slots, i ∈ own.map (·.2) := by decide) (hc : X.calm = true := by rfl) (hs : ∀ x, foldedSetIterable iter X.env x = pure x := by intro _; rfl) :
    VN X ρ (.ListComp elt [⟨tg, iter, ifs, 0⟩] scope pos) (it >>= fun ps => PM.lift (sizeL ps) >>= fun ps => cmpD (turnM pt c x) ps >>= fun ys => pure (.list ys)) :=
  imE (pe_lc hc hN hi (blkOk_by ok) (fun s H C cl fp => hg s H C cl fp) (fun s H C cl fp => pts_ex (ht s H C cl fp)) (fun s H C cl fp => pe_ex (he s H C cl fp)) hs) fun σ H Q h => tLc_read hsub h
end
end Qv

namespace Qv
open PySem PySem.Spec PyProof.Rows L2
/-! ## names that own what they hold -/
inductive Kd where
  | sh | ow | fz
  deriving DecidableEq
def kAt : List Kd → Nat → Kd
  | [], _ => .sh
  | k :: _, 0 => k
  | _ :: ks, n + 1 => kAt ks n
def hide : List Kd → Rh → Rh
  | [], ρ => ρ
  | _ :: _, [] => []
  | .ow :: Γ, _ :: ρ => none :: hide Γ ρ
  | _ :: Γ, x :: ρ => x :: hide Γ ρ
theorem hide_len : ∀ (Γ : List Kd) (ρ : Rh), (hide Γ ρ).length = ρ.length
  | [], _ => rfl
  | _ :: _, [] => rfl
  | .ow :: Γ, _ :: ρ => by simp [hide, hide_len Γ ρ]
  | .sh :: Γ, _ :: ρ => by simp [hide, hide_len Γ ρ]
  | .fz :: Γ, _ :: ρ => by simp [hide, hide_len Γ ρ]
theorem hide_at : ∀ (Γ : List Kd) (ρ : Rh) (i : Nat) (p : D), rAt (hide Γ ρ) i = some p → rAt ρ i = some p ∧ kAt Γ i ≠ .ow
  | [], ρ, i, p, h => ⟨h, by simp [kAt]⟩
  | _ :: _, [], i, p, h => by simp [hide, rAt] at h
  | .ow :: Γ, x :: ρ, 0, p, h => by simp [hide, rAt] at h
  | .sh :: Γ, x :: ρ, 0, p, h => ⟨h, by simp [kAt]⟩
  | .fz :: Γ, x :: ρ, 0, p, h => ⟨h, by simp [kAt]⟩
  | .ow :: Γ, x :: ρ, i + 1, p, h => hide_at Γ ρ i p h
  | .sh :: Γ, x :: ρ, i + 1, p, h => hide_at Γ ρ i p h
  | .fz :: Γ, x :: ρ, i + 1, p, h => hide_at Γ ρ i p h
def AT (A : Addr → Prop) (O : Nat → Option Addr) : Addr → Prop := fun a => A a ∨ ∃ i, O i = some a
inductive Own (K : PySem.W.Frag) (T : Tk) (B : Addr → Prop) (H : Hp) (a : Addr) : D → Prop
  | lst {us : List V} {ds : List D} : H a = some (.lst us) → Reps K T B H us ds → Own K T B H a (.list ds)
structure Rl (K : PySem.W.Frag) (T : Tk) (A : Addr → Prop) (Γ : List Kd) (O : Nat → Option Addr) (ρ : Rh) (σ : L2.St) (H : Hp) : Prop where
  len : ρ.length = σ.length
  wd : Wd T (AT A O) H
  sub : ∀ a, T.S a → A a
  sh : ∀ i p, rAt ρ i = some p → kAt Γ i ≠ .ow → ∃ v, σ[i]? = some (some v) ∧ Rep K T (AT A O) H v p
  ow : ∀ i p, rAt ρ i = some p → kAt Γ i = .ow → ∃ a, σ[i]? = some (some (.ref a)) ∧ O i = some a ∧ Own K T (AT A O) H a p
  inj : ∀ i j a, O i = some a → O j = some a → i = j
  dis : ∀ i a, O i = some a → ¬ A a
structure Fr (T : Tk) (Γ : List Kd) (O O' : Nat → Option Addr) (σ σ' : L2.St) (H H' : Hp) : Prop where
  st : ∀ a o, H a = some o → ¬ T.S a → (∀ i, O i ≠ some a) → H' a = some o
  ne : ∀ i a, O' i = some a → (∃ j, O j = some a) ∨ H a = none
  mu : ∀ i a, O i = some a → Mut (H' a)
  fz : ∀ i, kAt Γ i = .fz → σ'[i]? = σ[i]?
section
variable {K : PySem.W.Frag} {T : Tk} {A : Addr → Prop} {Γ : List Kd} {O O' O2 : Nat → Option Addr} {ρ : Rh} {σ σ' σ2 : L2.St} {H H' H2 : Hp}
theorem Rl.wdA (r : Rl K T A Γ O ρ σ H) : Wd T A H := ⟨r.wd.ok, r.sub, fun a h => r.wd.mu a (.inl h)⟩
theorem Rl.hid (r : Rl K T A Γ O ρ σ H) : Ev K T (AT A O) (hide Γ ρ) σ H := ⟨by rw [hide_len, r.len], fun i p h => r.sh i p (hide_at Γ ρ i p h).1 (hide_at Γ ρ i p h).2⟩
theorem Own.rep {B : Addr → Prop} {a : Addr} {p : D} (o : Own K T B H a p) (n : ¬ A a) (h : ∀ b, A b → B b) : Rep K T A H (.ref a) p := by
  cases o with
  | lst e r => exact .lst n e (r.weak h)
theorem Rl.all (r : Rl K T A Γ O ρ σ H) : Ev K T A ρ σ H := ⟨r.len, fun i p h => by
  by_cases k : kAt Γ i = .ow
  · obtain ⟨a, h1, h2, h3⟩ := r.ow i p h k
    exact ⟨_, h1, h3.rep (r.dis i a h2) fun b => .inl⟩
  · obtain ⟨v, h1, h2⟩ := r.sh i p h k
    exact ⟨v, h1, h2.weak fun b => .inl⟩⟩
theorem Own.stA {B : Addr → Prop} {a : Addr} {p : D} (o : Own K T B H a p) (w : MuN B H) (s : StA B H H') (e : H' a = H a) : Own K T B H' a p := by
  cases o with
  | lst q r => exact .lst (e.trans q) (r.stA w s)
/-- new things alone, and the draws' own -/
theorem Rl.step (r : Rl K T A Γ O ρ σ H) (s : Step T H H') (ok : T.ok H') : Rl K T A Γ O ρ σ H' := by
  have ss : StA (AT A O) H H' := s.stA r.wd.sub
  refine ⟨r.len, r.wd.step s ok, r.sub, fun i p h k => ?_, fun i p h k => ?_, r.inj, r.dis⟩
  · obtain ⟨v, h1, h2⟩ := r.sh i p h k
    exact ⟨v, h1, h2.stA r.wd.mun ss⟩
  · obtain ⟨a, h1, h2, h3⟩ := r.ow i p h k
    refine ⟨a, h1, h2, h3.stA r.wd.mun ss ?_⟩
    have m := r.wd.mu a (.inr ⟨i, h2⟩)
    cases e : H a with
    | none => rw [e] at m; exact m.elim
    | some o => exact s a o e fun q => r.dis i a h2 (r.sub a q)
theorem Fr.step (r : Rl K T A Γ O ρ σ H) (s : Step T H H') (ok : T.ok H') : Fr T Γ O O σ σ H H' := ⟨fun a o e n _ => s a o e n, fun i a e => .inl ⟨i, e⟩, fun i a e => (r.step s ok).wd.mu a (.inr ⟨i, e⟩), fun _ _ => rfl⟩
theorem Fr.refl (r : Rl K T A Γ O ρ σ H) : Fr T Γ O O σ σ H H := Fr.step r .refl r.wd.ok
theorem Fr.trans (f : Fr T Γ O O' σ σ' H H') (g : Fr T Γ O' O2 σ' σ2 H' H2) (okm : T.ok H') (ok : T.ok H2) : Fr T Γ O O2 σ σ2 H H2 where
  st := fun a o e n h => g.st a o (f.st a o e n h) n fun i q => (f.ne i a q).elim (fun ⟨j, z⟩ => h j z) fun z => by rw [e] at z; cases z
  ne := fun i a e => (g.ne i a e).elim (fun ⟨j, z⟩ => f.ne j a z) fun z => by
    cases q : H a with
    | none => exact .inr rfl
    | some o =>
      by_cases h : ∃ j, O j = some a
      · exact .inl h
      · by_cases n : T.S a
        · have m := T.mu okm n
          rw [z] at m
          exact m.elim
        · rw [f.st a o q n fun j z => h ⟨j, z⟩] at z; cases z
  mu := fun i a e => by
    have m := f.mu i a e
    by_cases h : ∃ j, O' j = some a
    · obtain ⟨j, z⟩ := h
      exact g.mu j a z
    · by_cases n : T.S a
      · exact T.mu ok n
      · cases q : H' a with
        | none => rw [q] at m; exact m.elim
        | some o => rw [g.st a o q n fun j z => h ⟨j, z⟩]; rw [q] at m; exact m
  fz := fun i h => (g.fz i h).trans (f.fz i h)
/-- fewer names known -/
inductive Sub : Rh → Rh → Prop
  | nil : Sub [] []
  | cs {x : Option D} {a b : Rh} : Sub a b → Sub (x :: a) (x :: b)
  | cn {x : Option D} {a b : Rh} : Sub a b → Sub (none :: a) (x :: b)
theorem Sub.len {a b : Rh} (s : Sub a b) : a.length = b.length := by
  induction s with
  | nil => rfl
  | cs _ ih => simp [ih]
  | cn _ ih => simp [ih]
theorem Sub.at {a b : Rh} (s : Sub a b) : ∀ {i : Nat} {p : D}, rAt a i = some p → rAt b i = some p := by
  induction s with
  | nil => intro i p h; exact h
  | cs _ ih =>
    intro i p h
    cases i with
    | zero => exact h
    | succ i => exact ih h
  | cn _ ih =>
    intro i p h
    cases i with
    | zero => simp [rAt] at h
    | succ i => exact ih h
theorem Rl.less {ρ' : Rh} (r : Rl K T A Γ O ρ σ H) (s : Sub ρ' ρ) : Rl K T A Γ O ρ' σ H := ⟨by rw [s.len, r.len], r.wd, r.sub, fun i p h => r.sh i p (s.at h), fun i p h => r.ow i p (s.at h), r.inj, r.dis⟩
theorem Rl.put {i : Nat} {v : V} {d : D} (r : Rl K T A Γ O ρ σ H) (rv : Rep K T (AT A O) H v d) (hk : kAt Γ i = .sh) : Rl K T A Γ O (rPut ρ i d) (σ.set i (some v)) H := by
  refine ⟨by rw [rPut_len, List.length_set, r.len], r.wd, r.sub, fun j p h k => ?_, fun j p h k => ?_, r.inj, r.dis⟩
  · rw [rAt_put] at h
    by_cases hj : j = i
    · rw [if_pos hj] at h
      subst hj
      by_cases hl : j < ρ.length
      · rw [if_pos hl] at h
        cases h
        exact ⟨v, List.getElem?_set_self (by rw [← r.len]; exact hl), rv⟩
      · rw [if_neg hl] at h; cases h
    · rw [if_neg hj] at h
      obtain ⟨u, h1, h2⟩ := r.sh j p h k
      exact ⟨u, by rw [List.getElem?_set_ne (Ne.symm hj)]; exact h1, h2⟩
  · have hj : j ≠ i := fun e => by rw [e, hk] at k; cases k
    rw [rAt_put, if_neg hj] at h
    obtain ⟨a, h1, h2, h3⟩ := r.ow j p h k
    exact ⟨a, by rw [List.getElem?_set_ne (Ne.symm hj)]; exact h1, h2, h3⟩
theorem Fr.put {i : Nat} {v : Option V} (r : Rl K T A Γ O ρ σ H) (hk : kAt Γ i ≠ .fz) : Fr T Γ O O σ (σ.set i v) H H :=
  ⟨fun a o e _ _ => e, fun i a e => .inl ⟨i, e⟩, fun i a e => r.wd.mu a (.inr ⟨i, e⟩), fun j h => List.getElem?_set_ne fun e => hk (by rw [e]; exact h)⟩
theorem Rl.puts : ∀ {is : List Nat} {us : List V} {ds : List D} {ρ : Rh} {σ : L2.St}, Rl K T A Γ O ρ σ H → Reps K T (AT A O) H us ds → (∀ i ∈ is, kAt Γ i = .sh) → Rl K T A Γ O (rPuts ρ is ds) (sPut σ is us) H
  | [], _, _, _, _, r, .nil, _ => r
  | [], _, _, _, _, r, .cons _ _, _ => r
  | _ :: _, _, _, _, _, r, .nil, _ => r
  | i :: is, _, _, ρ, σ, r, .cons q qs, h => Rl.puts (is := is) (r.put q (h i List.mem_cons_self)) qs fun j hj => h j (List.mem_cons_of_mem _ hj)
theorem sPut_out : ∀ (is : List Nat) (us : List V) (σ : L2.St) (j : Nat), j ∉ is → (sPut σ is us)[j]? = σ[j]?
  | [], us, σ, j, _ => by cases us <;> rfl
  | i :: is, [], σ, j, _ => rfl
  | i :: is, u :: us, σ, j, h => by
    show (sPut (σ.set i (some u)) is us)[j]? = _
    rw [sPut_out is us _ j fun e => h (List.mem_cons_of_mem _ e)]
    exact List.getElem?_set_ne fun e => h (by rw [← e]; exact List.mem_cons_self)
theorem Fr.puts {is : List Nat} {us : List V} (r : Rl K T A Γ O ρ σ H) (h : ∀ i ∈ is, kAt Γ i = .sh) : Fr T Γ O O σ (sPut σ is us) H H :=
  ⟨fun a o e _ _ => e, fun i a e => .inl ⟨i, e⟩, fun i a e => r.wd.mu a (.inr ⟨i, e⟩), fun j hj => sPut_out is us σ j fun e => by rw [h j e] at hj; cases hj⟩
end
/-! ## what follows a block -/
structure Kn where
  nx : Rh → Prop
  rt : D → Prop
  bk : Rh → Prop
  ct : Rh → Prop
structure Kn.le (k k' : Kn) : Prop where
  nx : ∀ ρ, k.nx ρ → k'.nx ρ
  rt : ∀ p, k.rt p → k'.rt p
  bk : ∀ ρ, k.bk ρ → k'.bk ρ
  ct : ∀ ρ, k.ct ρ → k'.ct ρ
def StO (T : Tk) (O : Nat → Option Addr) (H H' : Hp) : Prop := ∀ a o, H a = some o → ¬ T.S a → (∀ i, O i ≠ some a) → H' a = some o
def kn (K : PySem.W.Frag) (T : Tk) (A : Addr → Prop) (Γ : List Kd) (O : Nat → Option Addr) (σ : L2.St) (H : Hp) (D : Ends) : Kn where
  nx := fun ρ' => ∀ σ' H' O', Rl K T A Γ O' ρ' σ' H' → Fr T Γ O O' σ σ' H H' → D.nx σ' H'
  rt := fun p => ∀ v H', StO T O H H' → T.ok H' → Rep K T A H' v p → D.rt v H'
  bk := fun ρ' => ∀ σ' H' O', Rl K T A Γ O' ρ' σ' H' → Fr T Γ O O' σ σ' H H' → D.bk σ' H'
  ct := fun ρ' => ∀ σ' H' O', Rl K T A Γ O' ρ' σ' H' → Fr T Γ O O' σ σ' H H' → D.ct σ' H'
section
variable {K : PySem.W.Frag} {T : Tk} {A : Addr → Prop} {Γ : List Kd} {O O' O2 : Nat → Option Addr} {ρ : Rh} {σ σ' σ2 : L2.St} {H H' H2 : Hp} {E : Ends}
theorem kn_le (f : Fr T Γ O O' σ σ' H H') (ok : T.ok H') : (kn K T A Γ O σ H E).le (kn K T A Γ O' σ' H' E) where
  nx := fun ρ h σ2 H2 O2 r g => h σ2 H2 O2 r (f.trans g ok r.wd.ok)
  rt := fun p h v H2 s o r => h v H2 (fun a ob e n q => s a ob (f.st a ob e n q) n fun i z => (f.ne i a z).elim (fun ⟨j, y⟩ => q j y) fun y => by rw [e] at y; cases y) o r
  bk := fun ρ h σ2 H2 O2 r g => h σ2 H2 O2 r (f.trans g ok r.wd.ok)
  ct := fun ρ h σ2 H2 O2 r g => h σ2 H2 O2 r (f.trans g ok r.wd.ok)
end
def tS (K : PySem.W.Frag) (Γ : List Kd) (ρ : Rh) (W : Kn → Prop) : TS := fun D σ H => ∃ T A O, Rl K T A Γ O ρ σ H ∧ W (kn K T A Γ O σ H D)
def Kn.out {α : Type} (k : Kn) (E : α → Rh) : Out α → Prop
  | .nx a => k.nx (E a)
  | .rt v => k.rt v
  | .bk a => k.bk (E a)
  | .ct a => k.ct (E a)
theorem Kn.le.out {α : Type} {k k' : Kn} (h : k.le k') {E : α → Rh} {o : Out α} (q : k.out E o) : k'.out E o := by
  cases o with
  | nx a => exact h.nx _ q
  | rt v => exact h.rt _ q
  | bk a => exact h.bk _ q
  | ct a => exact h.ct _ q
section
variable {m : Type → Type} [PM m] {α β : Type}
abbrev WB (E : α → Rh) (x : m α) : Kn → Prop := fun k => PM.run x fun a => k.nx (E a)
abbrev WT (x : m D) : Kn → Prop := fun k => PM.run x k.rt
abbrev WO (E : α → Rh) (x : m (Out α)) : Kn → Prop := fun k => PM.run x (k.out E)
/-- a block that falls through; that returns; any -/
abbrev VB (X : Cx) (Γ : List Kd) (ρ : Rh) (st : List Stmt) (E : α → Rh) (x : m α) : Prop := PSs X st (tS X.K Γ ρ (WB E x))
abbrev VT (X : Cx) (Γ : List Kd) (ρ : Rh) (st : List Stmt) (x : m D) : Prop := PSs X st (tS X.K Γ ρ (WT x))
abbrev VO (X : Cx) (Γ : List Kd) (ρ : Rh) (st : List Stmt) (E : α → Rh) (x : m (Out α)) : Prop := PSs X st (tS X.K Γ ρ (WO E x))
abbrev SB (X : Cx) (Γ : List Kd) (ρ : Rh) (st : Stmt) (E : α → Rh) (x : m α) : Prop := PS X st (tS X.K Γ ρ (WB E x))
abbrev SO (X : Cx) (Γ : List Kd) (ρ : Rh) (st : Stmt) (E : α → Rh) (x : m (Out α)) : Prop := PS X st (tS X.K Γ ρ (WO E x))
def Mon (W : Kn → Prop) : Prop := ∀ k k', Kn.le k k' → W k → W k'
theorem mon_B {E : α → Rh} {x : m α} : Mon (WB E x) := fun k k' h q => PM.mono (fun a => h.nx _) q
theorem mon_T {x : m D} : Mon (WT x) := fun k k' h q => PM.mono h.rt q
theorem mon_O {E : α → Rh} {x : m (Out α)} : Mon (WO E x) := fun k k' h q => PM.mono (fun a => h.out) q
variable {X : Cx} {Γ : List Kd} {ρ : Rh} {s : Stmt} {rest : List Stmt}
/-- one statement, then the rest for each way it may leave the names -/
theorem seqB {E : α → Rh} {x : m α} {W : α → Kn → Prop} {W' : Kn → Prop} (h1 : SB X Γ ρ s E x) (h2 : ∀ a, PSs X rest (tS X.K Γ (E a) (W a))) (mW : ∀ a, Mon (W a)) (q : ∀ k, W' k → PM.run x fun a => W a k) : PSs X (s :: rest) (tS X.K Γ ρ W') := by
  refine imSs (pss_cons h1 (u := fun D σ H => ∃ a, tS X.K Γ (E a) (W a) D σ H) ⟨fun pins s σ H D I ⟨a, h⟩ => (h2 a).run pins s σ H D I h⟩) fun D σ H ⟨T, A, O, r, w⟩ => ?_
  exact ⟨T, A, O, r, PM.mono (fun a h σ' H' O' r' f => ⟨a, T, A, O', r', mW a _ _ (kn_le f r'.wd.ok) h⟩) (q _ w)⟩
theorem seqO {E : α → Rh} {x : m (Out α)} {W : α → Kn → Prop} {W' : Kn → Prop} (h1 : SO X Γ ρ s E x) (h2 : ∀ a, PSs X rest (tS X.K Γ (E a) (W a))) (mW : ∀ a, Mon (W a)) (q : ∀ k, W' k → PM.run x fun o => match o with | .nx a => W a k | .rt v => k.rt v | .bk _ => False | .ct _ => False) : PSs X (s :: rest) (tS X.K Γ ρ W') := by
  refine imSs (pss_cons h1 (u := fun D σ H => ∃ a, tS X.K Γ (E a) (W a) D σ H) ⟨fun pins s σ H D I ⟨a, h⟩ => (h2 a).run pins s σ H D I h⟩) fun D σ H ⟨T, A, O, r, w⟩ => ?_
  refine ⟨T, A, O, r, PM.mono (fun o h => ?_) (q _ w)⟩
  cases o with
  | nx a => exact fun σ' H' O' r' f => ⟨a, T, A, O', r', mW a _ _ (kn_le f r'.wd.ok) h⟩
  | rt v => exact h
  | bk a => exact h.elim
  | ct a => exact h.elim
theorem VT.cons {E : α → Rh} {x : m α} {k : α → m D} (h1 : SB X Γ ρ s E x) (h2 : ∀ a, VT X Γ (E a) rest (k a)) : VT X Γ ρ (s :: rest) (x >>= k) := seqB h1 h2 (fun _ => mon_T) fun kk w => (PM.run_bind _ _ _).mp w
theorem VB.cons {E : α → Rh} {E2 : β → Rh} {x : m α} {k : α → m β} (h1 : SB X Γ ρ s E x) (h2 : ∀ a, VB X Γ (E a) rest E2 (k a)) : VB X Γ ρ (s :: rest) E2 (x >>= k) := seqB h1 h2 (fun _ => mon_B) fun kk w => (PM.run_bind _ _ _).mp w
theorem VO.cons {E : α → Rh} {E2 : β → Rh} {x : m α} {k : α → m (Out β)} (h1 : SB X Γ ρ s E x) (h2 : ∀ a, VO X Γ (E a) rest E2 (k a)) : VO X Γ ρ (s :: rest) E2 (x >>= k) := seqB h1 h2 (fun _ => mon_O) fun kk w => (PM.run_bind _ _ _).mp w
theorem VT.consO {E : α → Rh} {x : m (Out α)} {k : α → m D} (h1 : SO X Γ ρ s E x) (h2 : ∀ a, VT X Γ (E a) rest (k a)) : VT X Γ ρ (s :: rest) (x >>= thenT k) := seqO h1 h2 (fun _ => mon_T) fun kk w => PM.mono (fun o h => by
  cases o with
  | nx a => exact h
  | rt v => simp only [thenT, thenO] at h; rw [PM.run_pure] at h; exact h
  | bk a => obtain ⟨_, e, _⟩ := (PM.run_lift _ _).mp h; cases e
  | ct a => obtain ⟨_, e, _⟩ := (PM.run_lift _ _).mp h; cases e) ((PM.run_bind _ _ _).mp w)
theorem VO.consO {E : α → Rh} {E2 : β → Rh} {x : m (Out α)} {k : α → m (Out β)} (h1 : SO X Γ ρ s E x) (h2 : ∀ a, VO X Γ (E a) rest E2 (k a)) : VO X Γ ρ (s :: rest) E2 (x >>= thenO k) := seqO h1 h2 (fun _ => mon_O) fun kk w => PM.mono (fun o h => by
  cases o with
  | nx a => exact h
  | rt v => simp only [thenT, thenO] at h; rw [PM.run_pure] at h; exact h
  | bk a => obtain ⟨_, e, _⟩ := (PM.run_lift _ _).mp h; cases e
  | ct a => obtain ⟨_, e, _⟩ := (PM.run_lift _ _).mp h; cases e) ((PM.run_bind _ _ _).mp w)
/-! ### the ends of blocks -/
theorem VB.nil {E : α → Rh} {a : α} (h : Sub (E a) ρ) : VB (m := m) X Γ ρ [] E (pure a) := imSs pss_nil fun D σ H ⟨T, A, O, r, w⟩ => by
  unfold WB at w
  rw [PM.run_pure] at w
  exact w σ H O (r.less h) (.refl r)
theorem VO.nil {E : α → Rh} {a : α} (h : Sub (E a) ρ) : VO (m := m) X Γ ρ [] E (pure (.nx a)) := imSs pss_nil fun D σ H ⟨T, A, O, r, w⟩ => by
  unfold WO at w
  rw [PM.run_pure] at w
  exact w σ H O (r.less h) (.refl r)
theorem VO.cont {E : α → Rh} {a : α} {pos : Pos} {rest : List Stmt} (h : Sub (E a) ρ) : VO (m := m) X Γ ρ (.Continue pos :: rest) E (pure (.ct a)) := imSs (pss_cons ps_continue (u := tNever) pss_never) fun D σ H ⟨T, A, O, r, w⟩ => by
  unfold WO at w
  rw [PM.run_pure] at w
  exact w σ H O (r.less h) (.refl r)
theorem VO.brk {E : α → Rh} {a : α} {pos : Pos} {rest : List Stmt} (h : Sub (E a) ρ) : VO (m := m) X Γ ρ (.Break pos :: rest) E (pure (.bk a)) := imSs (pss_cons ps_break (u := tNever) pss_never) fun D σ H ⟨T, A, O, r, w⟩ => by
  unfold WO at w
  rw [PM.run_pure] at w
  exact w σ H O (r.less h) (.refl r)
theorem ret_read {K : PySem.W.Frag} {e : Expr} {x : m D} {D : Ends} {σ : L2.St} {H : Hp} {T : Tk} {A : Addr → Prop} {O : Nat → Option Addr} (r : Rl K T A Γ O ρ σ H) (w : PM.run x (kn K T A Γ O σ H D).rt) : tE K ρ x σ H D.rt :=
  ⟨T, A, r.wdA, r.all, PM.mono (fun p h v H' q => h v H' (fun a o e n _ => q.st a o e n) q.ok q.rp) w⟩
theorem VT.ret {e : Expr} {x : m D} {pos : Pos} {rest : List Stmt} (h : VE X ρ e x) : VT X Γ ρ (.Return (some e) pos :: rest) x := imSs (pss_cons (ps_ret h) (u := tNever) pss_never) fun D σ H ⟨T, A, O, r, w⟩ => ret_read (e := e) r w
theorem VO.ret {E : α → Rh} {e : Expr} {x : m D} {pos : Pos} {rest : List Stmt} (h : VE X ρ e x) : VO X Γ ρ (.Return (some e) pos :: rest) E (x >>= fun v => pure (.rt v)) := imSs (pss_cons (ps_ret h) (u := tNever) pss_never) fun D σ H ⟨T, A, O, r, w⟩ => by
  unfold WO at w
  rw [PM.run_bind] at w
  exact ret_read (e := e) r (PM.mono (fun v q => by rw [PM.run_pure] at q; exact q) w)
end
end Qv

namespace Qv
open PySem PySem.Spec PyProof.Rows L2
/-! ## what a statement stores -/
def dApp : D → D → Option D
  | .list ds, p => if ds.length < sizeLine then some (.list (ds ++ [p])) else none
  | _, _ => none
def dSet : D → D → D → Option D
  | .list ds, .int k, p => (ixN ds.length k).map fun j => .list (ds.set j p)
  | _, _, _ => none
/-- pop: the last one, and what is left -/
def dPop : D → Option (D × D)
  | .list ds => ds[ds.length - 1]?.map fun p => (p, .list ds.dropLast)
  | _ => none
section
variable {K : PySem.W.Frag} {T : Tk} {A : Addr → Prop} {Γ : List Kd} {O : Nat → Option Addr} {ρ : Rh} {σ : L2.St} {H H' : Hp} {a : Addr} {i : Nat} {p : D} {us us' : List V} {ds' : List D}
theorem Rl.wdW (r : Rl K T A Γ O ρ σ H) (hO : O i = some a) : Wd T (AT A O) (upd H a (.lst us')) := by
  have nS : ¬ T.S a := fun q => r.dis i a hO (r.sub a q)
  refine ⟨T.keep r.wd.ok fun b q => upd_ne fun e => nS (e ▸ q), r.wd.sub, fun b q => ?_⟩
  by_cases h : b = a
  · subst h; rw [upd_same]; trivial
  · rw [upd_ne h]; exact r.wd.mu b q
theorem stA_own (hO : O i = some a) : StA (AT A O) H (upd H a (.lst us')) := fun b o e n => by
  rw [upd_ne fun h => n (by rw [h]; exact .inr ⟨i, hO⟩)]; exact e
theorem Rl.write (r : Rl K T A Γ O ρ σ H) (hi : rAt ρ i = some p) (hk : kAt Γ i = .ow) (hO : O i = some a) (hr : Reps K T (AT A O) H us' ds') : Rl K T A Γ O (rPut ρ i (.list ds')) σ (upd H a (.lst us')) := by
  have ss : StA (AT A O) H (upd H a (.lst us')) := stA_own hO
  refine ⟨by rw [rPut_len, r.len], r.wdW hO, r.sub, fun j q h k => ?_, fun j q h k => ?_, r.inj, r.dis⟩
  · have hj : j ≠ i := fun e => k (e ▸ hk)
    rw [rAt_put, if_neg hj] at h
    obtain ⟨v, h1, h2⟩ := r.sh j q h k
    exact ⟨v, h1, h2.stA r.wd.mun ss⟩
  · rw [rAt_put] at h
    by_cases hj : j = i
    · subst hj
      rw [if_pos rfl] at h
      by_cases hl : j < ρ.length
      · rw [if_pos hl] at h
        cases h
        obtain ⟨b, h1, h2, _⟩ := r.ow j p hi hk
        rw [hO] at h2
        cases h2
        exact ⟨a, h1, hO, .lst upd_same (hr.stA r.wd.mun ss)⟩
      · rw [if_neg hl] at h; cases h
    · rw [if_neg hj] at h
      obtain ⟨b, h1, h2, h3⟩ := r.ow j q h k
      exact ⟨b, h1, h2, h3.stA r.wd.mun ss (upd_ne fun e => hj (r.inj j i b h2 (e ▸ hO)))⟩
theorem Fr.write (r : Rl K T A Γ O ρ σ H) (hO : O i = some a) : Fr T Γ O O σ σ H (upd H a (.lst us')) :=
  ⟨fun b o e _ h => by rw [upd_ne fun q => h i (by rw [hO, q])]; exact e, fun j b e => .inl ⟨j, e⟩, fun j b e => (r.wdW hO).mu b (.inr ⟨j, e⟩), fun _ _ => rfl⟩
def oPut (O : Nat → Option Addr) (i : Nat) (a : Addr) : Nat → Option Addr := fun j => if j = i then some a else O j
theorem Rl.own (r : Rl K T A Γ O ρ σ H) (hk : kAt Γ i = .ow) (q : PostN K T (AT A O) H H' p a) : Rl K T A Γ (oPut O i a) (rPut ρ i p) (σ.set i (some (.ref a))) H' := by
  have r' := r.step q.st q.ok
  have hB : ∀ b, AT A (oPut O i a) b → AT A O b ∨ b = a := fun b h => by
    rcases h with h | ⟨j, h⟩
    · exact .inl (.inl h)
    · unfold oPut at h
      split at h
      · cases h; exact .inr rfl
      · exact .inl (.inr ⟨j, h⟩)
  have hN : ∀ b, AT A (oPut O i a) b → AT A O b ∨ H b = none := fun b h => (hB b h).imp_right fun e => by rw [e]; exact q.nw
  obtain ⟨us, ds, rfl, e, rr⟩ := q.ow
  have ss : StA (AT A (oPut O i a)) H H' := (q.st.stA r.sub).weak fun b => .inl
  have mn : MuN (AT A (oPut O i a)) H := fun b h => (hN b h).elim (fun z => .inr (r.wd.mu b z)) .inl
  have wd : Wd T (AT A (oPut O i a)) H' := ⟨q.ok, fun b h => .inl (r.sub b h), fun b h => (hB b h).elim (fun z => r'.wd.mu b z) fun z => by rw [z, e]; trivial⟩
  refine ⟨by rw [rPut_len, List.length_set, r.len], wd, r.sub, fun j d h k => ?_, fun j d h k => ?_, fun j l b h1 h2 => ?_, fun j b h => ?_⟩
  · have hj : j ≠ i := fun z => k (z ▸ hk)
    rw [rAt_put, if_neg hj] at h
    obtain ⟨v, h1, h2⟩ := r.sh j d h k
    exact ⟨v, by rw [List.getElem?_set_ne (Ne.symm hj)]; exact h1, (h2.ext hN).stA mn ss⟩
  · rw [rAt_put] at h
    by_cases hj : j = i
    · subst hj
      rw [if_pos rfl] at h
      by_cases hl : j < ρ.length
      · rw [if_pos hl] at h
        cases h
        exact ⟨a, List.getElem?_set_self (by rw [← r.len]; exact hl), by simp [oPut], .lst e (rr.weak fun b h => hB b h)⟩
      · rw [if_neg hl] at h; cases h
    · rw [if_neg hj] at h
      obtain ⟨b, h1, h2, h3⟩ := r.ow j d h k
      refine ⟨b, by rw [List.getElem?_set_ne (Ne.symm hj)]; exact h1, by simp [oPut, hj, h2], ?_⟩
      cases h3 with
      | lst e3 r3 =>
        refine .lst ?_ ((r3.ext hN).stA mn ss)
        exact q.st b _ e3 fun z => r.dis j b h2 (r.sub b z)
  · unfold oPut at h1 h2
    have no : ∀ j, O j ≠ some a := fun j z => by
      have := r.wd.mu a (.inr ⟨j, z⟩)
      rw [q.nw] at this
      exact this
    split at h1
    · cases h1
      split at h2
      · rename_i z1 z2; rw [z1, z2]
      · exact absurd h2 (no l)
    · split at h2
      · cases h2
        exact absurd h1 (no j)
      · exact r.inj j l b h1 h2
  · unfold oPut at h
    split at h
    · cases h
      exact r.wdA.new q.nw
    · exact r.dis j b h
theorem Fr.own (r : Rl K T A Γ O ρ σ H) (hk : kAt Γ i = .ow) (q : PostN K T (AT A O) H H' p a) : Fr T Γ O (oPut O i a) σ (σ.set i (some (.ref a))) H H' := by
  have r' := r.step q.st q.ok
  refine ⟨fun b o e n _ => q.st b o e n, fun j b h => ?_, fun j b h => r'.wd.mu b (.inr ⟨j, h⟩), fun j h => List.getElem?_set_ne fun e => by rw [← e, hk] at h; cases h⟩
  unfold oPut at h
  split at h
  · cases h; exact .inr q.nw
  · exact .inl ⟨j, h⟩
end
section
variable {m : Type → Type} [PM m] {α β : Type} {X : Cx} {Γ : List Kd} {ρ : Rh} {e : Expr} {es : List Expr} {x : m D} {xs : m (List D)} {pos : Pos}
/-! ### new lists -/
theorem postN_new {K : PySem.W.Frag} {T : Tk} {A : Addr → Prop} {H : Hp} {a : Addr} {us : List V} {ds : List D} (w : Wd T A H) (n : H a = none) (r : Reps K T A H us ds) : PostN K T A H (upd H a (.lst us)) (.list ds) a :=
  ⟨step_new n, (w.laid n).ok, n, us, ds, rfl, upd_same, (r.ext fun b h => h.imp_right fun e => by rw [e]; exact n).stA (fun b h => h.elim (fun z => .inr (w.mu b z)) fun z => .inl (z ▸ n)) fun b o q z => by rw [upd_ne fun k => z (.inr k)]; exact q⟩
theorem VN.lst (h : VA X ρ es xs) (hz : es.length ≤ sizeLine := by decide) : VN X ρ (.List es pos) (xs >>= fun l => pure (.list l)) :=
  imE (pe_lst h.pa) fun σ H Q ⟨T, A, w, ev, q⟩ => by
    rw [PM.run_bind] at q
    refine ⟨T, A, w, ev, PM.mono (fun ps q vs H2 s2 o2 r2 => ?_) (h.ln _ q)⟩
    obtain ⟨q, hl⟩ := q
    refine ⟨by rw [r2.length, hl]; exact hz, fun p np => ?_⟩
    rw [PM.run_pure] at q
    exact q _ _ ((postN_new (w.step s2 o2) np r2).after s2 (step_none s2 o2 np))
theorem VN.lstC {ds : List D} (h : VA (m := m) X ρ es (pure ds)) (hz : es.length ≤ sizeLine := by decide) : VN (m := m) X ρ (.List es pos) (pure (.list ds)) :=
  imE (VN.lst h hz) fun _ _ _ ⟨T, A, w, ev, q⟩ => ⟨T, A, w, ev, by rw [PM.run_bind, PM.run_pure]; exact q⟩
/-! ### values for the names -/
def tH (K : PySem.W.Frag) (Γ : List Kd) (ρ : Rh) (x : m D) : TE := fun σ H Q => ∃ T A O, Rl K T A Γ O ρ σ H ∧ PM.run x fun p => ∀ v H', Post K T (AT A O) H H' p v → Q v H'
abbrev VH (X : Cx) (Γ : List Kd) (ρ : Rh) (e : Expr) (x : m D) : Prop := PE X e (tH X.K Γ ρ x)
theorem VH.hid (h : VE X (hide Γ ρ) e x) : VH X Γ ρ e x := imE h fun σ H Q ⟨T, A, O, r, q⟩ => ⟨T, AT A O, r.wd, r.hid, q⟩
theorem VH.plain (h : VE X ρ e x) : VH X [] ρ e x := VH.hid h
theorem VH.imm (h : VE X ρ e x) : VH X Γ ρ e (x >>= fun p => PM.lift (imm p)) := imE h fun σ H Q ⟨T, A, O, r, q⟩ => by
  rw [PM.run_bind] at q
  refine ⟨T, A, r.wdA, r.all, PM.mono (fun p q v H' o => ?_) q⟩
  rw [PM.run_lift] at q
  obtain ⟨d, e, q⟩ := q
  obtain ⟨hp, e⟩ := ifs e
  subst e
  exact q v H' ⟨o.st, o.ok, o.rp.imm hp⟩
/-- a new list for an owner -/
def tNH (K : PySem.W.Frag) (Γ : List Kd) (ρ : Rh) (x : m D) : TE := fun σ H Q => ∃ T A O, Rl K T A Γ O ρ σ H ∧ PM.run x fun p => ∀ a H', PostN K T (AT A O) H H' p a → Q (.ref a) H'
abbrev VNH (X : Cx) (Γ : List Kd) (ρ : Rh) (e : Expr) (x : m D) : Prop := PE X e (tNH X.K Γ ρ x)
theorem VNH.hid (h : VN X (hide Γ ρ) e x) : VNH X Γ ρ e x := imE h fun σ H Q ⟨T, A, O, r, q⟩ => ⟨T, AT A O, r.wd, r.hid, q⟩
theorem VNH.imm (h : VN X ρ e x) : VNH X Γ ρ e (x >>= fun p => PM.lift (immL p)) := imE h fun σ H Q ⟨T, A, O, r, q⟩ => by
  rw [PM.run_bind] at q
  refine ⟨T, A, r.wdA, r.all, PM.mono (fun p q v H' o => ?_) q⟩
  rw [PM.run_lift] at q
  obtain ⟨d, e, q⟩ := q
  obtain ⟨us, ds, rfl, e1, r1⟩ := o.ow
  obtain ⟨hp, e⟩ := ifs e
  subst e
  exact q v H' ⟨o.st, o.ok, o.nw, us, ds, rfl, e1, Reps.imm r1 hp⟩
/-! ### name = e -/
theorem asg_put {K : PySem.W.Frag} {i : Nat} {D : Ends} {σ : L2.St} {H H' : Hp} {T : Tk} {A : Addr → Prop} {O : Nat → Option Addr} {p : Qv.D} {v : V} (hk : kAt Γ i = .sh) (r : Rl K T A Γ O ρ σ H) (q : (kn K T A Γ O σ H D).nx (rPut ρ i p)) (o : Post K T (AT A O) H H' p v) : gName i v σ H' D.nx := by
  have r1 := r.step o.st o.ok
  exact q _ _ O (r1.put o.rp hk) ((Fr.step r o.st o.ok).trans (Fr.put r1 (by rw [hk]; decide)) o.ok o.ok)
theorem own_put {K : PySem.W.Frag} {i : Nat} {D : Ends} {σ : L2.St} {H H' : Hp} {T : Tk} {A : Addr → Prop} {O : Nat → Option Addr} {p : Qv.D} {a : Addr} (hk : kAt Γ i = .ow) (r : Rl K T A Γ O ρ σ H) (q : (kn K T A Γ O σ H D).nx (rPut ρ i p)) (o : PostN K T (AT A O) H H' p a) : gName i (.ref a) σ H' D.nx := q _ _ _ (r.own hk o) (Fr.own r hk o)
theorem asg_read {K : PySem.W.Frag} {i : Nat} {D : Ends} {σ : L2.St} {H : Hp} (hk : kAt Γ i = .sh) (h : tS K Γ ρ (WB (fun p => rPut ρ i p) x) D σ H) : tH K Γ ρ x σ H fun v H1 => gName i v σ H1 D.nx := by
  obtain ⟨T, A, O, r, q⟩ := h
  refine ⟨T, A, O, r, PM.mono (fun p q v H' o => ?_) q⟩
  have r1 := r.step o.st o.ok
  exact q _ _ O (r1.put o.rp hk) ((Fr.step r o.st o.ok).trans (Fr.put r1 (by rw [hk]; decide)) o.ok o.ok)
theorem imB {s : Stmt} {E E' : α → Rh} {x : m α} (h : SB X Γ ρ s E x) (e : ∀ a, E' a = E a) : SB X Γ ρ s E' x := by
  have : E' = E := funext e
  rw [this]; exact h
theorem SB.asg {i : Nat} {y : Str} {py : Pos} {E : D → Rh} (h : VH X Γ ρ e x) (hE : ∀ p, E p = rPut ρ i p) (hN : X.N.Nodup) (hk : kAt Γ i = .sh := by rfl) (hi : X.N[i]? = some y := by rfl) (hx : Loc X.env.scope y := by first | exact Or.inl rfl | exact Or.inr rfl) (hs : swapsWith e (some (.Name y py)) pos.line X.env = pure false := by rfl) (hf : X.fn y = true ∨ X.env.scope.names.lookup y = some .local := by first | exact .inl rfl | exact .inr rfl) :
    SB X Γ ρ (.Assign [.Name y py] e pos) E x := imB (imS (ps_set hN hi hx h hs hf) fun D σ H q => asg_read hk q) hE
theorem own_read {K : PySem.W.Frag} {i : Nat} {D : Ends} {σ : L2.St} {H : Hp} (hk : kAt Γ i = .ow) (h : tS K Γ ρ (WB (fun p => rPut ρ i p) x) D σ H) : tNH K Γ ρ x σ H fun v H1 => gName i v σ H1 D.nx := by
  obtain ⟨T, A, O, r, q⟩ := h
  exact ⟨T, A, O, r, PM.mono (fun p q a H' o => q _ _ _ (r.own hk o) (Fr.own r hk o)) q⟩
theorem SB.own {i : Nat} {y : Str} {py : Pos} {E : D → Rh} (h : VNH X Γ ρ e x) (hE : ∀ p, E p = rPut ρ i p) (hN : X.N.Nodup) (hk : kAt Γ i = .ow := by rfl) (hi : X.N[i]? = some y := by rfl) (hx : Loc X.env.scope y := by first | exact Or.inl rfl | exact Or.inr rfl) (hs : swapsWith e (some (.Name y py)) pos.line X.env = pure false := by rfl) (hf : X.fn y = true ∨ X.env.scope.names.lookup y = some .local := by first | exact .inl rfl | exact .inr rfl) :
    SB X Γ ρ (.Assign [.Name y py] e pos) E x := imB (imS (ps_set hN hi hx h hs hf) fun D σ H q => own_read hk q) hE
/-! ### pattern = e -/
theorem SB.asgP {tg : Expr} {pt : Pt} (h : VH X Γ ρ e x) (hg : VG X tg pt) (hk : ∀ i ∈ pt.slots, kAt Γ i = .sh := by decide) (hs : swapsWithSole [tg] e pos.line X.env = pure false := by rfl) (hw : swappedStores [tg] e X.env = pure none := by rfl) (h1 : (assignEach [tg] X.env).map (·.2) = [assign tg X.env] := by rfl) :
    SB X Γ ρ (.Assign [tg] e pos) (fun l => rPuts ρ pt.slots l) (x >>= fun p => PM.lift (pt.flat p)) :=
  imS (ps_asg h hg hs hw h1) fun D σ H ⟨T, A, O, r, q⟩ => by
    unfold WB at q
    rw [PM.run_bind] at q
    refine ⟨T, A, O, r, PM.mono (fun p q v H' o => ?_) q⟩
    rw [PM.run_lift] at q
    obtain ⟨l, el, q⟩ := q
    have r1 := r.step o.st o.ok
    refine ⟨T, AT A O, p, l, r1.wd, o.rp, el, fun us hus => ?_⟩
    exact q _ _ O (r1.puts hus hk) ((Fr.step r o.st o.ok).trans (Fr.puts r1 hk) o.ok o.ok)
/-- then the rest, by the leaves -/
theorem VT.consP {s : Stmt} {rest : List Stmt} {n : Nat} {E : List D → Rh} {y : m (List D)} {k : List D → m D} (h1 : SB X Γ ρ s E y) (hn : ∀ K : List D → Prop, PM.run y K → PM.run y fun l => K l ∧ l.length = n) (h2 : ∀ l, l.length = n → VT X Γ (E l) rest (k l)) : VT X Γ ρ (s :: rest) (y >>= k) :=
  seqB h1 (W := fun l k' => l.length = n ∧ WT (k l) k') (fun l => ⟨fun pins s σ H D I ⟨T, A, O, r, hl, w⟩ => (h2 l hl).run pins s σ H D I ⟨T, A, O, r, w⟩⟩) (fun l k1 k2 h q => ⟨q.1, mon_T k1 k2 h q.2⟩) fun kk w => PM.mono (fun l q => ⟨q.2, q.1⟩) (hn _ ((PM.run_bind _ _ _).mp w))
theorem VB.consP {s : Stmt} {rest : List Stmt} {n : Nat} {E : List D → Rh} {E2 : β → Rh} {y : m (List D)} {k : List D → m β} (h1 : SB X Γ ρ s E y) (hn : ∀ K : List D → Prop, PM.run y K → PM.run y fun l => K l ∧ l.length = n) (h2 : ∀ l, l.length = n → VB X Γ (E l) rest E2 (k l)) : VB X Γ ρ (s :: rest) E2 (y >>= k) :=
  seqB h1 (W := fun l k' => l.length = n ∧ WB E2 (k l) k') (fun l => ⟨fun pins s σ H D I ⟨T, A, O, r, hl, w⟩ => (h2 l hl).run pins s σ H D I ⟨T, A, O, r, w⟩⟩) (fun l k1 k2 h q => ⟨q.1, mon_B k1 k2 h q.2⟩) fun kk w => PM.mono (fun l q => ⟨q.2, q.1⟩) (hn _ ((PM.run_bind _ _ _).mp w))
theorem VO.consP {s : Stmt} {rest : List Stmt} {n : Nat} {E : List D → Rh} {E2 : β → Rh} {y : m (List D)} {k : List D → m (Out β)} (h1 : SB X Γ ρ s E y) (hn : ∀ K : List D → Prop, PM.run y K → PM.run y fun l => K l ∧ l.length = n) (h2 : ∀ l, l.length = n → VO X Γ (E l) rest E2 (k l)) : VO X Γ ρ (s :: rest) E2 (y >>= k) :=
  seqB h1 (W := fun l k' => l.length = n ∧ WO E2 (k l) k') (fun l => ⟨fun pins s σ H D I ⟨T, A, O, r, hl, w⟩ => (h2 l hl).run pins s σ H D I ⟨T, A, O, r, w⟩⟩) (fun l k1 k2 h q => ⟨q.1, mon_O k1 k2 h q.2⟩) fun kk w => PM.mono (fun l q => ⟨q.2, q.1⟩) (hn _ ((PM.run_bind _ _ _).mp w))
theorem flat_ln {pt : Pt} {x : m D} (K : List D → Prop) (h : PM.run (x >>= fun p => PM.lift (pt.flat p)) K) : PM.run (x >>= fun p => PM.lift (pt.flat p)) fun l => K l ∧ l.length = pt.slots.length := by
  rw [PM.run_bind] at h ⊢
  refine PM.mono (fun p h => ?_) h
  rw [PM.run_lift] at h ⊢
  obtain ⟨l, e, h⟩ := h
  exact ⟨l, e, h, flat_len _ _ _ e⟩
/-! ### a, b = x, y -/
theorem SB.par2 {i j : Nat} {y z : Str} {a b : Expr} {py pz pt : Pos} {kt k2 : Nat} {pt2 : Pos} {E : List D → Rh} (h : VA X (hide Γ ρ) [a, b] xs) (hE : ∀ p q, E [p, q] = rPut (rPut ρ i p) j q) (hN : X.N.Nodup) (hij : i ≠ j := by decide) (hki : kAt Γ i = .sh := by rfl) (hkj : kAt Γ j = .sh := by rfl) (hc : X.calm = true := by rfl) (hi : X.N[i]? = some y := by rfl) (hj : X.N[j]? = some z := by rfl)
    (hy : X.env.scope.names.lookup y = some .local := by rfl) (hz : X.env.scope.names.lookup z = some .local := by rfl) (hw : swappedStores [.Tuple [.Name y py, .Name z pz] kt pt] (.Tuple [a, b] k2 pt2) X.env = pure (some [y, z]) := by rfl) (hs : swapsWithSole [.Tuple [.Name y py, .Name z pz] kt pt] (.Tuple [a, b] k2 pt2) pos.line X.env = pure false := by rfl) :
    SB X Γ ρ (.Assign [.Tuple [.Name y py, .Name z pz] kt pt] (.Tuple [a, b] k2 pt2) pos) E xs :=
  imS (ps_par hc hN hi hj hij hy hz h.pa hw hs) fun D σ H ⟨T, A, O, r, q⟩ => by
    refine ⟨T, AT A O, r.wd, r.hid, PM.mono (fun l q vs H' s o rv => ?_) (h.ln _ q)⟩
    obtain ⟨q, hl⟩ := q
    have r1 := r.step s o
    match l, hl with
    | [p, p2], _ =>
      obtain ⟨v, u, rfl, rv1, rv2⟩ := reps2 rv
      refine ⟨v, u, rfl, ?_⟩
      rw [hE] at q
      have r2 := r1.put rv1 hki
      exact q _ _ O (r2.put rv2 hkj) (((Fr.step r s o).trans (Fr.put r1 (by rw [hki]; decide)) o o).trans (Fr.put r2 (by rw [hkj]; decide)) o o)
/-! ### changes -/
theorem app_len : sizeLine = 16777216 := sizeLine_eq
theorem SB.app {i : Nat} {y : Str} {py apos p1 : Pos} {q0 : D} {E : D → Rh} (h : VH X Γ ρ e x) (hr : rAt ρ i = some q0) (hE : ∀ p, E p = rPut ρ i p) (hk : kAt Γ i = .ow := by rfl) (hi : X.N[i]? = some y := by rfl) (hv : Vis X.env.scope y := by first | exact Or.inl rfl | exact Or.inr (Or.inl rfl) | exact Or.inr (Or.inr rfl)) (hd : (y == ("__debug__" : Str)) = false := by decide) (hcd : (y == ("__classdict__" : Str)) = false := by decide)
    (hbase : attributeBase (.Name y py) "append" X.env (eval (.Name y py) X.env) = eval (.Name y py) X.env := by rfl)
    (hfew : ((backTo p1 (starEach [e] X.env)).all (fun x => !x.1) && (backToKw p1 (keywordEach [] X.env)).all (fun x => x.1.isSome) && decide ([e].length + ([] : List Keyword).length + (if ([] : List Keyword).isEmpty then 0 else 1) < 30)) = true := by rfl)
    (hline : (apos.endLine == p1.line) = true := by rfl) (hs : starEach [e] X.env = (false, eval e X.env) :: starEach [] X.env := by rfl) (hplain : (backTo p1 (starEach [] X.env)).any (·.1) = false := by rfl) (hsw : swapsWith (.Call (.Attribute (.Name y py) "append" apos) [e] [] p1) none pos.line X.env = pure false := by rfl) :
    SB X Γ ρ (.Expr (.Call (.Attribute (.Name y py) "append" apos) [e] [] p1) pos) E (x >>= fun p => PM.lift (dApp q0 p)) :=
  imB (imS (ps_expr (pe_bm PySem.F.plainAttrs_list PySem.F.slot_list_append PySem.F.type_list_append mt_append (pe_var hi hv hd hcd) (pa_cons h pa_nil hs) hbase hfew hline hs hplain) hsw) fun D σ H ⟨T, A, O, r, q⟩ => by
    unfold WB at q
    rw [PM.run_bind] at q
    obtain ⟨a, h1, h2, h3⟩ := r.ow i q0 hr hk
    refine ⟨.ref a, h1, ?_, T, A, O, r, PM.mono (fun p q v H' o => ?_) q⟩
    · cases h3 with
      | lst e1 _ => exact .inl ⟨rfl, _, SqL.of e1⟩
    · rw [PM.run_lift] at q
      obtain ⟨d, ed, q⟩ := q
      have r1 := r.step o.st o.ok
      obtain ⟨a', _, h2', h3'⟩ := r1.ow i q0 hr hk
      rw [h2] at h2'
      cases h2'
      cases h3' with
      | @lst us ds e1 rr =>
        obtain ⟨hz, ed⟩ := ifs ed
        subst ed
        refine ⟨a, us, v, rfl, rfl, e1, by rw [rr.length]; exact hz, ?_⟩
        exact q _ _ O (r1.write hr hk h2 (rr.append (.cons o.rp .nil))) ((Fr.step r o.st o.ok).trans (Fr.write r1 h2) o.ok (r1.wdW h2).ok)) hE
theorem SB.set {i : Nat} {y : Str} {py p1 : Pos} {ix : Expr} {xi : m D} {q0 : D} {E : D → Rh} (h : VH X Γ ρ e x) (hx : VE X ρ ix xi) (hr : rAt ρ i = some q0) (hE : ∀ p, E p = rPut ρ i p) (hk : kAt Γ i = .ow := by rfl) (hi : X.N[i]? = some y := by rfl) (hv : Vis X.env.scope y := by first | exact Or.inl rfl | exact Or.inr (Or.inl rfl) | exact Or.inr (Or.inr rfl)) (hd : (y == ("__debug__" : Str)) = false := by decide) (hcd : (y == ("__classdict__" : Str)) = false := by decide)
    (ha : ∀ v, assign (.Subscript (.Name y py) ix p1) X.env v = (do
      let ov ← holding [v] (eval (.Name y py) X.env)
      let iv ← holding [v, ov] (eval ix X.env)
      standAt p1
      holding [v, ov, iv] (setItem ov iv v)
      release [v, ov, iv] []) := by intro _; rfl) (hs : swapsWithSole [.Subscript (.Name y py) ix p1] e pos.line X.env = pure false := by rfl) (hw : swappedStores [.Subscript (.Name y py) ix p1] e X.env = pure none := by rfl) (h1 : (assignEach [.Subscript (.Name y py) ix p1] X.env).map (·.2) = [assign (.Subscript (.Name y py) ix p1) X.env] := by rfl) :
    SB X Γ ρ (.Assign [.Subscript (.Name y py) ix p1] e pos) E (x >>= fun p => xi >>= fun k => PM.lift (dSet q0 k p)) :=
  imB (imS (ps_asg h (pg_sub (pe_var hi hv hd hcd) hx set_list ha) hs hw h1) fun D σ H ⟨T, A, O, r, q⟩ => by
    unfold WB at q
    rw [PM.run_bind] at q
    refine ⟨T, A, O, r, PM.mono (fun p q v H' o => ?_) q⟩
    have r1 := r.step o.st o.ok
    obtain ⟨a, h1, h2, h3⟩ := r1.ow i q0 hr hk
    rw [PM.run_bind] at q
    refine ⟨.ref a, h1, T, A, r1.wdA, r1.all, PM.mono (fun k q v2 H2 o2 => ?_) q⟩
    rw [PM.run_lift] at q
    obtain ⟨d, ed, q⟩ := q
    have r2 := r1.step o2.st o2.ok
    obtain ⟨a', _, h2', h3'⟩ := r2.ow i q0 hr hk
    rw [h2] at h2'
    cases h2'
    have rv : Rep X.K T (AT A O) H2 v p := o.rp.stA r1.wd.mun (o2.st.stA r1.wd.sub)
    cases h3' with
    | @lst us ds e1 rr =>
      cases k with
      | int kk =>
        have rk := o2.rp
        cases rk
        change (ixN ds.length kk).map (fun j => PyData.list (ds.set j p)) = some d at ed
        cases ej : ixN ds.length kk with
        | none => rw [ej] at ed; cases ed
        | some j =>
          rw [ej] at ed
          cases ed
          refine ⟨a, us, kk, j, rfl, rfl, e1, by rw [rr.length]; exact ej, ?_⟩
          exact q _ _ O (r2.write hr hk h2 (rr.set j rv)) (((Fr.step r o.st o.ok).trans (Fr.step r1 o2.st o2.ok) o.ok o2.ok).trans (Fr.write r2 h2) o2.ok (r2.wdW h2).ok)
      | _ => cases ed) hE
end
end Qv

namespace Qv
open PySem PySem.Spec PyProof.Rows L2
/-! ## if, for, while; freezing -/
theorem kAt_set {Γ : List Kd} {i : Nat} {k : Kd} (hk : kAt Γ i = .ow) : ∀ j, kAt (Γ.set i k) j = if j = i then k else kAt Γ j := by
  induction Γ generalizing i with
  | nil => cases hk
  | cons c Γ ih =>
    cases i with
    | zero => intro j; cases j <;> simp [kAt]
    | succ i =>
      intro j
      cases j with
      | zero => simp [kAt]
      | succ j => rw [List.set_cons_succ]; simp only [kAt]; rw [ih hk j]; simp
def oDel (O : Nat → Option Addr) (i : Nat) : Nat → Option Addr := fun j => if j = i then none else O j
section
variable {K : PySem.W.Frag} {T : Tk} {A : Addr → Prop} {Γ : List Kd} {O O' O2 : Nat → Option Addr} {ρ : Rh} {σ σ' σ2 : L2.St} {H H' H2 : Hp} {i : Nat}
theorem oDel_at {j : Nat} {a : Addr} (h : oDel O i j = some a) : j ≠ i ∧ O j = some a := by
  unfold oDel at h
  by_cases e : j = i
  · rw [if_pos e] at h; cases h
  · rw [if_neg e] at h; exact ⟨e, h⟩
theorem AT_del {a : Addr} (h : AT A (oDel O i) a) : AT A O a := h.imp_right fun ⟨j, e⟩ => ⟨j, (oDel_at e).2⟩
theorem Rl.freeze (r : Rl K T A Γ O ρ σ H) (hk : kAt Γ i = .ow) : Rl K T A (Γ.set i .sh) (oDel O i) ρ σ H := by
  refine ⟨r.len, ⟨r.wd.ok, fun a h => .inl (r.sub a h), fun a h => r.wd.mu a (AT_del h)⟩, r.sub, fun j p h k => ?_, fun j p h k => ?_, fun a b c h1 h2 => r.inj a b c (oDel_at h1).2 (oDel_at h2).2, fun j a h => r.dis j a (oDel_at h).2⟩
  · by_cases e : j = i
    · subst e
      obtain ⟨a, h1, h2, h3⟩ := r.ow j p h hk
      refine ⟨_, h1, ?_⟩
      cases h3 with
      | lst e1 rr =>
        refine .lst (fun q => ?_) e1 (rr.weak fun b => AT_del)
        rcases q with q | ⟨l, q⟩
        · exact r.dis j a h2 q
        · exact (oDel_at q).1 (r.inj _ _ _ (oDel_at q).2 h2)
    · rw [kAt_set hk, if_neg e] at k
      obtain ⟨v, h1, h2⟩ := r.sh j p h k
      exact ⟨v, h1, h2.weak fun b => AT_del⟩
  · by_cases e : j = i
    · rw [kAt_set hk, if_pos e] at k; cases k
    · rw [kAt_set hk, if_neg e] at k
      obtain ⟨a, h1, h2, h3⟩ := r.ow j p h k
      refine ⟨a, h1, by unfold oDel; rw [if_neg e]; exact h2, ?_⟩
      cases h3 with
      | lst e1 rr => exact .lst e1 (rr.weak fun b => AT_del)
theorem Fr.freeze (r : Rl K T A Γ O ρ σ H) : Fr T Γ O (oDel O i) σ σ H H :=
  ⟨fun a o e _ _ => e, fun j a e => .inl ⟨j, (oDel_at e).2⟩, fun j a e => r.wd.mu a (.inr ⟨j, e⟩), fun _ _ => rfl⟩
theorem Fr.kd {Γ' : List Kd} (f : Fr T Γ' O O' σ σ' H H') (h : ∀ i, kAt Γ i = .fz → kAt Γ' i = .fz) : Fr T Γ O O' σ σ' H H' := ⟨f.st, f.ne, f.mu, fun i q => f.fz i (h i q)⟩
/-- a name not known may be of any kind -/
theorem Rl.unk (hk : kAt Γ i = .ow) (r : Rl K T A (Γ.set i .sh) O ρ σ H) (hn : rAt ρ i = none) : Rl K T A Γ O ρ σ H := by
  refine ⟨r.len, r.wd, r.sub, fun j p h k => ?_, fun j p h k => ?_, r.inj, r.dis⟩
  · have e : j ≠ i := fun e => by rw [e, hn] at h; cases h
    exact r.sh j p h (by rw [kAt_set hk, if_neg e]; exact k)
  · have e : j ≠ i := fun e => by rw [e, hn] at h; cases h
    exact r.ow j p h (by rw [kAt_set hk, if_neg e]; exact k)
end
section
variable {m : Type → Type} [PM m] {α β : Type} {X : Cx} {Γ Γ' : List Kd} {ρ : Rh} {i : Nat} {rest : List Stmt}
theorem VT.frz {x : m D} (i : Nat) (h : VT X Γ' ρ rest x) (hΓ : Γ' = Γ.set i .sh := by rfl) (hk : kAt Γ i = .ow := by rfl) : VT X Γ ρ rest x := imSs h fun D σ H ⟨T, A, O, r, w⟩ => by
  subst hΓ
  refine ⟨T, A, oDel O i, r.freeze hk, PM.mono (fun p q v H' s => q v H' fun a o e n z => s a o e n fun j q => z j (oDel_at q).2) w⟩
theorem frz_le {K : PySem.W.Frag} {T : Tk} {A : Addr → Prop} {O : Nat → Option Addr} {σ : L2.St} {H : Hp} {D : Ends} (r : Rl K T A Γ O ρ σ H) (hk : kAt Γ i = .ow) :
    (∀ ρ', rAt ρ' i = none → (kn K T A Γ O σ H D).nx ρ' → (kn K T A (Γ.set i .sh) (oDel O i) σ H D).nx ρ') ∧ (∀ ρ', rAt ρ' i = none → (kn K T A Γ O σ H D).bk ρ' → (kn K T A (Γ.set i .sh) (oDel O i) σ H D).bk ρ') ∧ (∀ ρ', rAt ρ' i = none → (kn K T A Γ O σ H D).ct ρ' → (kn K T A (Γ.set i .sh) (oDel O i) σ H D).ct ρ') ∧ (∀ p, (kn K T A Γ O σ H D).rt p → (kn K T A (Γ.set i .sh) (oDel O i) σ H D).rt p) := by
  have kz : ∀ j, kAt Γ j = .fz → kAt (Γ.set i .sh) j = .fz := fun j q => by
    rw [kAt_set hk, if_neg fun e => by rw [e, hk] at q; cases q]; exact q
  have key : ∀ (P : L2.St → Hp → Prop) (ρ' : Rh), rAt ρ' i = none → (∀ σ' H' O', Rl K T A Γ O' ρ' σ' H' → Fr T Γ O O' σ σ' H H' → P σ' H') → ∀ σ' H' O', Rl K T A (Γ.set i .sh) O' ρ' σ' H' → Fr T (Γ.set i .sh) (oDel O i) O' σ σ' H H' → P σ' H' := fun P ρ' hn w σ' H' O' r' f =>
    w σ' H' O' (Rl.unk hk r' hn) ((Fr.freeze (i := i) r).trans (f.kd kz) r.wd.ok r'.wd.ok)
  exact ⟨fun ρ' => key _ ρ', fun ρ' => key _ ρ', fun ρ' => key _ ρ', fun p w v H' s => w v H' fun a o e n z => s a o e n fun j q => z j (oDel_at q).2⟩
theorem VB.frz {E : α → Rh} {x : m α} (i : Nat) (h : VB X Γ' ρ rest E x) (hE : ∀ a, rAt (E a) i = none := by intro _; rfl) (hΓ : Γ' = Γ.set i .sh := by rfl) (hk : kAt Γ i = .ow := by rfl) : VB X Γ ρ rest E x := imSs h fun D σ H ⟨T, A, O, r, w⟩ => by
  subst hΓ
  exact ⟨T, A, oDel O i, r.freeze hk, PM.mono (fun a q => (frz_le r hk).1 _ (hE a) q) w⟩
theorem VO.frz {E : α → Rh} {x : m (Out α)} (i : Nat) (h : VO X Γ' ρ rest E x) (hE : ∀ a, rAt (E a) i = none := by intro _; rfl) (hΓ : Γ' = Γ.set i .sh := by rfl) (hk : kAt Γ i = .ow := by rfl) : VO X Γ ρ rest E x := imSs h fun D σ H ⟨T, A, O, r, w⟩ => by
  subst hΓ
  refine ⟨T, A, oDel O i, r.freeze hk, PM.mono (fun o q => ?_) w⟩
  obtain ⟨k1, k2, k3, k4⟩ := frz_le (D := D) r hk
  cases o with
  | nx a => exact k1 _ (hE a) q
  | rt v => exact k4 _ q
  | bk a => exact k2 _ (hE a) q
  | ct a => exact k3 _ (hE a) q
/-! ### if -/
variable {c : Expr} {a b : List Stmt} {pos : Pos} {t : m Bool}
theorem run_ite {t : m Bool} {x y : m α} {K : α → Prop} : PM.run (t >>= fun c => if c = true then x else y) K ↔ PM.run t fun c => if c = true then PM.run x K else PM.run y K := by
  rw [PM.run_bind]
  constructor
  · exact PM.mono fun c h => by cases c <;> exact h
  · exact PM.mono fun c h => by cases c <;> exact h
theorem if_read {W1 W2 W' : Kn → Prop} {D : Ends} {σ : L2.St} {H : Hp} (m1 : Mon W1) (m2 : Mon W2) (q : ∀ k, W' k → PM.run t fun c => if c = true then W1 k else W2 k) (h : tS X.K Γ ρ W' D σ H) : tIfS (tP X.K ρ t) (tS X.K Γ ρ W1) (tS X.K Γ ρ W2) D σ H := by
  obtain ⟨T, A, O, r, w⟩ := h
  refine ⟨T, A, r.wdA, r.all, PM.mono (fun c h H' s o => ?_) (q _ w)⟩
  have r1 := r.step s o
  have l := kn_le (K := X.K) (A := A) (E := D) (Fr.step r s o) o
  cases c with
  | true => exact ⟨T, A, O, r1, m1 _ _ l h⟩
  | false => exact ⟨T, A, O, r1, m2 _ _ l h⟩
theorem SB.ite {E : α → Rh} {x y : m α} (hc : VP X ρ c t) (h1 : VB X Γ ρ a E x) (h2 : VB X Γ ρ b E y) : SB X Γ ρ (.If c a b pos) E (t >>= fun c => if c = true then x else y) :=
  imS (ps_if hc h1 h2) fun D σ H h => if_read mon_B mon_B (fun k => run_ite.mp) h
theorem SO.ite {E : α → Rh} {x y : m (Out α)} (hc : VP X ρ c t) (h1 : VO X Γ ρ a E x) (h2 : VO X Γ ρ b E y) : SO X Γ ρ (.If c a b pos) E (t >>= fun c => if c = true then x else y) :=
  imS (ps_if hc h1 h2) fun D σ H h => if_read mon_O mon_O (fun k => run_ite.mp) h
/-- .. return in the branch: VT's block has no next -/
theorem VT.ifE {x y : m D} (hc : VP X ρ c t) (h1 : VT X Γ ρ a x) (h2 : VT X Γ ρ rest y) : VT X Γ ρ (.If c a [] pos :: rest) (t >>= fun c => if c = true then x else y) :=
  imSs (pss_cons (ps_if hc h1 pss_nil) h2) fun D σ H ⟨T, A, O, r, w⟩ => by
    have w := run_ite.mp w
    refine ⟨T, A, r.wdA, r.all, PM.mono (fun c h H' s o => ?_) w⟩
    have r1 := r.step s o
    have l := kn_le (K := X.K) (A := A) (E := D) (Fr.step r s o) o
    cases c with
    | true => exact ⟨T, A, O, r1, PM.mono (fun p => l.rt p) h⟩
    | false => exact ⟨T, A, O, r1, mon_T _ _ l h⟩
theorem VT.if2 {x y : m D} (hc : VP X ρ c t) (h1 : VT X Γ ρ a x) (h2 : VT X Γ ρ b y) : VT X Γ ρ (.If c a b pos :: rest) (t >>= fun c => if c = true then x else y) :=
  imSs (pss_cons (ps_if hc h1 h2) (u := tNever) pss_never) fun D σ H ⟨T, A, O, r, w⟩ => by
    have w := run_ite.mp w
    refine ⟨T, A, r.wdA, r.all, PM.mono (fun c h H' s o => ?_) w⟩
    have r1 := r.step s o
    have l := kn_le (K := X.K) (A := A) (E := D) (Fr.step r s o) o
    cases c with
    | true => exact ⟨T, A, O, r1, PM.mono (fun p => l.rt p) h⟩
    | false => exact ⟨T, A, O, r1, PM.mono (fun p => l.rt p) h⟩
/-- a block that never falls through, as VO -/
def OutN (o : Out α) : Prop := match o with | .nx _ => False | _ => True
theorem VO.ifE {E : α → Rh} {x : m (Out α)} {y : m (Out α)} (hc : VP X ρ c t) (h1 : VO X Γ ρ a E x) (hx : ∀ K, PM.run x K → PM.run x fun o => K o ∧ OutN o) (h2 : VO X Γ ρ rest E y) : VO X Γ ρ (.If c a [] pos :: rest) E (t >>= fun c => if c = true then x else y) :=
  imSs (pss_cons (ps_if hc h1 pss_nil) h2) fun D σ H ⟨T, A, O, r, w⟩ => by
    have w := run_ite.mp w
    refine ⟨T, A, r.wdA, r.all, PM.mono (fun c h H' s o => ?_) w⟩
    have r1 := r.step s o
    have l := kn_le (K := X.K) (A := A) (E := D) (Fr.step r s o) o
    cases c with
    | true =>
      refine ⟨T, A, O, r1, PM.mono (fun o q => ?_) (hx _ h)⟩
      obtain ⟨q, n⟩ := q
      have q := Kn.le.out l q
      cases o with
      | nx a => exact n.elim
      | rt v => exact q
      | bk a => exact q
      | ct a => exact q
    | false => exact ⟨T, A, O, r1, mon_O _ _ l h⟩
theorem VO.if2 {E : α → Rh} {x y : m (Out α)} (hc : VP X ρ c t) (h1 : VO X Γ ρ a E x) (hx : ∀ K, PM.run x K → PM.run x fun o => K o ∧ OutN o) (h2 : VO X Γ ρ b E y) (hy : ∀ K, PM.run y K → PM.run y fun o => K o ∧ OutN o) : VO X Γ ρ (.If c a b pos :: rest) E (t >>= fun c => if c = true then x else y) :=
  imSs (pss_cons (ps_if hc h1 h2) (u := tNever) pss_never) fun D σ H ⟨T, A, O, r, w⟩ => by
    have w := run_ite.mp w
    refine ⟨T, A, r.wdA, r.all, PM.mono (fun c h H' s o => ?_) w⟩
    have r1 := r.step s o
    have l := kn_le (K := X.K) (A := A) (E := D) (Fr.step r s o) o
    cases c with
    | true =>
      refine ⟨T, A, O, r1, PM.mono (fun o q => ?_) (hx _ h)⟩
      obtain ⟨q, n⟩ := q
      have q := Kn.le.out l q
      cases o with
      | nx a => exact n.elim
      | rt v => exact q
      | bk a => exact q
      | ct a => exact q
    | false =>
      refine ⟨T, A, O, r1, PM.mono (fun o q => ?_) (hy _ h)⟩
      obtain ⟨q, n⟩ := q
      have q := Kn.le.out l q
      cases o with
      | nx a => exact n.elim
      | rt v => exact q
      | bk a => exact q
      | ct a => exact q
theorem outN_rt {x : m D} (K : Out α → Prop) (h : PM.run (x >>= fun v => pure (Out.rt v)) K) : PM.run (x >>= fun v => pure (Out.rt v : Out α)) fun o => K o ∧ OutN o := by
  rw [PM.run_bind] at h ⊢
  refine PM.mono (fun v h => ?_) h
  rw [PM.run_pure] at h ⊢
  exact ⟨h, trivial⟩
theorem outN_ct {a : α} (K : Out α → Prop) (h : PM.run (pure (Out.ct a) : m (Out α)) K) : PM.run (pure (Out.ct a) : m (Out α)) fun o => K o ∧ OutN o := by
  rw [PM.run_pure] at h ⊢; exact ⟨h, trivial⟩
theorem outN_bk {a : α} (K : Out α → Prop) (h : PM.run (pure (Out.bk a) : m (Out α)) K) : PM.run (pure (Out.bk a) : m (Out α)) fun o => K o ∧ OutN o := by
  rw [PM.run_pure] at h ⊢; exact ⟨h, trivial⟩
theorem outN_bind {x : m β} {f : β → m (Out α)} (hf : ∀ b K, PM.run (f b) K → PM.run (f b) fun o => K o ∧ OutN o) (K : Out α → Prop) (h : PM.run (x >>= f) K) : PM.run (x >>= f) fun o => K o ∧ OutN o := by
  rw [PM.run_bind] at h ⊢
  exact PM.mono (fun b h => hf b _ h) h
/-- a block that falls through, where one that may leave is asked for -/
theorem VO.ofB {E : α → Rh} {x : m α} {st : List Stmt} (h : VB X Γ ρ st E x) : VO X Γ ρ st E (x >>= fun a => pure (.nx a)) := imSs h fun D σ H ⟨T, A, O, r, w⟩ => ⟨T, A, O, r, by
  have w := (PM.run_bind _ _ _).mp w
  exact PM.mono (fun a h => by rw [PM.run_pure] at h; exact h) w⟩
end
end Qv

namespace Qv
open PySem PySem.Spec PyProof.Rows L2
/-! ## loops -/
/-- what a for of a def walks -/
def tIH {m : Type → Type} [PM m] (K : PySem.W.Frag) (Γ : List Kd) (ρ : Rh) (x : m (List D)) : TI := fun σ H R => ∃ T A O, Rl K T A Γ O ρ σ H ∧ PM.run x fun ps => ∀ J H', Step T H H' → T.ok H' → ItOk K T (AT A O) J ps H' → R J H'
section
variable {m : Type → Type} [PM m] {α β : Type} {X : Cx} {Γ Γ' : List Kd} {ρ : Rh} {i : Nat} {body rest : List Stmt} {tg iter a b e : Expr} {es : List Expr} {it : m (List D)} {xs : m (List D)} {pos : Pos}
abbrev VIH (X : Cx) (Γ : List Kd) (ρ : Rh) (tg e : Expr) (x : m (List D)) : Prop := PI X tg e (tIH X.K Γ ρ x)
theorem VIH.hid (h : VI X (hide Γ ρ) tg e it) : VIH X Γ ρ tg e it := imI h fun σ H R ⟨T, A, O, r, q⟩ => ⟨T, AT A O, r.wd, r.hid, q⟩
theorem VIH.range1 {p : Pos} (hm : X.mg "range" = none) (ha : VA X ρ [a] xs) (hg : Gl X "range" := by rfl) (hs : starEach [a] X.env = [(false, eval a X.env)] := by rfl) : VIH X Γ ρ tg (.Call (.Name "range" p) [a] [] pos) (xs >>= fun l => PM.lift (rng1L l)) :=
  imI (pi_range1 hg hm ha.pa hs) fun σ H R ⟨T, A, O, r, q⟩ => by
    rw [PM.run_bind] at q
    refine ⟨T, A, r.wdA, r.all, PM.mono (fun l q vs H1 s1 o1 r1 => ?_) q⟩
    rw [PM.run_lift] at q
    obtain ⟨ps, e1, q⟩ := q
    match l, e1 with
    | [.int n], e1 =>
      obtain ⟨v, rfl, rv⟩ := reps1 r1
      cases rv
      obtain ⟨h, e1⟩ := ifs e1
      subst e1
      simp only [okR, Bool.and_eq_true, decide_eq_true_eq] at h
      exact ⟨n, rfl, h.1, h.2, q _ _ s1 o1 itRng⟩
theorem VIH.range2 {p : Pos} (hm : X.mg "range" = none) (ha : VA X ρ [a, b] xs) (hg : Gl X "range" := by rfl) (hs : starEach [a, b] X.env = [(false, eval a X.env), (false, eval b X.env)] := by rfl) (hs2 : starEach [b] X.env = [(false, eval b X.env)] := by rfl) : VIH X Γ ρ tg (.Call (.Name "range" p) [a, b] [] pos) (xs >>= fun l => PM.lift (rng2L l)) :=
  imI (pi_range2 hg hm ha.pa hs hs2) fun σ H R ⟨T, A, O, r, q⟩ => by
    rw [PM.run_bind] at q
    refine ⟨T, A, r.wdA, r.all, PM.mono (fun l q vs H1 s1 o1 r1 => ?_) q⟩
    rw [PM.run_lift] at q
    obtain ⟨ps, e1, q⟩ := q
    match l, e1 with
    | [.int n, .int k], e1 =>
      obtain ⟨v, u, rfl, rv, ru⟩ := reps2 r1
      cases rv
      cases ru
      obtain ⟨h, e1⟩ := ifs e1
      subst e1
      simp only [okR, Bool.and_eq_true, decide_eq_true_eq] at h
      exact ⟨n, k, rfl, ⟨h.1.1, h.1.2, h.2.1, h.2.2⟩, q _ _ s1 o1 itRng⟩
/-- at turn i -/
structure LI (K : PySem.W.Frag) (T : Tk) (A : Addr → Prop) (Γ : List Kd) (O : Nat → Option Addr) (n : Nat) (σ1 : L2.St) (H1 : Hp) (E : α → Rh) (G : Nat → α → Prop) (i k : Nat) (σ : L2.St) (H : Hp) : Prop where
  hk : k = n - i
  hi : i ≤ n
  dn : ∃ a O', Rl K T A Γ O' (E a) σ H ∧ Fr T Γ O O' σ1 σ H1 H ∧ G i a
/-- what stands, of the walked things -/
theorem li_item {K : PySem.W.Frag} {T : Tk} {A : Addr → Prop} {O O' : Nat → Option Addr} {σ1 σ : L2.St} {H1 H : Hp} {J : It} {ps : List D} {ρ1 ρ2 : Rh} {j : Nat} (r1 : Rl K T A Γ O ρ1 σ1 H1) (hJ : ItOk K T (AT A O) J ps H1) (r : Rl K T A Γ O' ρ2 σ H) (f : Fr T Γ O O' σ1 σ H1 H) :
    (∀ p, ps[j]? = some p → J.go j H ∧ ∀ x H', J.yld j H x H' → (∀ a o, H a = some o → H' a = some o) ∧ T.ok H' ∧ Rep K T (AT A O') H' x p) ∧ (ps.length ≤ j → J.stop j H) := by
  have hI := hJ (fun a => AT A O a ∨ AT A O' a) (fun a q => q.elim .inl fun q => q.elim (fun z => .inl (.inl z)) fun ⟨k, z⟩ => (f.ne k a z).elim (fun ⟨l, y⟩ => .inl (.inr ⟨l, y⟩)) .inr) j H
    ⟨r.wd.ok, fun a q => .inl (.inl (r.sub a q)), fun a q => q.elim (fun q => q.elim (fun z => r.wd.mu a (.inl z)) fun ⟨k, z⟩ => f.mu k a z) fun q => r.wd.mu a q⟩
    (fun a o e n => f.st a o e (fun q => n (.inl (.inl (r.sub a q)))) fun k q => n (.inl (.inr ⟨k, q⟩)))
  refine ⟨fun p e => ?_, hI.2⟩
  obtain ⟨h1, h2⟩ := hI.1 p e
  refine ⟨h1, fun x H' y => ?_⟩
  obtain ⟨k1, k2, k3⟩ := h2 x H' y
  exact ⟨k1, k2, k3.weak fun b => .inr⟩
/-- for t in it: .. -/
theorem SB.for {pt : Pt} {E : α → Rh} {a0 : α} {f : α → D → m α} {g : α → List D → m α} (hi : VIH X Γ ρ tg iter it) (hg : VG X tg pt)
    (hf : ∀ s p K, PM.run (f s p) K → ∃ l, pt.flat p = some l ∧ PM.run (g s l) K) (h0 : Sub (E a0) ρ) (hb : ∀ s l, l.length = pt.slots.length → VB X Γ (rPuts (E s) pt.slots l) body E (g s l)) (hk : ∀ i ∈ pt.slots, kAt Γ i = .sh := by decide)
    (hp : PassesOwn (model X.prog X.w) X.A X.env X.xe := by exact PassesOwn.never) (hc : X.calm = true := by rfl) (hs : ∀ x, foldedSetIterable iter X.env x = pure x := by intro _; rfl) :
    SB X Γ ρ (.For tg iter body [] pos) E (it >>= fun ps => forB f a0 ps) :=
  imS (ps_for hp hc hi hg (PSs.mk (t := fun D σ H => ∃ s l, l.length = pt.slots.length ∧ tS X.K Γ (rPuts (E s) pt.slots l) (WB E (g s l)) D σ H) fun pins s σ H D I ⟨st, l, hl, q⟩ => (hb st l hl).run pins s σ H D I q) hs) fun D σ H ⟨T, A, O, r, w⟩ => by
    have w := (PM.run_bind _ _ _).mp w
    refine ⟨T, A, O, r, PM.mono (fun ps w J H1 s1 o1 hJ => ?_) w⟩
    have r1 := r.step s1 o1
    have f1 := Fr.step (σ := σ) r s1 o1
    refine ⟨LI X.K T A Γ O ps.length σ H1 E fun i a => PM.run (forB f a (ps.drop i)) fun a => (kn X.K T A Γ O σ H D).nx (E a), ⟨ps.length, by simp, Nat.zero_le _, a0, O, r1.less h0, .refl r1, by rw [List.drop_zero]; exact w⟩, fun i k σ2 H2 L => ?_⟩
    obtain ⟨a, O2, r2, f2, w2⟩ := L.dn
    obtain ⟨it1, it2⟩ := li_item (j := i) r1 hJ r2 f2
    by_cases hlt : i < ps.length
    · obtain ⟨p, ep, ed⟩ := drop_get hlt
      obtain ⟨hgo, hy⟩ := it1 p ep
      refine .inr ⟨hgo, fun σ' H' => LI X.K T A Γ O ps.length σ H1 E (fun i a => PM.run (forB f a (ps.drop i)) fun a => (kn X.K T A Γ O σ H D).nx (E a)) (i + 1) (ps.length - (i + 1)) σ' H', fun σ' H' n => ⟨_, by have := L.hk; omega, n⟩, fun x H3 y => ?_⟩
      obtain ⟨keep3, ok3, rp3⟩ := hy x H3 y
      have s23 : Step T H2 H3 := fun a o e _ => keep3 a o e
      have r3 := r2.step s23 ok3
      have f3 := f2.trans (Fr.step (σ := σ2) r2 s23 ok3) r2.wd.ok ok3
      rw [ed] at w2
      have w2 := (PM.run_bind _ _ _).mp (show PM.run (f a p >>= fun s' => forB f s' (ps.drop (i + 1))) _ from w2)
      obtain ⟨l, el, w2⟩ := hf a p _ w2
      refine ⟨T, AT A O2, p, l, r3.wd, rp3, el, fun us hus => ⟨a, l, flat_len _ _ _ el, T, A, O2, r3.puts hus hk, PM.mono (fun a' w' σ4 H4 O4 r4 f4 => ⟨rfl, hlt, a', O4, r4, f3.trans ((Fr.puts r3 hk).trans f4 ok3 r4.wd.ok) ok3 r4.wd.ok, w'⟩) w2⟩⟩
    · have e0 : i = ps.length := Nat.le_antisymm L.hi (Nat.le_of_not_lt hlt)
      refine .inl ⟨it2 (Nat.le_of_not_lt hlt), ?_⟩
      rw [e0, List.drop_length] at w2
      have w2 := (PM.run_pure _ _).mp w2
      exact w2 _ _ _ r2 (f1.trans f2 o1 r2.wd.ok)
theorem SO.for {pt : Pt} {E : α → Rh} {a0 : α} {f : α → D → m (Out α)} {g : α → List D → m (Out α)} (hi : VIH X Γ ρ tg iter it) (hg : VG X tg pt)
    (hf : ∀ s p K, PM.run (f s p) K → ∃ l, pt.flat p = some l ∧ PM.run (g s l) K) (h0 : Sub (E a0) ρ) (hb : ∀ s l, l.length = pt.slots.length → VO X Γ (rPuts (E s) pt.slots l) body E (g s l)) (hk : ∀ i ∈ pt.slots, kAt Γ i = .sh := by decide)
    (hp : PassesOwn (model X.prog X.w) X.A X.env X.xe := by exact PassesOwn.never) (hc : X.calm = true := by rfl) (hs : ∀ x, foldedSetIterable iter X.env x = pure x := by intro _; rfl) :
    SO X Γ ρ (.For tg iter body [] pos) E (it >>= fun ps => forO f a0 ps) :=
  imS (ps_for hp hc hi hg (PSs.mk (t := fun D σ H => ∃ s l, l.length = pt.slots.length ∧ tS X.K Γ (rPuts (E s) pt.slots l) (WO E (g s l)) D σ H) fun pins s σ H D I ⟨st, l, hl, q⟩ => (hb st l hl).run pins s σ H D I q) hs) fun D σ H ⟨T, A, O, r, w⟩ => by
    have w := (PM.run_bind _ _ _).mp w
    refine ⟨T, A, O, r, PM.mono (fun ps w J H1 s1 o1 hJ => ?_) w⟩
    have r1 := r.step s1 o1
    have f1 := Fr.step (σ := σ) r s1 o1
    refine ⟨LI X.K T A Γ O ps.length σ H1 E fun i a => PM.run (forO f a (ps.drop i)) ((kn X.K T A Γ O σ H D).out E), ⟨ps.length, by simp, Nat.zero_le _, a0, O, r1.less h0, .refl r1, by rw [List.drop_zero]; exact w⟩, fun i k σ2 H2 L => ?_⟩
    obtain ⟨a, O2, r2, f2, w2⟩ := L.dn
    obtain ⟨it1, it2⟩ := li_item (j := i) r1 hJ r2 f2
    by_cases hlt : i < ps.length
    · obtain ⟨p, ep, ed⟩ := drop_get hlt
      obtain ⟨hgo, hy⟩ := it1 p ep
      refine .inr ⟨hgo, fun σ' H' => LI X.K T A Γ O ps.length σ H1 E (fun i a => PM.run (forO f a (ps.drop i)) ((kn X.K T A Γ O σ H D).out E)) (i + 1) (ps.length - (i + 1)) σ' H', fun σ' H' n => ⟨_, by have := L.hk; omega, n⟩, fun x H3 y => ?_⟩
      obtain ⟨keep3, ok3, rp3⟩ := hy x H3 y
      have s23 : Step T H2 H3 := fun a o e _ => keep3 a o e
      have r3 := r2.step s23 ok3
      have f3 := f2.trans (Fr.step (σ := σ2) r2 s23 ok3) r2.wd.ok ok3
      rw [ed] at w2
      have w2 := (PM.run_bind _ _ _).mp (show PM.run (f a p >>= fun o => match o with
        | .nx s' => forO f s' (ps.drop (i + 1))
        | .ct s' => forO f s' (ps.drop (i + 1))
        | .bk s' => pure (.nx s')
        | .rt v => pure (.rt v)) _ from w2)
      obtain ⟨l, el, w2⟩ := hf a p _ w2
      refine ⟨T, AT A O2, p, l, r3.wd, rp3, el, fun us hus => ⟨a, l, flat_len _ _ _ el, T, A, O2, r3.puts hus hk, PM.mono (fun o w' => ?_) w2⟩⟩
      have fa := f3.trans (Fr.puts r3 (us := us) hk) ok3 ok3
      have fb := f1.trans fa o1 ok3
      cases o with
      | nx a' => exact fun σ4 H4 O4 r4 f4 => ⟨rfl, hlt, a', O4, r4, fa.trans f4 ok3 r4.wd.ok, w'⟩
      | ct a' => exact fun σ4 H4 O4 r4 f4 => ⟨rfl, hlt, a', O4, r4, fa.trans f4 ok3 r4.wd.ok, w'⟩
      | bk a' =>
        have w' := (PM.run_pure _ _).mp w'
        exact fun σ4 H4 O4 r4 f4 => w' _ _ _ r4 (fb.trans f4 ok3 r4.wd.ok)
      | rt v =>
        have w' := (PM.run_pure _ _).mp w'
        exact (kn_le (K := X.K) (A := A) (E := D) fb ok3).rt v w'
    · have e0 : i = ps.length := Nat.le_antisymm L.hi (Nat.le_of_not_lt hlt)
      refine .inl ⟨it2 (Nat.le_of_not_lt hlt), ?_⟩
      rw [e0, List.drop_length] at w2
      have w2 := (PM.run_pure _ _).mp w2
      exact w2 _ _ _ r2 (f1.trans f2 o1 r2.wd.ok)
/-- the turn's two readings -/
theorem turn1 {γ : Type} {i : Nat} {f : α → D → m γ} (s : α) (p : D) (K : γ → Prop) (h : PM.run (f s p) K) : ∃ l, (Pt.n i).flat p = some l ∧ PM.run (un1 (f s) l) K := ⟨[p], rfl, h⟩
theorem turnP {γ : Type} {pt : Pt} {g : α → List D → m γ} (s : α) (p : D) (K : γ → Prop) (h : PM.run (PM.lift (pt.flat p) >>= g s) K) : ∃ l, pt.flat p = some l ∧ PM.run (g s l) K := by
  rw [PM.run_bind, PM.run_lift] at h
  exact h
theorem len1 {P : List D → Prop} (h : ∀ a, P [a]) : ∀ l, l.length = 1 → P l := fun l e => match l, e with | [a], _ => h a
theorem len2 {P : List D → Prop} (h : ∀ a b, P [a, b]) : ∀ l, l.length = 2 → P l := fun l e => match l, e with | [a, b], _ => h a b
theorem len3 {P : List D → Prop} (h : ∀ a b c, P [a, b, c]) : ∀ l, l.length = 3 → P l := fun l e => match l, e with | [a, b, c], _ => h a b c
theorem len4 {P : List D → Prop} (h : ∀ a b c d, P [a, b, c, d]) : ∀ l, l.length = 4 → P l := fun l e => match l, e with | [a, b, c, d], _ => h a b c d
theorem len5 {P : List D → Prop} (h : ∀ a b c d e, P [a, b, c, d, e]) : ∀ l, l.length = 5 → P l := fun l e => match l, e with | [a, b, c, d, e], _ => h a b c d e
theorem len6 {P : List D → Prop} (h : ∀ a b c d e f, P [a, b, c, d, e, f]) : ∀ l, l.length = 6 → P l := fun l e => match l, e with | [a, b, c, d, e, f], _ => h a b c d e f
/-! ### while -/
def WhI (K : PySem.W.Frag) (T : Tk) (A : Addr → Prop) (Γ : List Kd) (O : Nat → Option Addr) (σ1 : L2.St) (H1 : Hp) (E : α → Rh) (G : Nat → α → Prop) (k : Nat) (σ : L2.St) (H : Hp) : Prop := ∃ a O', Rl K T A Γ O' (E a) σ H ∧ Fr T Γ O O' σ1 σ H1 H ∧ G k a
theorem SB.wh {c : Expr} {E : α → Rh} {a0 : α} {ct : α → m Bool} {f : α → m α} {fu : Nat} (hc : ∀ a, VP X (E a) c (ct a)) (hb : ∀ a, VB X Γ (E a) body E (f a)) (h0 : Sub (E a0) ρ) (hp : PassesOwn (model X.prog X.w) X.A X.env X.xe := by exact PassesOwn.never) :
    SB X Γ ρ (.While c body [] pos) E (whB ct f fu a0) :=
  imS (ps_while hp (PT.mk (t := fun σ H Q => ∃ a, tP X.K (E a) (ct a) σ H Q) fun pins s σ H Q I ⟨a, q⟩ => (hc a).run pins s σ H Q I q) (PSs.mk (t := fun D σ H => ∃ a, tS X.K Γ (E a) (WB E (f a)) D σ H) fun pins s σ H D I ⟨a, q⟩ => (hb a).run pins s σ H D I q)) fun D σ H ⟨T, A, O, r, w⟩ => by
    refine ⟨WhI X.K T A Γ O σ H E fun n a => PM.run (whB ct f n a) fun a => (kn X.K T A Γ O σ H D).nx (E a), ⟨fu, a0, O, r.less h0, .refl r, w⟩, fun n σ2 H2 ⟨a, O2, r2, f2, w2⟩ => ?_⟩
    cases n with
    | zero => obtain ⟨_, e, _⟩ := (PM.run_lift _ _).mp w2; cases e
    | succ n =>
      have w2 := run_ite.mp (show PM.run (ct a >>= fun b => if b = true then f a >>= whB ct f n else pure a) _ from w2)
      refine ⟨a, T, A, r2.wdA, r2.all, PM.mono (fun b w3 H3 s3 o3 => ?_) w2⟩
      have r3 := r2.step s3 o3
      have f3 := f2.trans (Fr.step (σ := σ2) r2 s3 o3) r2.wd.ok o3
      cases b with
      | true =>
        dsimp only
        rw [if_pos rfl] at w3 ⊢
        have w3 := (PM.run_bind _ _ _).mp w3
        exact ⟨WhI X.K T A Γ O σ H E (fun n a => PM.run (whB ct f n a) fun a => (kn X.K T A Γ O σ H D).nx (E a)) n, fun σ' H' q => ⟨n, Nat.lt_succ_self n, q⟩, a, T, A, O2, r3, PM.mono (fun a' w' σ4 H4 O4 r4 f4 => ⟨a', O4, r4, f3.trans f4 o3 r4.wd.ok, w'⟩) w3⟩
      | false =>
        dsimp only
        rw [if_neg Bool.false_ne_true] at w3 ⊢
        have w3 := (PM.run_pure _ _).mp w3
        exact w3 _ _ _ r3 f3
theorem SO.wh {c : Expr} {E : α → Rh} {a0 : α} {ct : α → m Bool} {f : α → m (Out α)} {fu : Nat} (hc : ∀ a, VP X (E a) c (ct a)) (hb : ∀ a, VO X Γ (E a) body E (f a)) (h0 : Sub (E a0) ρ) (hp : PassesOwn (model X.prog X.w) X.A X.env X.xe := by exact PassesOwn.never) :
    SO X Γ ρ (.While c body [] pos) E (whO ct f fu a0) :=
  imS (ps_while hp (PT.mk (t := fun σ H Q => ∃ a, tP X.K (E a) (ct a) σ H Q) fun pins s σ H Q I ⟨a, q⟩ => (hc a).run pins s σ H Q I q) (PSs.mk (t := fun D σ H => ∃ a, tS X.K Γ (E a) (WO E (f a)) D σ H) fun pins s σ H D I ⟨a, q⟩ => (hb a).run pins s σ H D I q)) fun D σ H ⟨T, A, O, r, w⟩ => by
    refine ⟨WhI X.K T A Γ O σ H E fun n a => PM.run (whO ct f n a) ((kn X.K T A Γ O σ H D).out E), ⟨fu, a0, O, r.less h0, .refl r, w⟩, fun n σ2 H2 ⟨a, O2, r2, f2, w2⟩ => ?_⟩
    cases n with
    | zero => obtain ⟨_, e, _⟩ := (PM.run_lift _ _).mp w2; cases e
    | succ n =>
      have w2 := run_ite.mp (show PM.run (ct a >>= fun b => if b = true then f a >>= fun o => (match o with
        | .nx s' => whO ct f n s'
        | .ct s' => whO ct f n s'
        | .bk s' => pure (.nx s')
        | .rt v => pure (.rt v)) else pure (.nx a)) _ from w2)
      refine ⟨a, T, A, r2.wdA, r2.all, PM.mono (fun b w3 H3 s3 o3 => ?_) w2⟩
      have r3 := r2.step s3 o3
      have f3 := f2.trans (Fr.step (σ := σ2) r2 s3 o3) r2.wd.ok o3
      cases b with
      | true =>
        dsimp only
        rw [if_pos rfl] at w3 ⊢
        have w3 := (PM.run_bind _ _ _).mp w3
        refine ⟨WhI X.K T A Γ O σ H E (fun n a => PM.run (whO ct f n a) ((kn X.K T A Γ O σ H D).out E)) n, fun σ' H' q => ⟨n, Nat.lt_succ_self n, q⟩, a, T, A, O2, r3, PM.mono (fun o w' => ?_) w3⟩
        cases o with
        | nx a' => exact fun σ4 H4 O4 r4 f4 => ⟨a', O4, r4, f3.trans f4 o3 r4.wd.ok, w'⟩
        | ct a' => exact fun σ4 H4 O4 r4 f4 => ⟨a', O4, r4, f3.trans f4 o3 r4.wd.ok, w'⟩
        | bk a' =>
          have w' := (PM.run_pure _ _).mp w'
          exact fun σ4 H4 O4 r4 f4 => w' _ _ _ r4 (f3.trans f4 o3 r4.wd.ok)
        | rt v =>
          have w' := (PM.run_pure _ _).mp w'
          exact (kn_le (K := X.K) (A := A) (E := D) f3 o3).rt v w'
      | false =>
        dsimp only
        rw [if_neg Bool.false_ne_true] at w3 ⊢
        have w3 := (PM.run_pure _ _).mp w3
        exact w3 _ _ _ r3 f3
end
end Qv

namespace Qv
open PySem PySem.Spec PyProof.Rows L2
/-! ## a def, by its body -/
def startR (N : List Str) (ds : List D) : Rh := ds.map some ++ List.replicate (N.length - ds.length) none
theorem rAt_get : ∀ (ρ : Rh) (i : Nat) (p : D), rAt ρ i = some p → ρ[i]? = some (some p)
  | [], i, p, h => by cases h
  | x :: ρ, 0, p, h => by
    have h : x = some p := h
    rw [h]; rfl
  | x :: ρ, i + 1, p, h => rAt_get ρ i p h
theorem at_startR {N : List Str} {ds : List D} {i : Nat} {p : D} (h : rAt (startR N ds) i = some p) : ds[i]? = some p := by
  have h := rAt_get _ _ _ h
  unfold startR at h
  by_cases hi : i < ds.length
  · rw [List.getElem?_append_left (by simpa using hi), List.getElem?_map] at h
    cases e : ds[i]? with
    | none => rw [e] at h; cases h
    | some q => rw [e] at h; cases h; rfl
  · rw [List.getElem?_append_right (by simpa using hi), List.getElem?_replicate] at h
    split at h <;> cases h
section
variable {K : PySem.W.Frag} {T : Tk} {A : Addr → Prop} {H : Hp}
theorem start_at {N : List Str} {vs : List V} {i : Nat} {v : V} (h : vs[i]? = some v) : (L2.start N vs)[i]? = some (some v) := by
  unfold L2.start
  have hi : i < vs.length := (List.getElem?_eq_some_iff.mp h).1
  rw [List.getElem?_append_left (by simpa using hi), List.getElem?_map, h]
  rfl
theorem Rl.start0 {Γ : List Kd} {N : List Str} {vs : List V} {ds : List D} (w : Wd T A H) (r : Reps K T A H vs ds) (hΓ : ∀ i, i < ds.length → kAt Γ i ≠ .ow) : Rl K T A Γ (fun _ => none) (startR N ds) (L2.start N vs) H := by
  have hA : ∀ a, AT A (fun _ => none) a → A a := fun a q => q.elim id fun ⟨_, e⟩ => by cases e
  refine ⟨?_, ⟨w.ok, fun a h => .inl (w.sub a h), fun a h => w.mu a (hA a h)⟩, w.sub, fun i p h k => ?_, fun i p h k => ?_, fun i j a h => (nomatch h), fun i a h => (nomatch h)⟩
  · unfold startR L2.start
    simp [r.length]
  · obtain ⟨v, h1, h2⟩ := r.get (at_startR h)
    exact ⟨v, start_at h1, h2.weak hA⟩
  · have hi := (List.getElem?_eq_some_iff.mp (at_startR h)).1
    exact absurd k (hΓ i hi)
end
section
variable {m : Type → Type} [PM m] {P : Program} {w : World} {K : PySem.W.Frag} {mg : Str → Option Value} {base : Heap}
abbrev XF (P : Program) (w : World) (K : PySem.W.Frag) (mg : Str → Option Value) (base : Heap) (N : List Str) (x : Str) (sc : Scope) (f : Addr) (cdv : Value) (A : Around) (outer : List Env) (s : Shared) (H : Hp) (E : XK) : Cx := (cxOf CX0 P w K mg base N x sc f cdv A outer s H E).nox
theorem FC.mk' {x : Str} {st : Stmt} {f : Addr} {fd : FuncData} {N ps : List Str} {k : Nat} {C : List D → m D} (Γ : List Kd) (F : Fun K x x st f fd) (S : FnScope N ps (defScope st)) (hmg : mg x = some (.ref f))
    (hb : ∀ (kV doc pm : Value) (an : Option Addr) (cdv ct : Value) (us : List Value), us.length = ps.length → bindArgs (PySem.W.fnOf x x (defArgs st) (defBody st) (defScope st) .none kV doc pm an cdv ct) ⟨us, []⟩ = pure (ps.zip us))
    (hC : ∀ (ds : List D) (Kp : D → Prop), PM.run (C ds) Kp → ds.length = ps.length)
    (body : ∀ (cdv : Value) (A : Around) (outer : List Env) (s : Shared) (H : Hp) (E : XK), Room k (A.deeper (envOfC x (defScope st) s.heap.objs.size f cdv)) → ∀ ds : List D, ds.length = ps.length → VT (XF P w K mg base N x (defScope st) f cdv A outer s H E) Γ (startR N ds) (defBody st) (C ds))
    (hΓ : ∀ i, i < ps.length → kAt Γ i ≠ .ow := by decide) : FC P w K mg base (k + 1) x C := by
  refine ⟨f, fd, ps, F.ok S (fun vs H Q E h => ?_) (fun cdv A outer s H vs Q E hr h => ?_), hmg, F.kp, F.binds hb⟩
  · obtain ⟨T, A, ds, w0, r, h⟩ := h
    rw [r.length]; exact hC ds _ h
  · obtain ⟨T, A', ds, w0, r, h⟩ := h
    have hl := hC ds _ h
    exact ⟨_, body cdv A outer s H E hr ds hl, T, A', fun _ => none, Rl.start0 w0 r (by rw [hl]; exact hΓ), PM.mono (fun p h v H' s o r => h v H' ⟨fun a ob e n => s a ob e n (by intro i z; cases z), o, r⟩) h⟩
/-- nothing is promised -/
theorem FC.zero {x : Str} {st : Stmt} {f : Addr} {fd : FuncData} {N ps : List Str} {k : Nat} (F : Fun K x x st f fd) (S : FnScope N ps (defScope st)) (hmg : mg x = some (.ref f))
    (hb : ∀ (kV doc pm : Value) (an : Option Addr) (cdv ct : Value) (us : List Value), us.length = ps.length → bindArgs (PySem.W.fnOf x x (defArgs st) (defBody st) (defScope st) .none kV doc pm an cdv ct) ⟨us, []⟩ = pure (ps.zip us)) : FC (m := Option) P w K mg base (k + 1) x fun _ => none :=
  ⟨f, fd, ps, F.ok S (fun vs H Q E h => by obtain ⟨T, A, ds, w0, r, _, e, _⟩ := h; cases e) (fun cdv A outer s H vs Q E hr h => by obtain ⟨T, A, ds, w0, r, _, e, _⟩ := h; cases e), hmg, F.kp, F.binds hb⟩
theorem un1_len {f : D → m D} (ds : List D) (Kp : D → Prop) (h : PM.run (un1 f ds) Kp) : ds.length = 1 := by
  match ds, h with
  | [_], _ => rfl
  | [], h => obtain ⟨_, e, _⟩ := (PM.run_lift _ _).mp h; cases e
  | _ :: _ :: _, h => obtain ⟨_, e, _⟩ := (PM.run_lift _ _).mp h; cases e
theorem un2_len {f : D → D → m D} (ds : List D) (Kp : D → Prop) (h : PM.run (un2 f ds) Kp) : ds.length = 2 := by
  match ds, h with
  | [_, _], _ => rfl
  | [], h => obtain ⟨_, e, _⟩ := (PM.run_lift _ _).mp h; cases e
  | [_], h => obtain ⟨_, e, _⟩ := (PM.run_lift _ _).mp h; cases e
  | _ :: _ :: _ :: _, h => obtain ⟨_, e, _⟩ := (PM.run_lift _ _).mp h; cases e
theorem un3_len {f : D → D → D → m D} (ds : List D) (Kp : D → Prop) (h : PM.run (un3 f ds) Kp) : ds.length = 3 := by
  match ds, h with
  | [_, _, _], _ => rfl
  | [], h => obtain ⟨_, e, _⟩ := (PM.run_lift _ _).mp h; cases e
  | [_], h => obtain ⟨_, e, _⟩ := (PM.run_lift _ _).mp h; cases e
  | [_, _], h => obtain ⟨_, e, _⟩ := (PM.run_lift _ _).mp h; cases e
  | _ :: _ :: _ :: _ :: _, h => obtain ⟨_, e, _⟩ := (PM.run_lift _ _).mp h; cases e
theorem un4_len {f : D → D → D → D → m D} (ds : List D) (Kp : D → Prop) (h : PM.run (un4 f ds) Kp) : ds.length = 4 := by
  match ds, h with
  | [_, _, _, _], _ => rfl
  | [], h => obtain ⟨_, e, _⟩ := (PM.run_lift _ _).mp h; cases e
  | [_], h => obtain ⟨_, e, _⟩ := (PM.run_lift _ _).mp h; cases e
  | [_, _], h => obtain ⟨_, e, _⟩ := (PM.run_lift _ _).mp h; cases e
  | [_, _, _], h => obtain ⟨_, e, _⟩ := (PM.run_lift _ _).mp h; cases e
  | _ :: _ :: _ :: _ :: _ :: _, h => obtain ⟨_, e, _⟩ := (PM.run_lift _ _).mp h; cases e
theorem un5_len {f : D → D → D → D → D → m D} (ds : List D) (Kp : D → Prop) (h : PM.run (un5 f ds) Kp) : ds.length = 5 := by
  match ds, h with
  | [_, _, _, _, _], _ => rfl
  | [], h => obtain ⟨_, e, _⟩ := (PM.run_lift _ _).mp h; cases e
  | [_], h => obtain ⟨_, e, _⟩ := (PM.run_lift _ _).mp h; cases e
  | [_, _], h => obtain ⟨_, e, _⟩ := (PM.run_lift _ _).mp h; cases e
  | [_, _, _], h => obtain ⟨_, e, _⟩ := (PM.run_lift _ _).mp h; cases e
  | [_, _, _, _], h => obtain ⟨_, e, _⟩ := (PM.run_lift _ _).mp h; cases e
  | _ :: _ :: _ :: _ :: _ :: _ :: _, h => obtain ⟨_, e, _⟩ := (PM.run_lift _ _).mp h; cases e
/-- no parameters -/
def un0 (f : m D) : List D → m D | [] => f | _ => fail
theorem un0_len {f : m D} (ds : List D) (Kp : D → Prop) (h : PM.run (un0 f ds) Kp) : ds.length = 0 := by
  match ds, h with
  | [], _ => rfl
  | _ :: _, h => obtain ⟨_, e, _⟩ := (PM.run_lift _ _).mp h; cases e
theorem len0 {P : List D → Prop} (h : P []) : ∀ l, l.length = 0 → P l := fun l e => match l, e with | [], _ => h
end
end Qv

namespace Qv
open PySem PySem.Spec PyProof.Rows L2
/-! ## the same rules where parts are values already -/
section
variable {m : Type → Type} [PM m] {X : Cx} {Γ : List Kd} {ρ : Rh} {a b c e tg : Expr} {es : List Expr} {xa xb x : m D} {xs : m (List D)} {pos : Pos} {p q : D} {ds : List D} {α β : Type}
theorem VE.eqv {y : m D} (h : VE X ρ e x) (i : ∀ K, PM.run y K → PM.run x K) : VE X ρ e y := imE h fun σ H Q ⟨T, A, w, ev, q⟩ => ⟨T, A, w, ev, i _ q⟩
theorem VP.eqv {x y : m Bool} (h : VP X ρ e x) (i : ∀ K, PM.run y K → PM.run x K) : VP X ρ e y := imT h fun σ H Q ⟨T, A, w, ev, q⟩ => ⟨T, A, w, ev, i _ q⟩
theorem VH.eqv {y : m D} (h : VH X Γ ρ e x) (i : ∀ K, PM.run y K → PM.run x K) : VH X Γ ρ e y := imE h fun σ H Q ⟨T, A, O, w, q⟩ => ⟨T, A, O, w, i _ q⟩
theorem VN.eqv {y : m D} (h : VN X ρ e x) (i : ∀ K, PM.run y K → PM.run x K) : VN X ρ e y := imE h fun σ H Q ⟨T, A, w, ev, q⟩ => ⟨T, A, w, ev, i _ q⟩
theorem VI.eqv {x y : m (List D)} (h : VI X ρ tg e x) (i : ∀ K, PM.run y K → PM.run x K) : VI X ρ tg e y := imI h fun σ H Q ⟨T, A, w, ev, q⟩ => ⟨T, A, w, ev, i _ q⟩
theorem VIH.eqv {x y : m (List D)} (h : VIH X Γ ρ tg e x) (i : ∀ K, PM.run y K → PM.run x K) : VIH X Γ ρ tg e y := imI h fun σ H Q ⟨T, A, O, w, q⟩ => ⟨T, A, O, w, i _ q⟩
theorem rp {f : α → m β} {v : α} (K : β → Prop) (h : PM.run (f v) K) : PM.run (pure v >>= f) K := (PM.run_bind _ _ _).mpr ((PM.run_pure _ _).mpr h)
theorem rb {γ : Type} {y : m γ} {f g : γ → m β} (h : ∀ v K, PM.run (f v) K → PM.run (g v) K) (K : β → Prop) (q : PM.run (y >>= f) K) : PM.run (y >>= g) K := (PM.run_bind _ _ _).mpr (PM.mono (fun v => h v K) ((PM.run_bind _ _ _).mp q))
section
variable {op : Operator} {r : R2} {f : D → D → Option D}
theorem VE.op_pp (ho : OpR X (binaryOp op) r) (hr : OkR X.K f r) (ha : VE (m := m) X ρ a (pure p)) (hb : VE (m := m) X ρ b (pure q)) : VE (m := m) X ρ (.BinOp a op b pos) (PM.lift (f p q)) := VE.eqv (VE.op ho hr ha hb) fun K h => rp K (rp K h)
theorem VE.op_px (ho : OpR X (binaryOp op) r) (hr : OkR X.K f r) (ha : VE (m := m) X ρ a (pure p)) (hb : VE X ρ b xb) : VE X ρ (.BinOp a op b pos) (xb >>= fun q => PM.lift (f p q)) := VE.eqv (VE.op ho hr ha hb) fun K h => rp K h
theorem VE.op_xp (ho : OpR X (binaryOp op) r) (hr : OkR X.K f r) (ha : VE X ρ a xa) (hb : VE (m := m) X ρ b (pure q)) : VE X ρ (.BinOp a op b pos) (xa >>= fun p => PM.lift (f p q)) := VE.eqv (VE.op ho hr ha hb) (rb fun v K h => rp K h)
end
section
variable {op : CmpOp} {r : R2} {f : D → D → Option D}
theorem VE.cmp_pp (ho : OpR X (compareOp op) r) (hr : OkR X.K f r) (ha : VE (m := m) X ρ a (pure p)) (hb : VE (m := m) X ρ b (pure q)) (hm : behindInMarks op b = false) : VE (m := m) X ρ (.Compare a [op] [b] pos) (PM.lift (f p q)) := VE.eqv (VE.cmp ho hr ha hb hm) fun K h => rp K (rp K h)
theorem VE.cmp_px (ho : OpR X (compareOp op) r) (hr : OkR X.K f r) (ha : VE (m := m) X ρ a (pure p)) (hb : VE X ρ b xb) (hm : behindInMarks op b = false) : VE X ρ (.Compare a [op] [b] pos) (xb >>= fun q => PM.lift (f p q)) := VE.eqv (VE.cmp ho hr ha hb hm) fun K h => rp K h
theorem VE.cmp_xp (ho : OpR X (compareOp op) r) (hr : OkR X.K f r) (ha : VE X ρ a xa) (hb : VE (m := m) X ρ b (pure q)) (hm : behindInMarks op b = false) : VE X ρ (.Compare a [op] [b] pos) (xa >>= fun p => PM.lift (f p q)) := VE.eqv (VE.cmp ho hr ha hb hm) (rb fun v K h => rp K h)
theorem VP.cmp_pp (ho : OpR X (compareOp op) r) (hr : OkR X.K f r) (ha : VE (m := m) X ρ a (pure p)) (hb : VE (m := m) X ρ b (pure q)) (hm : behindInMarks op b = false) : VP (m := m) X ρ (.Compare a [op] [b] pos) (PM.lift ((f p q).bind dBool)) := VP.eqv (VP.cmp ho hr ha hb hm) fun K h => rp K (rp K h)
theorem VP.cmp_px (ho : OpR X (compareOp op) r) (hr : OkR X.K f r) (ha : VE (m := m) X ρ a (pure p)) (hb : VE X ρ b xb) (hm : behindInMarks op b = false) : VP X ρ (.Compare a [op] [b] pos) (xb >>= fun q => PM.lift ((f p q).bind dBool)) := VP.eqv (VP.cmp ho hr ha hb hm) fun K h => rp K h
theorem VP.cmp_xp (ho : OpR X (compareOp op) r) (hr : OkR X.K f r) (ha : VE X ρ a xa) (hb : VE (m := m) X ρ b (pure q)) (hm : behindInMarks op b = false) : VP X ρ (.Compare a [op] [b] pos) (xa >>= fun p => PM.lift ((f p q).bind dBool)) := VP.eqv (VP.cmp ho hr ha hb hm) (rb fun v K h => rp K h)
end
theorem VE.ix_pp (ha : VE (m := m) X ρ a (pure p)) (hb : VE (m := m) X ρ b (pure q)) (hs : PlainIx b := by exact fun _ _ => rfl) : VE (m := m) X ρ (.Subscript a b pos) (PM.lift (dIx p q)) := VE.eqv (VE.ix ha hb hs) fun K h => rp K (rp K h)
theorem VE.ix_px (ha : VE (m := m) X ρ a (pure p)) (hb : VE X ρ b xb) (hs : PlainIx b := by exact fun _ _ => rfl) : VE X ρ (.Subscript a b pos) (xb >>= fun q => PM.lift (dIx p q)) := VE.eqv (VE.ix ha hb hs) fun K h => rp K h
theorem VE.ix_xp (ha : VE X ρ a xa) (hb : VE (m := m) X ρ b (pure q)) (hs : PlainIx b := by exact fun _ _ => rfl) : VE X ρ (.Subscript a b pos) (xa >>= fun p => PM.lift (dIx p q)) := VE.eqv (VE.ix ha hb hs) (rb fun v K h => rp K h)
theorem VE.un_p {op : UnaryOp} {r : V → Hp → VK → Prop} {f : D → Option D} (ho : UnR X (unaryOp op) r) (hr : OkU X.K f r) (ha : VE (m := m) X ρ a (pure p)) : VE (m := m) X ρ (.UnaryOp op a pos) (PM.lift (f p)) := VE.eqv (VE.un ho hr ha) fun K h => rp K h
theorem VP.val_p (h : VE (m := m) X ρ e (pure p)) (he : ∀ whole, isTrue e X.env whole = (do let v ← whole; standAt e.pos; holding [v] (truthy v)) := by intro _; rfl) : VP (m := m) X ρ e (PM.lift (dBool p)) := VP.eqv (VP.val h he) fun K h => rp K h
theorem VP.tru_p (h : VE (m := m) X ρ e (pure p)) (he : ∀ whole, isTrue e X.env whole = (do let v ← whole; standAt e.pos; holding [v] (truthy v)) := by intro _; rfl) : VP (m := m) X ρ e (PM.lift (dTruth p)) := VP.eqv (VP.tru h he) fun K h => rp K h
theorem VP.w {x : m Bool} (h : VW X ρ e x) : VP X ρ e x := h.pt
/-! arguments -/
theorem VA.eqv {x y : m (List D)} (h : VA X ρ es x) (i : ∀ K, PM.run y K → PM.run x K) (j : ∀ K, PM.run x K → PM.run y K) : VA X ρ es y := ⟨imA h.pa fun σ H Q ⟨T, A, w, ev, q⟩ => ⟨T, A, w, ev, i _ q⟩, fun K q => j _ (h.ln K (i K q))⟩
theorem rp' {f : α → m β} {v : α} (K : β → Prop) (h : PM.run (pure v >>= f) K) : PM.run (f v) K := by
  rw [PM.run_bind, PM.run_pure] at h
  exact h
theorem VA.cons_px (ha : VE (m := m) X ρ e (pure p)) (hr : VA X ρ es xs) (hs : starEach (e :: es) X.env = (false, eval e X.env) :: starEach es X.env := by rfl) : VA X ρ (e :: es) (xs >>= fun l => pure (p :: l)) := VA.eqv (VA.cons ha hr hs) (fun K h => rp K h) fun K h => rp' (v := p) (f := fun a => xs >>= fun l => pure (a :: l)) K h
theorem VA.cons_xp (ha : VE X ρ e xa) (hr : VA (m := m) X ρ es (pure ds)) (hs : starEach (e :: es) X.env = (false, eval e X.env) :: starEach es X.env := by rfl) : VA X ρ (e :: es) (xa >>= fun p => pure (p :: ds)) := VA.eqv (VA.cons ha hr hs) (rb fun v K h => rp K h) (rb fun v K h => rp' (v := ds) (f := fun l => pure (v :: l)) K h)
/-! calls -/
section
variable {x : Str} {pn : Pos}
theorem VE.bi_p {id : String} {r : List V → Hp → VK → Prop} {f : List D → Option D} (hc : CallR X (.builtin id) r) (hk : OkC X.K f r) (hm : X.mg x = none) (hv : bootBuiltins x = some (.builtin id)) (ha : VA (m := m) X ρ (e :: es) (pure ds)) (hg : Gl X x := by rfl) (hn : x ≠ "__name__" := by decide) (hdb : (x == ("__debug__" : Str)) = false := by decide)
    (he : starEach (e :: es) X.env = (false, eval e X.env) :: starEach es X.env := by rfl) (hpl : (backTo pos (starEach es X.env)).any (·.1) = false := by rfl) : VE (m := m) X ρ (.Call (.Name x pn) (e :: es) [] pos) (PM.lift (f ds)) := VE.eqv (VE.bi hc hk hm hv ha hg hn hdb he hpl) fun K h => rp K h
theorem VE.ty_p {id : String} {r : List V → Hp → VK → Prop} {f : List D → Option D} (hc : CallR X (.type id) r) (hk : OkC X.K f r) (hm : X.mg x = none) (hv : bootBuiltins x = some (.type id)) (ha : VA (m := m) X ρ (e :: es) (pure ds)) (hg : Gl X x := by rfl) (hn : x ≠ "__name__" := by decide) (hdb : (x == ("__debug__" : Str)) = false := by decide)
    (he : starEach (e :: es) X.env = (false, eval e X.env) :: starEach es X.env := by rfl) (hpl : (backTo pos (starEach es X.env)).any (·.1) = false := by rfl) : VE (m := m) X ρ (.Call (.Name x pn) (e :: es) [] pos) (PM.lift (f ds)) := VE.eqv (VE.ty hc hk hm hv ha hg hn hdb he hpl) fun K h => rp K h
theorem VE.fun_p {id : String} {r : List V → Hp → VK → Prop} {f : List D → Option D} (hc : CallR X (.builtin id) r) (hk : OkC X.K f r) (hm : X.mg x = some (.builtin id)) (ha : VA (m := m) X ρ (e :: es) (pure ds)) (hg : Gl X x := by rfl) (hdb : (x == ("__debug__" : Str)) = false := by decide)
    (he : starEach (e :: es) X.env = (false, eval e X.env) :: starEach es X.env := by rfl) (hpl : (backTo pos (starEach es X.env)).any (·.1) = false := by rfl) : VE (m := m) X ρ (.Call (.Name x pn) (e :: es) [] pos) (PM.lift (f ds)) := VE.eqv (VE.fun hc hk hm ha hg hdb he hpl) fun K h => rp K h
theorem VE.call_p {k : Nat} {C : List D → Option D} (F : FC X.prog X.w X.K X.mg X.base k x C) (hr : Room k X.A) (ha : VA (m := m) X ρ (e :: es) (pure ds)) (hg : Gl X x := by rfl) (hdb : (x == ("__debug__" : Str)) = false := by decide)
    (he : starEach (e :: es) X.env = (false, eval e X.env) :: starEach es X.env := by rfl) (hpl : (backTo pos (starEach es X.env)).any (·.1) = false := by rfl) : VE (m := m) X ρ (.Call (.Name x pn) (e :: es) [] pos) (PM.lift (C ds)) := VE.eqv (VE.call F hr ha hg hdb he hpl) fun K h => rp K h
theorem VE.callP_p {k : Nat} {C : List D → PP D} (F : FC X.prog X.w X.K X.mg X.base k x C) (hr : Room k X.A) (ha : VA (m := PP) X ρ (e :: es) (pure ds)) (hg : Gl X x := by rfl) (hdb : (x == ("__debug__" : Str)) = false := by decide)
    (he : starEach (e :: es) X.env = (false, eval e X.env) :: starEach es X.env := by rfl) (hpl : (backTo pos (starEach es X.env)).any (·.1) = false := by rfl) : VE X ρ (.Call (.Name x pn) (e :: es) [] pos) (C ds) := VE.eqv (VE.callP F hr ha hg hdb he hpl) fun K h => rp (m := PP) K h
end
theorem VE.isi_p {T : String} {g : D → Bool} {p1 p2 : Pos} {x : Str} (hc : CallR X (.builtin "isinstance") (rIsP X.K (.ty T) g)) (hm : X.mg "isinstance" = none) (hmx : X.mg x = none) (hvx : bootBuiltins x = some (.type T)) (ha : VE (m := m) X ρ a (pure p)) (hg : Gl X "isinstance" := by rfl) (hgx : Gl X x := by rfl) (hn : x ≠ "__name__" := by decide) (hdb : (x == ("__debug__" : Str)) = false := by decide)
    (he : starEach [a, .Name x p2] X.env = (false, eval a X.env) :: starEach [.Name x p2] X.env := by rfl) (he2 : starEach [.Name x p2] X.env = (false, eval (.Name x p2) X.env) :: starEach [] X.env := by rfl) (hpl : (backTo pos (starEach [.Name x p2] X.env)).any (·.1) = false := by rfl) :
    VE (m := m) X ρ (.Call (.Name "isinstance" p1) [a, .Name x p2] [] pos) (PM.lift (plainB g p)) := VE.eqv (VE.isi hc hm hmx hvx ha hg hgx hn hdb he he2 hpl) fun K h => rp K h
/-! what is walked -/
theorem VI.any_p (h : VE (m := m) X ρ e (pure p)) : VI (m := m) X ρ tg e (PM.lift (dIter p)) := VI.eqv (VI.any h) fun K h => rp K h
theorem VI.range1_p {pn : Pos} (hm : X.mg "range" = none) (ha : VA (m := m) X ρ [a] (pure ds)) (hg : Gl X "range" := by rfl) (hs : starEach [a] X.env = [(false, eval a X.env)] := by rfl) : VI (m := m) X ρ tg (.Call (.Name "range" pn) [a] [] pos) (PM.lift (rng1L ds)) := VI.eqv (VI.range1 hm ha hg hs) fun K h => rp K h
theorem VI.range2_p {pn : Pos} (hm : X.mg "range" = none) (ha : VA (m := m) X ρ [a, b] (pure ds)) (hg : Gl X "range" := by rfl) (hs : starEach [a, b] X.env = [(false, eval a X.env), (false, eval b X.env)] := by rfl) (hs2 : starEach [b] X.env = [(false, eval b X.env)] := by rfl) : VI (m := m) X ρ tg (.Call (.Name "range" pn) [a, b] [] pos) (PM.lift (rng2L ds)) := VI.eqv (VI.range2 hm ha hg hs hs2) fun K h => rp K h
theorem VIH.range1_p {pn : Pos} (hm : X.mg "range" = none) (ha : VA (m := m) X ρ [a] (pure ds)) (hg : Gl X "range" := by rfl) (hs : starEach [a] X.env = [(false, eval a X.env)] := by rfl) : VIH (m := m) X Γ ρ tg (.Call (.Name "range" pn) [a] [] pos) (PM.lift (rng1L ds)) := VIH.eqv (VIH.range1 hm ha hg hs) fun K h => rp K h
theorem VIH.range2_p {pn : Pos} (hm : X.mg "range" = none) (ha : VA (m := m) X ρ [a, b] (pure ds)) (hg : Gl X "range" := by rfl) (hs : starEach [a, b] X.env = [(false, eval a X.env), (false, eval b X.env)] := by rfl) (hs2 : starEach [b] X.env = [(false, eval b X.env)] := by rfl) : VIH (m := m) X Γ ρ tg (.Call (.Name "range" pn) [a, b] [] pos) (PM.lift (rng2L ds)) := VIH.eqv (VIH.range2 hm ha hg hs hs2) fun K h => rp K h
/-! slices: the bounds -/
theorem VO_.some_p (h : VE (m := m) X ρ e (pure p)) : VO_ (m := m) X ρ (Option.some e) (PM.lift (dIntO p)) := imO (VO_.some h) fun σ H Q ⟨T, A, w, ev, q⟩ => ⟨T, A, w, ev, rp _ q⟩
/-! blocks -/
variable {rest : List Stmt} {s : Stmt}
theorem seqV {E : D → Rh} {W' : Kn → Prop} (h1 : SB (m := m) X Γ ρ s E (pure p)) (h2 : PSs X rest (tS X.K Γ (E p) W')) (mW : Mon W') : PSs X (s :: rest) (tS X.K Γ ρ W') :=
  seqB h1 (W := fun v k => v = p ∧ W' k) (fun v => ⟨fun pins s σ H D I ⟨T, A, O, r, e, w⟩ => h2.run pins s σ H D I ⟨T, A, O, by rw [← e]; exact r, w⟩⟩) (fun v k k' h q => ⟨q.1, mW _ _ h q.2⟩) fun k w => (PM.run_pure _ _).mpr ⟨rfl, w⟩
theorem VT.consV {E : D → Rh} {y : m D} (h1 : SB (m := m) X Γ ρ s E (pure p)) (h2 : VT X Γ (E p) rest y) : VT X Γ ρ (s :: rest) y := seqV h1 h2 mon_T
theorem VB.consV {E : D → Rh} {E2 : β → Rh} {y : m β} (h1 : SB (m := m) X Γ ρ s E (pure p)) (h2 : VB X Γ (E p) rest E2 y) : VB X Γ ρ (s :: rest) E2 y := seqV h1 h2 mon_B
theorem VO.consV {E : D → Rh} {E2 : β → Rh} {y : m (Out β)} (h1 : SB (m := m) X Γ ρ s E (pure p)) (h2 : VO X Γ (E p) rest E2 y) : VO X Γ ρ (s :: rest) E2 y := seqV h1 h2 mon_O
theorem VT.at {ρ' : Rh} {st : List Stmt} {x : m D} (h : VT X Γ ρ' st x) (e : ρ = ρ' := by rfl) : VT X Γ ρ st x := by rw [e]; exact h
theorem VB.at {ρ' : Rh} {st : List Stmt} {E : α → Rh} {x : m α} (h : VB X Γ ρ' st E x) (e : ρ = ρ' := by rfl) : VB X Γ ρ st E x := by rw [e]; exact h
theorem VO.at {ρ' : Rh} {st : List Stmt} {E : α → Rh} {x : m (Out α)} (h : VO X Γ ρ' st E x) (e : ρ = ρ' := by rfl) : VO X Γ ρ st E x := by rw [e]; exact h
theorem VE.at {ρ' : Rh} {x : m D} (h : VE X ρ' e x) (e' : ρ = ρ' := by rfl) : VE X ρ e x := by rw [e']; exact h
end
end Qv

namespace Qv
open PySem PySem.Spec PyProof.Rows L2
/-! ## comprehensions of two clauses -/
def sizeS (l : List D) : Option (List D) := if l.length ≤ 4000 then some l else none
section
variable {m : Type → Type} [PM m] {X : Cx} {ρ : Rh} {a b c e tg tg1 : Expr} {es : List Expr} {pos : Pos}
structure Mk2 (K : PySem.W.Frag) (T : Tk) (A : Addr → Prop) (H1 : Hp) (L : Addr) (n : Nat) (bd : Nat → Nat) (G : Nat → List D → Prop) (i k : Nat) (H : Hp) : Prop where
  hk : k = n - i
  hi : i ≤ n
  wd : Wd T (fun a => A a ∨ a = L) H
  st : Step T H1 H
  dn : ∃ acc ds, H L = some (.lst acc) ∧ acc.length ≤ bd i ∧ Reps K T (fun a => A a ∨ a = L) H acc ds ∧ G i ds
def turn2 (pt pt1 : Pt) (c : List D → m Bool) (it : List D → m (List D)) (c1 : List D → List D → m Bool) (x : List D → List D → m D) (p : D) : m (List D) :=
  PM.lift (pt.flat p) >>= fun l => c l >>= fun b => if b = true then it l >>= fun qs => PM.lift (sizeS qs) >>= fun qs => cmpD (turnM pt1 (c1 l) (x l)) qs else pure []
def tI' (K : PySem.W.Frag) (n : Nat) (ρ : List D → Rh) (x : List D → m (List D)) : TI := fun σ H R => ∃ l, l.length = n ∧ tI K (ρ l) (x l) σ H R
theorem pi_ex {n : Nat} {r : List D → Rh} {x : List D → m (List D)} {tg e : Expr} (h : ∀ l, l.length = n → VI X (r l) tg e (x l)) : PI X tg e (tI' X.K n r x) := ⟨fun pins s σ H R I ⟨l, hl, q⟩ => (h l hl).run pins s σ H R I q⟩
def tE2 (K : PySem.W.Frag) (n n1 : Nat) (ρ : List D → List D → Rh) (x : List D → List D → m D) : TE := fun σ H Q => ∃ l l1, l.length = n ∧ l1.length = n1 ∧ tE K (ρ l l1) (x l l1) σ H Q
def tP2 (K : PySem.W.Frag) (n n1 : Nat) (ρ : List D → List D → Rh) (x : List D → List D → m Bool) : TT := fun σ H Q => ∃ l l1, l.length = n ∧ l1.length = n1 ∧ tP K (ρ l l1) (x l l1) σ H Q
theorem pe_ex2 {n n1 : Nat} {r : List D → List D → Rh} {x : List D → List D → m D} (h : ∀ l l1, l.length = n → l1.length = n1 → VE X (r l l1) e (x l l1)) : PE X e (tE2 X.K n n1 r x) := ⟨fun pins s σ H Q I ⟨l, l1, hl, hl1, q⟩ => (h l l1 hl hl1).run pins s σ H Q I q⟩
theorem pts_ex2 {n n1 : Nat} {r : List D → List D → Rh} {x : List D → List D → m Bool} (h : ∀ l l1, l.length = n → l1.length = n1 → VT_ X (r l l1) es (x l l1)) : PTs X es (tP2 X.K n n1 r x) := ⟨fun pins s σ H Q I ⟨l, l1, hl, hl1, q⟩ => (h l l1 hl hl1).run pins s σ H Q I q⟩
structure Mk3 (K : PySem.W.Frag) (T : Tk) (A : Addr → Prop) (H1 H5 : Hp) (L : Addr) (n b0 : Nat) (G : Nat → List D → Prop) (i k : Nat) (H : Hp) : Prop where
  hk : k = n - i
  hi : i ≤ n
  wd : Wd T (fun a => A a ∨ a = L) H
  st : Step T H1 H
  sa : StA (fun a => A a ∨ a = L) H5 H
  dn : ∃ acc ds, H L = some (.lst acc) ∧ acc.length ≤ b0 + i ∧ Reps K T (fun a => A a ∨ a = L) H acc ds ∧ G i ds
theorem mk3_add {K : PySem.W.Frag} {T : Tk} {A : Addr → Prop} {H1 H5 H4 : Hp} {L : Addr} {n b0 : Nat} {G : Nat → List D → Prop} {i : Nat} {y : V} {d : D} {acc : List V} {ds : List D} (w1 : Wd T A H1) (nL : H1 L = none) (hi : i < n)
    (w4 : Wd T (fun a => A a ∨ a = L) H4) (s4 : Step T H1 H4) (sa : StA (fun a => A a ∨ a = L) H5 H4) (hl : acc.length ≤ b0 + i) (r4 : Reps K T (fun a => A a ∨ a = L) H4 acc ds) (ry : Rep K T (fun a => A a ∨ a = L) H4 y d)
    (q : G (i + 1) (ds ++ [d])) : Mk3 K T A H1 H5 L n b0 G (i + 1) (n - (i + 1)) (upd H4 L (.lst (acc ++ [y]))) := by
  have nS : ¬ T.S L := fun z => w1.new nL (w1.sub _ z)
  have keep : ∀ a, T.S a → upd H4 L (.lst (acc ++ [y])) a = H4 a := fun a z => upd_ne fun e => nS (e ▸ z)
  have st : StA (fun a => A a ∨ a = L) H4 (upd H4 L (.lst (acc ++ [y]))) := fun a o e z => by
    rw [upd_ne fun q => z (.inr q)]; exact e
  refine ⟨rfl, hi, ⟨T.keep w4.ok keep, fun a z => .inl (w1.sub a z), fun a z => ?_⟩, fun a o e z => ?_, sa.trans st, acc ++ [y], ds ++ [d], upd_same, by simp; omega, (r4.stA w4.mun st).append (.cons (ry.stA w4.mun st) .nil), q⟩
  · by_cases h : a = L
    · subst h; rw [upd_same]; trivial
    · rw [upd_ne h]; exact w4.mu a z
  · rw [upd_ne (ne_of_none e nL)]; exact s4 a o e z
theorem tLc2_read {K : PySem.W.Frag} {own : List (Str × Nat)} {pt pt1 : Pt} {it : m (List D)} {c : List D → m Bool} {it1 : List D → m (List D)} {c1 : List D → List D → m Bool} {x : List D → List D → m D} {σ : L2.St} {H : Hp} {Q : VK} (hsub : ∀ i ∈ pt.slots, i ∈ own.map (·.2))
    (h : tN K ρ (it >>= fun ps => PM.lift (sizeS ps) >>= fun ps => catD (turn2 pt pt1 c it1 c1 x) ps >>= fun ys => pure (.list ys)) σ H Q) :
    tLc2 (tI K ρ it) (tG K pt) (tP' K pt.slots.length (fun l => rPuts (rCut ρ (own.map (·.2))) pt.slots l) c) (tI' K pt.slots.length (fun l => rPuts (rCut ρ (own.map (·.2))) pt.slots l) it1) (tG K pt1)
      (tP2 K pt.slots.length pt1.slots.length (fun l l1 => rPuts (rCut (rPuts (rCut ρ (own.map (·.2))) pt.slots l) pt1.slots) pt1.slots l1) c1) (tE2 K pt.slots.length pt1.slots.length (fun l l1 => rPuts (rCut (rPuts (rCut ρ (own.map (·.2))) pt.slots l) pt1.slots) pt1.slots l1) x) (own.map (·.2)) pt1.slots σ H Q := by
  obtain ⟨T, A, w, ev, h⟩ := h
  rw [PM.run_bind] at h
  refine ⟨T, A, w, ev, PM.mono (fun ps h J H1 s1 o1 hJ L nL => ?_) h⟩
  rw [PM.run_bind, PM.run_lift] at h
  obtain ⟨ps', e, h⟩ := h
  obtain ⟨hz, e⟩ := ifs e
  subst e
  rw [PM.run_bind] at h
  have w1 := w.step s1 o1
  have ev1 := ev.step w s1
  have nS : ¬ T.S L := fun z => w1.new nL (w1.sub _ z)
  have hB : ∀ a, A a ∨ a = L → A a ∨ H1 a = none := fun a q => q.elim .inl fun e => .inr (e ▸ nL)
  have evB := ev1.ext hB
  let G : Nat → List D → Prop := fun i ds => PM.run (catD (turn2 pt pt1 c it1 c1 x) (ps.drop i)) fun ys => ∀ v H', PostN K T A H1 H' (.list (ds ++ ys)) v → Q (.ref v) H'
  have stA1 : ∀ {H2 : Hp}, Step T H1 H2 → StA (fun a => A a ∨ a = L) H1 H2 := fun s => (s.stA w1.sub).weak fun _ => .inl
  refine ⟨Mk2 K T A H1 L ps.length (fun i => 4000 * i) G, ⟨ps.length, ?_⟩, ?_⟩
  · refine ⟨by simp, Nat.zero_le _, ⟨(w1.laid nL).ok, fun a z => .inl (w1.sub a z), fun a z => ?_⟩, step_new nL, [], [], upd_same, Nat.le_refl _, .nil, ?_⟩
    · by_cases hq : a = L
      · subst hq; rw [upd_same]; trivial
      · rw [upd_ne hq]; exact w1.mu a (z.resolve_right hq)
    · show PM.run (catD _ (ps.drop 0)) _
      rw [List.drop_zero]
      refine PM.mono (fun ys q v H' o => ?_) h
      rw [PM.run_pure] at q
      exact q v H' (o.after s1 (step_none s1 o1 o.nw))
  · intro i k H2 M
    have hI := hJ _ hB i H2 M.wd (stA1 M.st)
    by_cases hlt : i < ps.length
    · obtain ⟨p, ep, ed⟩ := drop_get hlt
      obtain ⟨hgo, hy⟩ := hI.1 p ep
      refine .inr ⟨hgo, fun H' => Mk2 K T A H1 L ps.length (fun i => 4000 * i) G (i + 1) (ps.length - (i + 1)) H', fun H' M' => ⟨_, by have := M.hk; omega, M'⟩, fun xv H3 yv => ?_⟩
      obtain ⟨keep3, ok3, rp3⟩ := hy xv H3 yv
      obtain ⟨acc, ds, eL, hl, hr, q⟩ := M.dn
      have s23 : Step T H2 H3 := fun a o e _ => keep3 a o e
      have w3 := M.wd.step s23 ok3
      have st13 : Step T H1 H3 := M.st.trans s23
      have ev3 : Ev K T (fun a => A a ∨ a = L) ρ σ H3 := evB.stA (munB w1 hB) (stA1 st13)
      have q : PM.run (catD (turn2 pt pt1 c it1 c1 x) (ps.drop i)) fun ys => ∀ v H', PostN K T A H1 H' (.list (ds ++ ys)) v → Q (.ref v) H' := q
      rw [ed] at q
      have q := (PM.run_bind _ _ _).mp (show PM.run (turn2 pt pt1 c it1 c1 x p >>= fun y => catD (turn2 pt pt1 c it1 c1 x) (ps.drop (i + 1)) >>= fun ys => pure (y ++ ys)) _ from q)
      have q := (PM.run_bind _ _ _).mp (show PM.run (PM.lift (pt.flat p) >>= fun l => c l >>= fun b => if b = true then it1 l >>= fun qs => PM.lift (sizeS qs) >>= fun qs => cmpD (turnM pt1 (c1 l) (x l)) qs else pure []) _ from q)
      rw [PM.run_lift] at q
      obtain ⟨l, el, q⟩ := q
      have q := (PM.run_bind _ _ _).mp q
      have hll := flat_len _ _ _ el
      refine ⟨T, _, p, l, w3, rp3, el, fun us hus => ⟨(sPut_wipe _ _ _ _ hsub).trans (wipe_wipe σ _), ?_⟩⟩
      have ev4 := (ev3.cut (own.map (·.2))).puts (is := pt.slots) hus
      refine ⟨l, hll, T, _, w3, ev4, PM.mono (fun bb q H4 s4 o4 => ?_) q⟩
      have w4 := w3.step s4 o4
      have eL4 : H4 L = some (.lst acc) := s4 _ _ (s23 _ _ eL nS) nS
      have hr4 := (hr.step M.wd s23).step w3 s4
      have st14 := st13.trans s4
      have ev44 := ev4.step w3 s4
      cases bb with
      | false =>
        rw [if_neg Bool.false_ne_true] at q
        dsimp only
        rw [if_neg Bool.false_ne_true]
        rw [PM.run_pure] at q
        refine ⟨rfl, hlt, w4, st14, acc, ds, eL4, by omega, hr4, ?_⟩
        have q := (PM.run_bind _ _ _).mp q
        exact PM.mono (fun ys q v H' o => by rw [PM.run_pure] at q; exact q v H' o) q
      | true =>
        rw [if_pos rfl] at q
        dsimp only
        rw [if_pos rfl]
        have q := (PM.run_bind _ _ _).mp q
        refine ⟨l, hll, T, _, w4, ev44, PM.mono (fun qs q J1 H5 s5 o5 hJ1 => ?_) q⟩
        rw [PM.run_bind, PM.run_lift] at q
        obtain ⟨qs', e5, q⟩ := q
        obtain ⟨hz1, e5⟩ := ifs e5
        subst e5
        have w5 := w4.step s5 o5
        have eL5 : H5 L = some (.lst acc) := s5 _ _ eL4 nS
        have hr5 := hr4.step w4 s5
        have st15 := st14.trans s5
        have ev5 := ev44.step w4 s5
        let G1 : Nat → List D → Prop := fun j es => PM.run (cmpD (turnM pt1 (c1 l) (x l)) (qs.drop j)) fun zs => PM.run (catD (turn2 pt pt1 c it1 c1 x) (ps.drop (i + 1)) >>= fun ys => pure (zs ++ ys)) fun ys => ∀ v H', PostN K T A H1 H' (.list (es ++ ys)) v → Q (.ref v) H'
        refine ⟨Mk3 K T A H1 H5 L qs.length (4000 * i) G1, ⟨qs.length, ⟨by simp, Nat.zero_le _, w5, st15, .refl, acc, ds, eL5, by simpa using hl, hr5, ?_⟩⟩, ?_⟩
        · show PM.run (cmpD _ (qs.drop 0)) _
          rw [List.drop_zero]
          exact q
        · intro j k1 H6 M1
          -- the leaves' things stand below L alone
          have fin : ∀ {H7 : Hp} {acc' : List V} {es : List D}, Wd T (fun a => A a ∨ a = L) H7 → Step T H1 H7 → H7 L = some (.lst acc') → acc'.length ≤ 4000 * (i + 1) → Reps K T (fun a => A a ∨ a = L) H7 acc' es → G1 qs.length es → Mk2 K T A H1 L ps.length (fun i => 4000 * i) G (i + 1) (ps.length - (i + 1)) H7 := fun {H7 acc' es} w7 s7 e7 l7 r7 g7 => by
            refine ⟨rfl, hlt, w7, s7, acc', es, e7, l7, r7, ?_⟩
            have g7 : PM.run (cmpD (turnM pt1 (c1 l) (x l)) (qs.drop qs.length)) _ := g7
            rw [List.drop_length] at g7
            rw [show cmpD (turnM pt1 (c1 l) (x l)) [] = pure [] from rfl, PM.run_pure] at g7
            have g7 := (PM.run_bind _ _ _).mp g7
            exact PM.mono (fun ys q v H' o => by rw [PM.run_pure, List.nil_append] at q; exact q v H' o) g7
          have hJ6 := hJ1 (fun a => A a ∨ a = L) (fun a z => .inl z) j H6 M1.wd M1.sa
          obtain ⟨acc6, es6, e6, l6, r6, g6⟩ := M1.dn
          by_cases hj : j < qs.length
          · obtain ⟨p1, ep1, ed1⟩ := drop_get hj
            obtain ⟨hgo1, hy1⟩ := hJ6.1 p1 ep1
            refine .inr ⟨hgo1, fun H' => Mk3 K T A H1 H5 L qs.length (4000 * i) G1 (j + 1) (qs.length - (j + 1)) H', fun H' M' => ⟨_, by have := M1.hk; omega, M'⟩, fun xv1 H7 yv1 => ?_⟩
            obtain ⟨keep7, ok7, rp7⟩ := hy1 xv1 H7 yv1
            have s67 : Step T H6 H7 := fun a o e _ => keep7 a o e
            have a67 : StA (fun a => A a ∨ a = L) H6 H7 := fun a o e _ => keep7 a o e
            have w7 := M1.wd.step s67 ok7
            have ev7 := ev5.stA w5.mun (M1.sa.trans a67)
            have g6 : PM.run (cmpD (turnM pt1 (c1 l) (x l)) (qs.drop j)) fun zs => PM.run (catD (turn2 pt pt1 c it1 c1 x) (ps.drop (i + 1)) >>= fun ys => pure (zs ++ ys)) fun ys => ∀ v H', PostN K T A H1 H' (.list (es6 ++ ys)) v → Q (.ref v) H' := g6
            rw [ed1] at g6
            have g6 := (PM.run_bind _ _ _).mp (show PM.run (turnM pt1 (c1 l) (x l) p1 >>= fun o => cmpD (turnM pt1 (c1 l) (x l)) (qs.drop (j + 1)) >>= fun ys => pure (match o with | some y => y :: ys | none => ys)) _ from g6)
            obtain ⟨l1, el1, g6⟩ := run_turn g6
            have hl1 := flat_len _ _ _ el1
            refine ⟨T, _, p1, l1, w7, rp7, el1, fun us1 hus1 => ⟨(sPut_wipe _ _ _ _ fun i hi => hi).trans (wipe_wipe _ _), ?_⟩⟩
            have ev8 := (ev7.cut pt1.slots).puts (is := pt1.slots) hus1
            refine ⟨l, l1, hll, hl1, T, _, w7, ev8, PM.mono (fun bb g8 H8 s8 o8 => ?_) g6⟩
            have w8 := w7.step s8 o8
            have e8 : H8 L = some (.lst acc6) := s8 _ _ (keep7 _ _ e6) nS
            have r8 := (r6.stA M1.wd.mun a67).step w7 s8
            have a8 : StA (fun a => A a ∨ a = L) H5 H8 := (M1.sa.trans a67).trans (s8.stA fun a z => .inl (w1.sub a z))
            have st8 := (M1.st.trans s67).trans s8
            cases bb with
            | true =>
              rw [if_pos rfl, PM.run_bind] at g8
              dsimp only
              rw [if_pos rfl]
              refine ⟨l, l1, hll, hl1, T, _, w8, ev8.step w7 s8, PM.mono (fun d g9 yv2 H9 o9 => ?_) g8⟩
              rw [PM.run_pure, PM.run_bind] at g9
              have a9 := a8.trans (o9.st.stA fun a z => .inl (w1.sub a z))
              have e9 : H9 L = some (.lst acc6) := o9.st _ _ e8 nS
              refine ⟨acc6, e9, ?_, mk3_add w1 nL hj (o9.wd w8) (st8.trans o9.st) a9 l6 (r8.step w8 o9.st) o9.rp ?_⟩
              · rw [sizeLine_eq]; have := hz; have := hz1; omega
              · refine PM.mono (fun zs g => ?_) g9
                rw [PM.run_pure, PM.run_bind] at g
                rw [PM.run_bind]
                refine PM.mono (fun ys g => ?_) g
                rw [PM.run_pure] at g ⊢
                intro v H' o
                refine g v H' ?_
                rw [show es6 ++ ((d :: zs) ++ ys) = es6 ++ [d] ++ (zs ++ ys) by simp]
                exact o
            | false =>
              rw [if_neg Bool.false_ne_true, PM.run_pure, PM.run_bind] at g8
              dsimp only
              rw [if_neg Bool.false_ne_true]
              refine ⟨rfl, hj, w8, st8, a8, acc6, es6, e8, by omega, r8, PM.mono (fun zs g => ?_) g8⟩
              rw [PM.run_pure] at g
              exact g
          · have ej : j = qs.length := Nat.le_antisymm M1.hi (Nat.le_of_not_lt hj)
            exact .inl ⟨hJ6.2 (Nat.le_of_not_lt hj), fin M1.wd M1.st e6 (by omega) r6 (ej ▸ g6)⟩
    · have e0 : i = ps.length := Nat.le_antisymm M.hi (Nat.le_of_not_lt hlt)
      refine .inl ⟨hI.2 (Nat.le_of_not_lt hlt), ?_⟩
      obtain ⟨acc, ds, e, _, r, q⟩ := M.dn
      have q : PM.run (catD (turn2 pt pt1 c it1 c1 x) (ps.drop i)) fun ys => ∀ v H', PostN K T A H1 H' (.list (ds ++ ys)) v → Q (.ref v) H' := q
      rw [e0, List.drop_length] at q
      have q := (PM.run_pure _ _).mp q
      exact q _ _ ⟨M.st, M.wd.ok, nL, acc, ds, by rw [List.append_nil], e, r⟩
/-- [e for t in it if .. for t1 in it1 if ..] -/
theorem VN.comp2 {elt iter iter1 : Expr} {ifs ifs1 : List Expr} {scope : Scope} {own : List (Str × Nat)} {pt pt1 : Pt} {it : m (List D)} {c : List D → m Bool} {it1 : List D → m (List D)} {c1 : List D → List D → m Bool} {x : List D → List D → m D} (hN : X.N.Nodup) (hi : VI X ρ tg iter it) (ok : blkC X.N X.env.scope scope own = true)
    (hg : ∀ s H C cl fp, VG (Bk X scope s H C cl fp) tg pt) (ht : ∀ s H C cl fp l, l.length = pt.slots.length → VT_ (Bk X scope s H C cl fp) (rPuts (rCut ρ (own.map (·.2))) pt.slots l) ifs (c l))
    (hi1 : ∀ s H C cl fp l, l.length = pt.slots.length → VI (Bk X scope s H C cl fp) (rPuts (rCut ρ (own.map (·.2))) pt.slots l) tg1 iter1 (it1 l)) (hg1 : ∀ s H C cl fp, VG (Bk X scope s H C cl fp) tg1 pt1)
    (ht1 : ∀ s H C cl fp l l1, l.length = pt.slots.length → l1.length = pt1.slots.length → VT_ (Bk X scope s H C cl fp) (rPuts (rCut (rPuts (rCut ρ (own.map (·.2))) pt.slots l) pt1.slots) pt1.slots l1) ifs1 (c1 l l1))
    (he : ∀ s H C cl fp l l1, l.length = pt.slots.length → l1.length = pt1.slots.length → VE (Bk X scope s H C cl fp) (rPuts (rCut (rPuts (rCut ρ (own.map (·.2))) pt.slots l) pt1.slots) pt1.slots l1) elt (x l l1))
    (hsub : ∀ i ∈ pt.slots, i ∈ own.map (·.2) := by decide) (hsub1 : ∀ i ∈ pt1.slots, i ∈ own.map (·.2) := by decide) (hc : X.calm = true := by rfl) (hs : ∀ x, foldedSetIterable iter X.env x = pure x := by intro _; rfl) (hs1 : ∀ env x, foldedSetIterable iter1 env x = pure x := by intro _ _; rfl) :
    VN X ρ (.ListComp elt [⟨tg, iter, ifs, 0⟩, ⟨tg1, iter1, ifs1, 0⟩] scope pos) (it >>= fun ps => PM.lift (sizeS ps) >>= fun ps => catD (turn2 pt pt1 c it1 c1 x) ps >>= fun ys => pure (.list ys)) :=
  imE (pe_lc2 hc hN hi (blkOk_by ok) hsub1 (fun s H C cl fp => hg s H C cl fp) (fun s H C cl fp => pts_ex (ht s H C cl fp)) (fun s H C cl fp => pi_ex (hi1 s H C cl fp)) (fun s H C cl fp => hg1 s H C cl fp) (fun s H C cl fp => pts_ex2 (ht1 s H C cl fp)) (fun s H C cl fp => pe_ex2 (he s H C cl fp)) hs hs1) fun σ H Q h => tLc2_read hsub h
/-! ### y = [..] -/
abbrev SC (X : Cx) (ρ : Rh) (i : Nat) (s : Stmt) (x : m D) : Prop := PS X s (tAsg (tN X.K ρ x) (gName i))
theorem SC.c1 {elt iter : Expr} {ifs : List Expr} {scope : Scope} {own : List (Str × Nat)} {pt : Pt} {it : m (List D)} {c : List D → m Bool} {x : List D → m D} {i : Nat} {y : Str} {py spos : Pos} (hN : X.N.Nodup) (hi : VI X ρ tg iter it) (ok : blkC X.N X.env.scope scope own = true)
    (hg : ∀ s H C cl fp, VG (Bk X scope s H C cl fp) tg pt) (ht : ∀ s H C cl fp l, l.length = pt.slots.length → VT_ (Bk X scope s H C cl fp) (rPuts (rCut ρ (own.map (·.2))) pt.slots l) ifs (c l))
    (he : ∀ s H C cl fp l, l.length = pt.slots.length → VE (Bk X scope s H C cl fp) (rPuts (rCut ρ (own.map (·.2))) pt.slots l) elt (x l)) (hy : X.N[i]? = some y := by rfl) (hyl : X.env.scope.names.lookup y = some .local := by rfl)
    (hsw : swapsWith (.ListComp elt [⟨tg, iter, ifs, 0⟩] scope pos) (some (.Name y py)) spos.line X.env = pure true := by exact sw_true rfl rfl rfl (by decide +kernel)) (hsub : ∀ i ∈ pt.slots, i ∈ own.map (·.2) := by decide) (hc : X.calm = true := by rfl) (hs : ∀ x, foldedSetIterable iter X.env x = pure x := by intro _; rfl) :
    SC X ρ i (.Assign [.Name y py] (.ListComp elt [⟨tg, iter, ifs, 0⟩] scope pos) spos) (it >>= fun ps => PM.lift (sizeL ps) >>= fun ps => cmpD (turnM pt c x) ps >>= fun ys => pure (.list ys)) :=
  imS (ps_setLc hc hN hy hyl hsw hi (blkOk_by ok) (fun s H C cl fp => hg s H C cl fp) (fun s H C cl fp => pts_ex (ht s H C cl fp)) (fun s H C cl fp => pe_ex (he s H C cl fp)) hs) fun D σ H h => tLc_read hsub h
theorem SC.c2 {elt iter iter1 : Expr} {ifs ifs1 : List Expr} {scope : Scope} {own : List (Str × Nat)} {pt pt1 : Pt} {it : m (List D)} {c : List D → m Bool} {it1 : List D → m (List D)} {c1 : List D → List D → m Bool} {x : List D → List D → m D} {i : Nat} {y : Str} {py spos : Pos} (hN : X.N.Nodup) (hi : VI X ρ tg iter it) (ok : blkC X.N X.env.scope scope own = true)
    (hg : ∀ s H C cl fp, VG (Bk X scope s H C cl fp) tg pt) (ht : ∀ s H C cl fp l, l.length = pt.slots.length → VT_ (Bk X scope s H C cl fp) (rPuts (rCut ρ (own.map (·.2))) pt.slots l) ifs (c l))
    (hi1 : ∀ s H C cl fp l, l.length = pt.slots.length → VI (Bk X scope s H C cl fp) (rPuts (rCut ρ (own.map (·.2))) pt.slots l) tg1 iter1 (it1 l)) (hg1 : ∀ s H C cl fp, VG (Bk X scope s H C cl fp) tg1 pt1)
    (ht1 : ∀ s H C cl fp l l1, l.length = pt.slots.length → l1.length = pt1.slots.length → VT_ (Bk X scope s H C cl fp) (rPuts (rCut (rPuts (rCut ρ (own.map (·.2))) pt.slots l) pt1.slots) pt1.slots l1) ifs1 (c1 l l1))
    (he : ∀ s H C cl fp l l1, l.length = pt.slots.length → l1.length = pt1.slots.length → VE (Bk X scope s H C cl fp) (rPuts (rCut (rPuts (rCut ρ (own.map (·.2))) pt.slots l) pt1.slots) pt1.slots l1) elt (x l l1)) (hy : X.N[i]? = some y := by rfl) (hyl : X.env.scope.names.lookup y = some .local := by rfl)
    (hsw : swapsWith (.ListComp elt [⟨tg, iter, ifs, 0⟩, ⟨tg1, iter1, ifs1, 0⟩] scope pos) (some (.Name y py)) spos.line X.env = pure true := by exact sw_true rfl rfl rfl (by decide +kernel))
    (hsub : ∀ i ∈ pt.slots, i ∈ own.map (·.2) := by decide) (hsub1 : ∀ i ∈ pt1.slots, i ∈ own.map (·.2) := by decide) (hc : X.calm = true := by rfl) (hs : ∀ x, foldedSetIterable iter X.env x = pure x := by intro _; rfl) (hs1 : ∀ env x, foldedSetIterable iter1 env x = pure x := by intro _ _; rfl) :
    SC X ρ i (.Assign [.Name y py] (.ListComp elt [⟨tg, iter, ifs, 0⟩, ⟨tg1, iter1, ifs1, 0⟩] scope pos) spos) (it >>= fun ps => PM.lift (sizeS ps) >>= fun ps => catD (turn2 pt pt1 c it1 c1 x) ps >>= fun ys => pure (.list ys)) :=
  imS (ps_setLc2 hc hN hy hyl hsw hi (blkOk_by ok) hsub1 (fun s H C cl fp => hg s H C cl fp) (fun s H C cl fp => pts_ex (ht s H C cl fp)) (fun s H C cl fp => pi_ex (hi1 s H C cl fp)) (fun s H C cl fp => hg1 s H C cl fp) (fun s H C cl fp => pts_ex2 (ht1 s H C cl fp)) (fun s H C cl fp => pe_ex2 (he s H C cl fp)) hs hs1) fun D σ H h => tLc2_read hsub h
/-- a new list comes to an owner's heap, its things unchangeable -/
theorem PostN.immO {K : PySem.W.Frag} {T : Tk} {A : Addr → Prop} {Γ : List Kd} {O : Nat → Option Addr} {σ : L2.St} {H H' : Hp} {p d : D} {a : Addr} (o : PostN K T A H H' p a) (e : immL p = some d) : PostN K T (AT A O) H H' d a := by
  obtain ⟨us, ds, rfl, e1, r1⟩ := o.ow
  obtain ⟨hp, e⟩ := ifs e
  subst e
  exact ⟨o.st, o.ok, o.nw, us, ds, rfl, e1, Reps.imm r1 hp⟩
section
variable {Γ : List Kd} {i : Nat} {s : Stmt} {x : m D} {E : D → Rh}
theorem SB.scH (h : SC X (hide Γ ρ) i s x) (hE : ∀ p, E p = rPut ρ i p) (hk : kAt Γ i = .sh := by rfl) : SB X Γ ρ s E x := imB (imS h fun D σ H ⟨T, A, O, r, q⟩ => ⟨T, AT A O, r.wd, r.hid, PM.mono (fun p q a H' o => asg_put hk r q (o.post r.wd)) q⟩) hE
theorem SB.ocH (h : SC X (hide Γ ρ) i s x) (hE : ∀ p, E p = rPut ρ i p) (hk : kAt Γ i = .ow := by rfl) : SB X Γ ρ s E x := imB (imS h fun D σ H ⟨T, A, O, r, q⟩ => ⟨T, AT A O, r.wd, r.hid, PM.mono (fun p q a H' o => own_put hk r q o) q⟩) hE
theorem SB.scI (h : SC X ρ i s x) (hE : ∀ p, E p = rPut ρ i p) (hk : kAt Γ i = .sh := by rfl) : SB X Γ ρ s E (x >>= fun p => PM.lift (immL p)) := imB (imS h fun D σ H ⟨T, A, O, r, q⟩ => ⟨T, A, r.wdA, r.all, PM.mono (fun p q a H' o => by
  rw [PM.run_lift] at q
  obtain ⟨d, e, q⟩ := q
  exact asg_put hk r q ((o.immO (O := O) (Γ := Γ) (σ := σ) e).post r.wd)) ((PM.run_bind _ _ _).mp q)⟩) hE
theorem SB.ocI (h : SC X ρ i s x) (hE : ∀ p, E p = rPut ρ i p) (hk : kAt Γ i = .ow := by rfl) : SB X Γ ρ s E (x >>= fun p => PM.lift (immL p)) := imB (imS h fun D σ H ⟨T, A, O, r, q⟩ => ⟨T, A, r.wdA, r.all, PM.mono (fun p q a H' o => by
  rw [PM.run_lift] at q
  obtain ⟨d, e, q⟩ := q
  exact own_put hk r q (o.immO (O := O) (Γ := Γ) (σ := σ) e)) ((PM.run_bind _ _ _).mp q)⟩) hE
/-! ### new lists: +, *, list(..), slices -/
def dAddL : D → D → Option D
  | .list xs, .list ys => if xs.length + ys.length ≤ sizeLine then some (.list (xs ++ ys)) else none
  | _, _ => none
def dMulL : D → D → Option D
  | .list xs, .int k => if decide (-(2 ^ 63) ≤ k) && decide (k < 2 ^ 63) && decide (xs.length * k.toNat ≤ sizeLine) then some (.list (List.replicate k.toNat xs).flatten) else none
  | _, _ => none
def OkN (K : PySem.W.Frag) (f : D → D → Option D) (r : R2) : Prop := ∀ (T : Tk) (A : Addr → Prop) (H : Hp) (x y : V) (p q d : D) (Q : VK), Wd T A H → Rep K T A H x p → Rep K T A H y q → f p q = some d → (∀ a H', PostN K T A H H' d a → Q (.ref a) H') → r x y H Q
theorem okAddN {K : PySem.W.Frag} : OkN K dAddL (rAddD K) := by
  intro T A H x y p q d Q w rx ry e k
  cases rx with
  | @lst a xs ds n hs hr =>
    cases ry with
    | @lst b ys es n' hs' hr' =>
      obtain ⟨h, e⟩ := ifs e
      subst e
      exact .inr (.inl ⟨a, b, xs, ys, rfl, rfl, hs, hs', by rw [hr.length, hr'.length]; exact h, fun p np => k _ _ (postN_new w np (hr.append hr'))⟩)
    | _ => cases e
  | _ => cases e
theorem okMulN {K : PySem.W.Frag} : OkN K dMulL (rMulD K) := by
  intro T A H x y p q d Q w rx ry e k
  cases rx with
  | @lst a xs ds n hs hr =>
    cases ry with
    | int j =>
      obtain ⟨h, e⟩ := ifs e
      subst e
      simp only [Bool.and_eq_true, decide_eq_true_eq] at h
      exact .inr (.inl ⟨a, j, xs, rfl, rfl, hs, h.1.1, h.1.2, by rw [hr.length]; exact h.2, fun p np => k _ _ (postN_new w np (hr.flat _))⟩)
    | _ => cases e
  | _ => cases e
theorem VN.op {op : Operator} {r : R2} {f : D → D → Option D} {xa xb : m D} (ho : OpR X (binaryOp op) r) (hr : OkN X.K f r) (ha : VE X ρ a xa) (hb : VE X ρ b xb) : VN X ρ (.BinOp a op b pos) (xa >>= fun p => xb >>= fun q => PM.lift (f p q)) :=
  imE (pe_op ho ha hb) fun σ H Q ⟨T, A, w, ev, h⟩ => by
    rw [PM.run_bind] at h
    refine ⟨T, A, w, ev, PM.mono (fun p h v H1 o1 => ?_) h⟩
    rw [PM.run_bind] at h
    have w1 := o1.wd w
    refine ⟨T, A, w1, ev.step w o1.st, PM.mono (fun q h u H2 o2 => ?_) h⟩
    rw [PM.run_lift] at h
    obtain ⟨d, e, h⟩ := h
    have s := o1.st.trans o2.st
    exact hr T A H2 v u p q d Q (o2.wd w1) (o1.rp.step w1 o2.st) o2.rp e fun a H' o => h a H' (o.after s (step_none s o2.ok o.nw))
theorem VN.list {p0 : Pos} {xs : m (List D)} (hm : X.mg "list" = none) (ha : VA X ρ [e] xs) (hg : Gl X "list" := by rfl)
    (he : starEach [e] X.env = (false, eval e X.env) :: starEach [] X.env := by rfl) (hpl : (backTo pos (starEach [] X.env)).any (·.1) = false := by rfl) : VN X ρ (.Call (.Name "list" p0) [e] [] pos) (xs >>= fun l => PM.lift (f1 dList l)) :=
  imE (pe_callTy call_list_of hg hm boot_list ha.pa (by decide) (by decide) he hpl) fun σ H Q ⟨T, A, w, ev, h⟩ => by
    rw [PM.run_bind] at h
    refine ⟨T, A, w, ev, PM.mono (fun l h vs H1 s1 o1 r1 => ?_) h⟩
    rw [PM.run_lift] at h
    obtain ⟨d, e, h⟩ := h
    match l, r1 with
    | [p], .cons r .nil =>
      cases r with
      | @lst a us ds n h2 hr => cases e; exact ⟨a, us, rfl, .inl (SqL.of h2), fun l nl => h _ _ ((postN_new (w.step s1 o1) nl hr).after s1 (step_none s1 o1 nl))⟩
      | @tup a us ds h2 hr => cases e; exact ⟨a, us, rfl, .inr h2, fun l nl => h _ _ ((postN_new (w.step s1 o1) nl hr).after s1 (step_none s1 o1 nl))⟩
      | _ => cases e
    | [], .nil => cases e
    | _ :: _ :: _, .cons _ (.cons _ _) => cases e
/-- xs[lo:hi] of a list -/
def dSliceL (x : D) (lo hi : Option Int) : Option D := match x with
  | .list xs => some (.list (cutD xs lo hi))
  | _ => none
theorem VN.slice {lo hi : Option Expr} {xa : m D} {xl xh : m (Option Int)} {p2 : Pos} (ha : VE X ρ a xa) (hl : VO_ X ρ lo xl) (hh : VO_ X ρ hi xh) : VN X ρ (.Subscript a (.Slice lo hi none p2) pos) (xa >>= fun p => xl >>= fun l => xh >>= fun u => PM.lift (dSliceL p l u)) :=
  imE (pe_slice sl_seq ha hl hh) fun σ H Q ⟨T, A, w, ev, h⟩ => by
    rw [PM.run_bind] at h
    refine ⟨T, A, w, ev, PM.mono (fun p h v H1 o1 => ?_) h⟩
    have w1 := o1.wd w
    rw [PM.run_bind] at h
    refine ⟨T, A, w1, ev.step w o1.st, PM.mono (fun l h H2 s2 o2 => ?_) h⟩
    rw [PM.run_bind] at h
    refine ⟨T, A, w1.step s2 o2, (ev.step w o1.st).step w1 s2, PM.mono (fun u h H3 s3 o3 => ?_) h⟩
    rw [PM.run_lift] at h
    obtain ⟨d, e, k⟩ := h
    have w3 := (w1.step s2 o2).step s3 o3
    have rp3 := (o1.rp.step w1 s2).step (w1.step s2 o2) s3
    have s := (o1.st.trans s2).trans s3
    cases rp3 with
    | @lst a us ds n hs hr =>
      cases e
      refine .inl ⟨a, us, rfl, SqL.of hs, fun p np => ?_⟩
      refine k _ _ ((postN_new w3 np ?_).after s (step_none s o3 np))
      unfold cutV cutD
      rw [hr.length]
      exact (hr.drop _).take _
    | _ => cases e
end
end
end Qv

namespace Qv
open PySem PySem.Spec PyProof.Rows L2
/-! ## for the printed texts -/
section
variable {m : Type → Type} [PM m] {X : Cx} {Γ Γ' : List Kd} {ρ : Rh} {e tg : Expr} {es : List Expr} {x : m D} {p : D} {α β : Type} {rest : List Stmt} {s : Stmt}
theorem VH.imm_p (h : VE (m := m) X ρ e (pure p)) : VH (m := m) X Γ ρ e (PM.lift (Qv.imm p)) := VH.eqv (VH.imm h) fun K q => rp K q
def compM (it : m (List D)) (pt : Pt) (c : List D → m Bool) (x : List D → m D) : m D := it >>= fun ps => PM.lift (sizeL ps) >>= fun ps => cmpD (turnM pt c x) ps >>= fun ys => pure (.list ys)
def comp2M (it : m (List D)) (pt pt1 : Pt) (c : List D → m Bool) (it1 : List D → m (List D)) (c1 : List D → List D → m Bool) (x : List D → List D → m D) : m D := it >>= fun ps => PM.lift (sizeS ps) >>= fun ps => catD (turn2 pt pt1 c it1 c1 x) ps >>= fun ys => pure (.list ys)
def unl1 (f : D → List D → m β) : List D → List D → m β | [a], l => f a l | _, _ => fail
def unl2 (f : D → D → List D → m β) : List D → List D → m β | [a, b], l => f a b l | _, _ => fail
def unl3 (f : D → D → D → List D → m β) : List D → List D → m β | [a, b, c], l => f a b c l | _, _ => fail
theorem lenl1_1 {P : List D → List D → Prop} (h : ∀ a b, P [a] [b]) : ∀ l l1, l.length = 1 → l1.length = 1 → P l l1 := fun l l1 e f => match l, l1, e, f with | [a], [b], _, _ => h a b
theorem lenl1_2 {P : List D → List D → Prop} (h : ∀ a b c, P [a] [b, c]) : ∀ l l1, l.length = 1 → l1.length = 2 → P l l1 := fun l l1 e f => match l, l1, e, f with | [a], [b, c], _, _ => h a b c
theorem lenl2_1 {P : List D → List D → Prop} (h : ∀ a b c, P [a, b] [c]) : ∀ l l1, l.length = 2 → l1.length = 1 → P l l1 := fun l l1 e f => match l, l1, e, f with | [a, b], [c], _, _ => h a b c
theorem lenl2_2 {P : List D → List D → Prop} (h : ∀ a b c d, P [a, b] [c, d]) : ∀ l l1, l.length = 2 → l1.length = 2 → P l l1 := fun l l1 e f => match l, l1, e, f with | [a, b], [c, d], _, _ => h a b c d
theorem lenl1_3 {P : List D → List D → Prop} (h : ∀ a b c d, P [a] [b, c, d]) : ∀ l l1, l.length = 1 → l1.length = 3 → P l l1 := fun l l1 e f => match l, l1, e, f with | [a], [b, c, d], _, _ => h a b c d
theorem VT_.at {ρ' : Rh} {x : m Bool} (h : VT_ X ρ' es x) (e' : ρ = ρ' := by rfl) : VT_ X ρ es x := by rw [e']; exact h
theorem VI.at {ρ' : Rh} {x : m (List D)} (h : VI X ρ' tg e x) (e' : ρ = ρ' := by rfl) : VI X ρ tg e x := by rw [e']; exact h
/-- the kind of a name that is not known may be chosen -/
theorem Rl.unk0 {K : PySem.W.Frag} {T : Tk} {A : Addr → Prop} {O : Nat → Option Addr} {σ : L2.St} {H : Hp} {i : Nat} (r : Rl K T A Γ O ρ σ H) (h : ∀ j, j ≠ i → kAt Γ' j = kAt Γ j) (hn : rAt ρ i = none) : Rl K T A Γ' O ρ σ H := by
  refine ⟨r.len, r.wd, r.sub, fun j p q k => ?_, fun j p q k => ?_, r.inj, r.dis⟩
  · have e : j ≠ i := fun e => by rw [e, hn] at q; cases q
    exact r.sh j p q (by rw [← h j e]; exact k)
  · have e : j ≠ i := fun e => by rw [e, hn] at q; cases q
    exact r.ow j p q (by rw [← h j e]; exact k)
def kSub (Γ Γ' : List Kd) (i : Nat) : Nat → Bool
  | 0 => true
  | n + 1 => (n == i || (decide (kAt Γ' n = kAt Γ n))) && kSub Γ Γ' i n
theorem kSub_at {i : Nat} : ∀ {n : Nat}, kSub Γ Γ' i n = true → ∀ j, j < n → j ≠ i → kAt Γ' j = kAt Γ j
  | n + 1, h, j, hj, hi => by
    simp only [kSub, Bool.and_eq_true, Bool.or_eq_true, beq_iff_eq, decide_eq_true_eq] at h
    rcases Nat.lt_succ_iff_lt_or_eq.mp hj with q | q
    · exact kSub_at h.2 j q hi
    · subst q; exact h.1.resolve_left hi
theorem kAt_out : ∀ {Γ : List Kd} {j : Nat}, Γ.length ≤ j → kAt Γ j = .sh
  | [], _, _ => rfl
  | _ :: _, 0, h => by simp at h
  | _ :: Γ, j + 1, h => kAt_out (Γ := Γ) (by simpa using h)
theorem kSub_all {i n : Nat} (h : kSub Γ Γ' i n = true) (h1 : Γ.length ≤ n) (h2 : Γ'.length ≤ n) : ∀ j, j ≠ i → kAt Γ' j = kAt Γ j := fun j hi => by
  by_cases hj : j < n
  · exact kSub_at h j hj hi
  · rw [kAt_out (by omega), kAt_out (by omega)]
def noFz (Γ : List Kd) : Bool := Γ.all fun k => match k with | .fz => false | _ => true
theorem noFz_at : ∀ {Γ : List Kd}, noFz Γ = true → ∀ j, kAt Γ j ≠ .fz
  | [], _, j => by simp [kAt]
  | k :: Γ, h, j => by
    simp only [noFz, List.all_cons, Bool.and_eq_true] at h
    cases j with
    | zero => cases k <;> simp [kAt] at h ⊢
    | succ j => exact noFz_at (Γ := Γ) h.2 j
theorem VT.kind {x : m D} (i : Nat) (h : VT X Γ' ρ rest x) (hn : rAt ρ i = none := by rfl) (hs : kSub Γ Γ' i (max Γ.length Γ'.length) = true := by decide) : VT X Γ ρ rest x := imSs h fun D σ H ⟨T, A, O, r, w⟩ =>
  ⟨T, A, O, r.unk0 (kSub_all hs (Nat.le_max_left _ _) (Nat.le_max_right _ _)) hn, w⟩
theorem kind_le {K : PySem.W.Frag} {T : Tk} {A : Addr → Prop} {O : Nat → Option Addr} {σ : L2.St} {H : Hp} {D : Ends} {i : Nat} (hs : ∀ j, j ≠ i → kAt Γ' j = kAt Γ j) (hz : noFz Γ = true) :
    (∀ ρ', rAt ρ' i = none → (kn K T A Γ O σ H D).nx ρ' → (kn K T A Γ' O σ H D).nx ρ') ∧ (∀ ρ', rAt ρ' i = none → (kn K T A Γ O σ H D).bk ρ' → (kn K T A Γ' O σ H D).bk ρ') ∧ (∀ ρ', rAt ρ' i = none → (kn K T A Γ O σ H D).ct ρ' → (kn K T A Γ' O σ H D).ct ρ') := by
  have key : ∀ (P : L2.St → Hp → Prop) (ρ' : Rh), rAt ρ' i = none → (∀ σ' H' O', Rl K T A Γ O' ρ' σ' H' → Fr T Γ O O' σ σ' H H' → P σ' H') → ∀ σ' H' O', Rl K T A Γ' O' ρ' σ' H' → Fr T Γ' O O' σ σ' H H' → P σ' H' := fun P ρ' hn w σ' H' O' r' f =>
    w σ' H' O' (r'.unk0 (i := i) (fun j hj => (hs j hj).symm) hn) (f.kd fun j hj => absurd hj (noFz_at hz j))
  exact ⟨fun ρ' => key _ ρ', fun ρ' => key _ ρ', fun ρ' => key _ ρ'⟩
theorem VB.kind {E : α → Rh} {x : m α} (i : Nat) (h : VB X Γ' ρ rest E x) (hE : ∀ a, rAt (E a) i = none := by intro _; rfl) (hn : rAt ρ i = none := by rfl) (hs : kSub Γ Γ' i (max Γ.length Γ'.length) = true := by decide) (hz : noFz Γ = true := by decide) : VB X Γ ρ rest E x := imSs h fun D σ H ⟨T, A, O, r, w⟩ =>
  have hs := kSub_all hs (Nat.le_max_left _ _) (Nat.le_max_right _ _)
  ⟨T, A, O, r.unk0 hs hn, PM.mono (fun a q => (kind_le hs hz).1 _ (hE a) q) w⟩
theorem VO.kind {E : α → Rh} {x : m (Out α)} (i : Nat) (h : VO X Γ' ρ rest E x) (hE : ∀ a, rAt (E a) i = none := by intro _; rfl) (hn : rAt ρ i = none := by rfl) (hs : kSub Γ Γ' i (max Γ.length Γ'.length) = true := by decide) (hz : noFz Γ = true := by decide) : VO X Γ ρ rest E x := imSs h fun D σ H ⟨T, A, O, r, w⟩ => by
  have hs := kSub_all hs (Nat.le_max_left _ _) (Nat.le_max_right _ _)
  refine ⟨T, A, O, r.unk0 hs hn, PM.mono (fun o q => ?_) w⟩
  obtain ⟨k1, k2, k3⟩ := kind_le (K := X.K) (T := T) (A := A) (O := O) (σ := σ) (H := H) (D := D) hs hz
  cases o with
  | nx a => exact k1 _ (hE a) q
  | rt v => exact q
  | bk a => exact k2 _ (hE a) q
  | ct a => exact k3 _ (hE a) q
/-- a pattern's leaves are values already -/
theorem seqL {E : List D → Rh} {W' : Kn → Prop} {l : List D} (h1 : SB (m := m) X Γ ρ s E (pure l)) (h2 : PSs X rest (tS X.K Γ (E l) W')) (mW : Mon W') : PSs X (s :: rest) (tS X.K Γ ρ W') :=
  seqB h1 (W := fun v k => v = l ∧ W' k) (fun v => ⟨fun pins s σ H D I ⟨T, A, O, r, e, w⟩ => h2.run pins s σ H D I ⟨T, A, O, by rw [← e]; exact r, w⟩⟩) (fun v k k' h q => ⟨q.1, mW _ _ h q.2⟩) fun k w => (PM.run_pure _ _).mpr ⟨rfl, w⟩
theorem VT.consL {E : List D → Rh} {l : List D} {y : m D} (h1 : SB (m := m) X Γ ρ s E (pure l)) (h2 : VT X Γ (E l) rest y) : VT X Γ ρ (s :: rest) y := seqL h1 h2 mon_T
theorem VB.consL {E : List D → Rh} {E2 : β → Rh} {l : List D} {y : m β} (h1 : SB (m := m) X Γ ρ s E (pure l)) (h2 : VB X Γ (E l) rest E2 y) : VB X Γ ρ (s :: rest) E2 y := seqL h1 h2 mon_B
theorem VO.consL {E : List D → Rh} {E2 : β → Rh} {l : List D} {y : m (Out β)} (h1 : SB (m := m) X Γ ρ s E (pure l)) (h2 : VO X Γ (E l) rest E2 y) : VO X Γ ρ (s :: rest) E2 y := seqL h1 h2 mon_O
theorem VT.consA {ρ' : Rh} {n : Nat} {xs : m (List D)} {E : List D → Rh} {k : List D → m D} (f : VA X ρ' es xs → SB X Γ ρ s E xs) (h : VA X ρ' es xs) (h2 : ∀ l, l.length = n → VT X Γ (E l) rest (k l)) (hl : es.length = n := by rfl) : VT X Γ ρ (s :: rest) (xs >>= k) := VT.consP (f h) (fun K q => by rw [← hl]; exact h.ln K q) h2
theorem VB.consA {ρ' : Rh} {n : Nat} {xs : m (List D)} {E : List D → Rh} {E2 : β → Rh} {k : List D → m β} (f : VA X ρ' es xs → SB X Γ ρ s E xs) (h : VA X ρ' es xs) (h2 : ∀ l, l.length = n → VB X Γ (E l) rest E2 (k l)) (hl : es.length = n := by rfl) : VB X Γ ρ (s :: rest) E2 (xs >>= k) := VB.consP (f h) (fun K q => by rw [← hl]; exact h.ln K q) h2
theorem VO.consA {ρ' : Rh} {n : Nat} {xs : m (List D)} {E : List D → Rh} {E2 : β → Rh} {k : List D → m (Out β)} (f : VA X ρ' es xs → SB X Γ ρ s E xs) (h : VA X ρ' es xs) (h2 : ∀ l, l.length = n → VO X Γ (E l) rest E2 (k l)) (hl : es.length = n := by rfl) : VO X Γ ρ (s :: rest) E2 (xs >>= k) := VO.consP (f h) (fun K q => by rw [← hl]; exact h.ln K q) h2
/-- a, b = (1, 2): constants, taken apart -/
theorem SB.asgPV {tg : Expr} {pt : Pt} {pos : Pos} {l : List D} {E : List D → Rh} (h : VH (m := m) X Γ ρ e (pure p)) (hg : VG X tg pt) (hE : ∀ l, E l = rPuts ρ pt.slots l) (hl : pt.flat p = some l := by rfl) (hk : ∀ i ∈ pt.slots, kAt Γ i = .sh := by decide) (hs : swapsWithSole [tg] e pos.line X.env = pure false := by rfl) (hw : swappedStores [tg] e X.env = pure none := by rfl) (h1 : (assignEach [tg] X.env).map (·.2) = [assign tg X.env] := by rfl) :
    SB (m := m) X Γ ρ (.Assign [tg] e pos) E (pure l) := imB (imS (SB.asgP h hg hk hs hw h1) fun D σ H ⟨T, A, O, r, q⟩ => ⟨T, A, O, r, rp _ (by
  have q : PM.run (pure l : m (List Qv.D)) _ := q
  rw [PM.run_pure] at q
  rw [PM.run_lift]
  exact ⟨l, hl, q⟩)⟩) hE
end
end Qv

namespace Qv
open PySem PySem.Spec PyProof.Rows L2
/-! ## owners in a pattern -/
section
variable {K : PySem.W.Frag} {T : Tk} {A : Addr → Prop} {Γ : List Kd} {O : Nat → Option Addr} {ρ : Rh} {σ : L2.St} {H H' : Hp} {a : Addr} {i : Nat} {p : D}
theorem rCut1_at {j : Nat} {d : D} (h : rAt (rCut ρ [i]) j = some d) : j ≠ i ∧ rAt ρ j = some d := by
  have h2 := rAt_cut ρ j [i]
  rw [h] at h2
  by_cases e : j ∈ [i]
  · rw [if_pos e] at h2; cases h2
  · rw [if_neg e] at h2
    exact ⟨fun z => e (by rw [z]; exact List.mem_cons_self), h2.symm⟩
/-- a new list stands, for a name that comes -/
theorem Rl.hold (r : Rl K T A Γ O ρ σ H) (q : PostN K T (AT A O) H H' p a) : Rl K T A Γ (oPut O i a) (rCut ρ [i]) σ H' ∧ Own K T (AT A (oPut O i a)) H' a p := by
  have r' := r.step q.st q.ok
  have hB : ∀ b, AT A (oPut O i a) b → AT A O b ∨ b = a := fun b h => by
    rcases h with h | ⟨j, h⟩
    · exact .inl (.inl h)
    · unfold oPut at h
      split at h
      · cases h; exact .inr rfl
      · exact .inl (.inr ⟨j, h⟩)
  have hN : ∀ b, AT A (oPut O i a) b → AT A O b ∨ H b = none := fun b h => (hB b h).imp_right fun e => by rw [e]; exact q.nw
  obtain ⟨us, ds, rfl, e, rr⟩ := q.ow
  have ss : StA (AT A (oPut O i a)) H H' := (q.st.stA r.sub).weak fun b => .inl
  have mn : MuN (AT A (oPut O i a)) H := fun b h => (hN b h).elim (fun z => .inr (r.wd.mu b z)) .inl
  have wd : Wd T (AT A (oPut O i a)) H' := ⟨q.ok, fun b h => .inl (r.sub b h), fun b h => (hB b h).elim (fun z => r'.wd.mu b z) fun z => by rw [z, e]; trivial⟩
  refine ⟨⟨by rw [rCut_len, r.len], wd, r.sub, fun j d h k => ?_, fun j d h k => ?_, fun j l b h1 h2 => ?_, fun j b h => ?_⟩, .lst e (rr.weak hB)⟩
  · obtain ⟨v, h1, h2⟩ := r.sh j d (rCut1_at h).2 k
    exact ⟨v, h1, (h2.ext hN).stA mn ss⟩
  · obtain ⟨hj, h⟩ := rCut1_at h
    obtain ⟨b, h1, h2, h3⟩ := r.ow j d h k
    refine ⟨b, h1, by simp [oPut, hj, h2], ?_⟩
    cases h3 with
    | lst e3 r3 => exact .lst (q.st b _ e3 fun z => r.dis j b h2 (r.sub b z)) ((r3.ext hN).stA mn ss)
  · unfold oPut at h1 h2
    have no : ∀ j, O j ≠ some a := fun j z => by
      have := r.wd.mu a (.inr ⟨j, z⟩)
      rw [q.nw] at this
      exact this
    split at h1
    · cases h1
      split at h2
      · rename_i z1 z2; rw [z1, z2]
      · exact absurd h2 (no l)
    · split at h2
      · cases h2
        exact absurd h1 (no j)
      · exact r.inj j l b h1 h2
  · unfold oPut at h
    split at h
    · cases h
      exact r.wdA.new q.nw
    · exact r.dis j b h
theorem Fr.hold (r : Rl K T A Γ O ρ σ H) (q : PostN K T (AT A O) H H' p a) : Fr T Γ O (oPut O i a) σ σ H H' := by
  have r' := r.step q.st q.ok
  refine ⟨fun b o e n _ => q.st b o e n, fun j b h => ?_, fun j b h => r'.wd.mu b (.inr ⟨j, h⟩), fun j h => rfl⟩
  unfold oPut at h
  split at h
  · cases h; exact .inr q.nw
  · exact .inl ⟨j, h⟩
/-- the name comes -/
theorem Rl.take (r : Rl K T A Γ O ρ σ H) (hk : kAt Γ i = .ow) (hO : O i = some a) (o : Own K T (AT A O) H a p) : Rl K T A Γ O (rPut ρ i p) (σ.set i (some (.ref a))) H := by
  refine ⟨by rw [rPut_len, List.length_set, r.len], r.wd, r.sub, fun j d h k => ?_, fun j d h k => ?_, r.inj, r.dis⟩
  · have hj : j ≠ i := fun z => k (z ▸ hk)
    rw [rAt_put, if_neg hj] at h
    obtain ⟨v, h1, h2⟩ := r.sh j d h k
    exact ⟨v, by rw [List.getElem?_set_ne (Ne.symm hj)]; exact h1, h2⟩
  · rw [rAt_put] at h
    by_cases hj : j = i
    · subst hj
      rw [if_pos rfl] at h
      by_cases hl : j < ρ.length
      · rw [if_pos hl] at h
        cases h
        exact ⟨a, List.getElem?_set_self (by rw [← r.len]; exact hl), hO, o⟩
      · rw [if_neg hl] at h; cases h
    · rw [if_neg hj] at h
      obtain ⟨b, h1, h2, h3⟩ := r.ow j d h k
      exact ⟨b, by rw [List.getElem?_set_ne (Ne.symm hj)]; exact h1, h2, h3⟩
theorem Own.step (r : Rl K T A Γ O ρ σ H) (hO : O i = some a) (o : Own K T (AT A O) H a p) (s : Step T H H') : Own K T (AT A O) H' a p := by
  have nS : ¬ T.S a := fun q => r.dis i a hO (r.sub a q)
  cases o with
  | lst e rr => exact .lst (s a _ e nS) (rr.stA r.wd.mun (s.stA r.wd.sub))
end
section
variable {m : Type → Type} [PM m] {X : Cx} {Γ : List Kd} {ρ : Rh} {a b c : Expr} {x y w : m D} {pos : Pos} {E : List D → Rh}
theorem rPut_cut1 : ∀ {i : Nat} {ρ : Rh} {p : D}, rPut (rCut1 ρ i) i p = rPut ρ i p
  | _, [], _ => rfl
  | 0, _ :: _, _ => rfl
  | i + 1, x :: ρ, p => by
    show x :: rPut (rCut1 ρ i) i p = x :: rPut ρ i p
    rw [rPut_cut1]
theorem rPut_cut {i : Nat} {ρ : Rh} {p : D} : rPut (rCut ρ [i]) i p = rPut ρ i p := rPut_cut1
theorem rPut_swap {i j : Nat} {ρ : Rh} {p q : D} (h : i ≠ j) : rPut (rPut ρ i p) j q = rPut (rPut ρ j q) i p := by
  induction ρ generalizing i j with
  | nil => rfl
  | cons x ρ ih =>
    cases i with
    | zero =>
      cases j with
      | zero => exact absurd rfl h
      | succ j => rfl
    | succ i =>
      cases j with
      | zero => rfl
      | succ j =>
        show x :: rPut (rPut ρ i p) j q = x :: rPut (rPut ρ j q) i p
        rw [ih fun e => h (by rw [e])]
/-- an owner and a plain name -/
theorem SB.par2oh {i j : Nat} {y1 z1 : Str} {py pz pt : Pos} {kt k2 : Nat} {pt2 : Pos} (h1 : VNH X Γ ρ a x) (h2 : VH X Γ (rCut ρ [i]) b y) (hE : ∀ p q, E [p, q] = rPut (rPut ρ i p) j q) (hN : X.N.Nodup) (hij : i ≠ j := by decide) (hki : kAt Γ i = .ow := by rfl) (hkj : kAt Γ j = .sh := by rfl) (hc : X.calm = true := by rfl) (hi : X.N[i]? = some y1 := by rfl) (hj : X.N[j]? = some z1 := by rfl)
    (hy : X.env.scope.names.lookup y1 = some .local := by rfl) (hz : X.env.scope.names.lookup z1 = some .local := by rfl) (he1 : starEach [a, b] X.env = (false, eval a X.env) :: starEach [b] X.env := by rfl) (he2 : starEach [b] X.env = (false, eval b X.env) :: starEach [] X.env := by rfl) (hw : swappedStores [.Tuple [.Name y1 py, .Name z1 pz] kt pt] (.Tuple [a, b] k2 pt2) X.env = pure (some [y1, z1]) := by rfl) (hs : swapsWithSole [.Tuple [.Name y1 py, .Name z1 pz] kt pt] (.Tuple [a, b] k2 pt2) pos.line X.env = pure false := by rfl) :
    SB X Γ ρ (.Assign [.Tuple [.Name y1 py, .Name z1 pz] kt pt] (.Tuple [a, b] k2 pt2) pos) E (x >>= fun p => y >>= fun q => pure [p, q]) :=
  imS (ps_par hc hN hi hj hij hy hz (pa_cons h1 (pa_cons h2 pa_nil he2) he1) hw hs) fun D σ H ⟨T, A, O, r, q⟩ => by
    refine ⟨T, A, O, r, PM.mono (fun p q ad H1 o1 => ?_) ((PM.run_bind _ _ _).mp q)⟩
    obtain ⟨r1, w1⟩ := r.hold (i := i) o1
    have f1 := Fr.hold (i := i) r o1
    refine ⟨T, A, _, r1, PM.mono (fun d q v H2 o2 => ?_) ((PM.run_bind _ _ _).mp q)⟩
    have hO : oPut O i ad i = some ad := by simp [oPut]
    have w2 := w1.step r1 hO o2.st
    have r2 := r1.step o2.st o2.ok
    have f2 := f1.trans (Fr.step (σ := σ) r1 o2.st o2.ok) o1.ok o2.ok
    have q := (PM.run_pure _ _).mp q
    rw [hE] at q
    refine ⟨_, _, rfl, ?_⟩
    have r3 := r2.take hki hO w2
    rw [rPut_cut] at r3
    have r4 := r3.put o2.rp hkj
    exact q _ _ _ r4 ((f2.trans (Fr.put r2 (by rw [hki]; decide)) o2.ok o2.ok).trans (Fr.put r3 (by rw [hkj]; decide)) o2.ok o2.ok)
/-- two owners -/
theorem SB.par2oo {i j : Nat} {y1 z1 : Str} {py pz pt : Pos} {kt k2 : Nat} {pt2 : Pos} (h1 : VNH X Γ ρ a x) (h2 : VNH X Γ (rCut ρ [i]) b y) (hE : ∀ p q, E [p, q] = rPut (rPut ρ i p) j q) (hN : X.N.Nodup) (hij : i ≠ j := by decide) (hki : kAt Γ i = .ow := by rfl) (hkj : kAt Γ j = .ow := by rfl) (hc : X.calm = true := by rfl) (hi : X.N[i]? = some y1 := by rfl) (hj : X.N[j]? = some z1 := by rfl)
    (hy : X.env.scope.names.lookup y1 = some .local := by rfl) (hz : X.env.scope.names.lookup z1 = some .local := by rfl) (he1 : starEach [a, b] X.env = (false, eval a X.env) :: starEach [b] X.env := by rfl) (he2 : starEach [b] X.env = (false, eval b X.env) :: starEach [] X.env := by rfl) (hw : swappedStores [.Tuple [.Name y1 py, .Name z1 pz] kt pt] (.Tuple [a, b] k2 pt2) X.env = pure (some [y1, z1]) := by rfl) (hs : swapsWithSole [.Tuple [.Name y1 py, .Name z1 pz] kt pt] (.Tuple [a, b] k2 pt2) pos.line X.env = pure false := by rfl) :
    SB X Γ ρ (.Assign [.Tuple [.Name y1 py, .Name z1 pz] kt pt] (.Tuple [a, b] k2 pt2) pos) E (x >>= fun p => y >>= fun q => pure [p, q]) :=
  imS (ps_par hc hN hi hj hij hy hz (pa_cons h1 (pa_cons h2 pa_nil he2) he1) hw hs) fun D σ H ⟨T, A, O, r, q⟩ => by
    refine ⟨T, A, O, r, PM.mono (fun p q ad H1 o1 => ?_) ((PM.run_bind _ _ _).mp q)⟩
    obtain ⟨r1, w1⟩ := r.hold (i := i) o1
    have f1 := Fr.hold (i := i) r o1
    refine ⟨T, A, _, r1, PM.mono (fun d q v H2 o2 => ?_) ((PM.run_bind _ _ _).mp q)⟩
    have hO : oPut O i ad i = some ad := by simp [oPut]
    have w2 := w1.step r1 hO o2.st
    have r2 := r1.step o2.st o2.ok
    have f2 := f1.trans (Fr.step (σ := σ) r1 o2.st o2.ok) o1.ok o2.ok
    have q := (PM.run_pure _ _).mp q
    rw [hE] at q
    refine ⟨_, _, rfl, ?_⟩
    have r3 := r1.own hkj o2
    have f3 := Fr.own r1 hkj o2
    have hO3 : oPut (oPut O i ad) j v i = some ad := by simp [oPut, hij]
    have w3 : Own X.K T (AT A (oPut (oPut O i ad) j v)) H2 ad p := by
      have hB : ∀ b, AT A (oPut (oPut O i ad) j v) b → AT A (oPut O i ad) b ∨ H1 b = none := fun b h => by
        rcases h with h | ⟨l, h⟩
        · exact .inl (.inl h)
        · unfold oPut at h
          split at h
          · cases h; exact .inr o2.nw
          · exact .inl (.inr ⟨l, h⟩)
      have hN1 : MuN (AT A (oPut (oPut O i ad) j v)) H1 := fun b h => (hB b h).elim (fun z => .inr (r1.wd.mu b z)) .inl
      cases w1 with
      | lst e rr =>
        have nS : ¬ T.S ad := fun z => r1.dis i ad hO (r1.sub ad z)
        exact .lst (o2.st _ _ e nS) ((rr.ext hB).stA hN1 ((o2.st.stA r1.sub).weak fun b => .inl))
    have r4 := r3.take (i := i) hki hO3 w3
    rw [rPut_swap (Ne.symm hij), rPut_cut] at r4
    rw [List.set_comm _ _ (Ne.symm hij)] at r4
    have f4 : Fr T Γ (oPut O i ad) (oPut (oPut O i ad) j v) σ ((σ.set i (some (.ref ad))).set j (some (.ref v))) H1 H2 := by
      have g := f3.trans (Fr.put (i := i) (v := some (.ref ad)) r3 (by rw [hki]; decide)) o2.ok o2.ok
      rw [List.set_comm _ _ (Ne.symm hij)] at g
      exact g
    exact q _ _ _ r4 (f1.trans f4 o1.ok o2.ok)
/-- a plain name and an owner -/
theorem SB.par2ho {i j : Nat} {y1 z1 : Str} {py pz pt : Pos} {kt k2 : Nat} {pt2 : Pos} (h1 : VH X Γ ρ a x) (h2 : VNH X Γ ρ b y) (hE : ∀ p q, E [p, q] = rPut (rPut ρ i p) j q) (hN : X.N.Nodup) (hij : i ≠ j := by decide) (hki : kAt Γ i = .sh := by rfl) (hkj : kAt Γ j = .ow := by rfl) (hc : X.calm = true := by rfl) (hi : X.N[i]? = some y1 := by rfl) (hj : X.N[j]? = some z1 := by rfl)
    (hy : X.env.scope.names.lookup y1 = some .local := by rfl) (hz : X.env.scope.names.lookup z1 = some .local := by rfl) (he1 : starEach [a, b] X.env = (false, eval a X.env) :: starEach [b] X.env := by rfl) (he2 : starEach [b] X.env = (false, eval b X.env) :: starEach [] X.env := by rfl) (hw : swappedStores [.Tuple [.Name y1 py, .Name z1 pz] kt pt] (.Tuple [a, b] k2 pt2) X.env = pure (some [y1, z1]) := by rfl) (hs : swapsWithSole [.Tuple [.Name y1 py, .Name z1 pz] kt pt] (.Tuple [a, b] k2 pt2) pos.line X.env = pure false := by rfl) :
    SB X Γ ρ (.Assign [.Tuple [.Name y1 py, .Name z1 pz] kt pt] (.Tuple [a, b] k2 pt2) pos) E (x >>= fun p => y >>= fun q => pure [p, q]) :=
  imS (ps_par hc hN hi hj hij hy hz (pa_cons h1 (pa_cons h2 pa_nil he2) he1) hw hs) fun D σ H ⟨T, A, O, r, q⟩ => by
    refine ⟨T, A, O, r, PM.mono (fun p q u H1 o1 => ?_) ((PM.run_bind _ _ _).mp q)⟩
    have r1 := r.step o1.st o1.ok
    have f1 := Fr.step (σ := σ) r o1.st o1.ok
    refine ⟨T, A, O, r1, PM.mono (fun d q v H2 o2 => ?_) ((PM.run_bind _ _ _).mp q)⟩
    have q := (PM.run_pure _ _).mp q
    rw [hE] at q
    refine ⟨_, _, rfl, ?_⟩
    have r3 := r1.own hkj o2
    have f3 := Fr.own r1 hkj o2
    have hB : ∀ b, AT A (oPut O j v) b → AT A O b ∨ H1 b = none := fun b h => by
      rcases h with h | ⟨l, h⟩
      · exact .inl (.inl h)
      · unfold oPut at h
        split at h
        · cases h; exact .inr o2.nw
        · exact .inl (.inr ⟨l, h⟩)
    have hN1 : MuN (AT A (oPut O j v)) H1 := fun b h => (hB b h).elim (fun z => .inr (r1.wd.mu b z)) .inl
    have rp := (o1.rp.ext hB).stA hN1 ((o2.st.stA r1.sub).weak fun b => .inl)
    have r4 := r3.put (i := i) rp hki
    rw [rPut_swap (Ne.symm hij)] at r4
    rw [List.set_comm _ _ (Ne.symm hij)] at r4
    have f4 : Fr T Γ O (oPut O j v) σ ((σ.set i (some u)).set j (some (.ref v))) H1 H2 := by
      have g := f3.trans (Fr.put (i := i) (v := some u) r3 (by rw [hki]; decide)) o2.ok o2.ok
      rw [List.set_comm _ _ (Ne.symm hij)] at g
      exact g
    exact q _ _ _ r4 (f1.trans f4 o1.ok o2.ok)
/-- an owner and two plain names -/
theorem SB.par3ohh {i j l : Nat} {y1 z1 w1 : Str} {py pz pw pt : Pos} {kt k2 : Nat} {pt2 : Pos} (h1 : VNH X Γ ρ a x) (h2 : VH X Γ (rCut ρ [i]) b y) (h3 : VH X Γ (rCut ρ [i]) c w) (hE : ∀ p q s, E [p, q, s] = rPut (rPut (rPut ρ i p) j q) l s) (hN : X.N.Nodup) (hij : i ≠ j := by decide) (hil : i ≠ l := by decide) (hjl : j ≠ l := by decide) (hki : kAt Γ i = .ow := by rfl) (hkj : kAt Γ j = .sh := by rfl) (hkl : kAt Γ l = .sh := by rfl) (hc : X.calm = true := by rfl) (hi : X.N[i]? = some y1 := by rfl) (hj : X.N[j]? = some z1 := by rfl) (hl : X.N[l]? = some w1 := by rfl)
    (hy : X.env.scope.names.lookup y1 = some .local := by rfl) (hz : X.env.scope.names.lookup z1 = some .local := by rfl) (hw1 : X.env.scope.names.lookup w1 = some .local := by rfl) (he1 : starEach [a, b, c] X.env = (false, eval a X.env) :: starEach [b, c] X.env := by rfl) (he2 : starEach [b, c] X.env = (false, eval b X.env) :: starEach [c] X.env := by rfl) (he3 : starEach [c] X.env = (false, eval c X.env) :: starEach [] X.env := by rfl)
    (hw : swappedStores [.Tuple [.Name y1 py, .Name z1 pz, .Name w1 pw] kt pt] (.Tuple [a, b, c] k2 pt2) X.env = pure (some [y1, z1, w1]) := by rfl) (hs : swapsWithSole [.Tuple [.Name y1 py, .Name z1 pz, .Name w1 pw] kt pt] (.Tuple [a, b, c] k2 pt2) pos.line X.env = pure false := by rfl) :
    SB X Γ ρ (.Assign [.Tuple [.Name y1 py, .Name z1 pz, .Name w1 pw] kt pt] (.Tuple [a, b, c] k2 pt2) pos) E (x >>= fun p => y >>= fun q => w >>= fun s => pure [p, q, s]) :=
  imS (ps_par3 hc hN hi hj hl hij hil hjl hy hz hw1 (pa_cons h1 (pa_cons h2 (pa_cons h3 pa_nil he3) he2) he1) hw hs) fun D σ H ⟨T, A, O, r, q⟩ => by
    refine ⟨T, A, O, r, PM.mono (fun p q ad H1 o1 => ?_) ((PM.run_bind _ _ _).mp q)⟩
    obtain ⟨r1, w1⟩ := r.hold (i := i) o1
    have f1 := Fr.hold (i := i) r o1
    refine ⟨T, A, _, r1, PM.mono (fun d q v H2 o2 => ?_) ((PM.run_bind _ _ _).mp q)⟩
    have hO : oPut O i ad i = some ad := by simp [oPut]
    have w2 := w1.step r1 hO o2.st
    have r2 := r1.step o2.st o2.ok
    have f2 := f1.trans (Fr.step (σ := σ) r1 o2.st o2.ok) o1.ok o2.ok
    refine ⟨T, A, _, r2, PM.mono (fun e q u H3 o3 => ?_) ((PM.run_bind _ _ _).mp q)⟩
    have w3 := w2.step r2 hO o3.st
    have r3 := r2.step o3.st o3.ok
    have f3 := f2.trans (Fr.step (σ := σ) r2 o3.st o3.ok) o2.ok o3.ok
    have q := (PM.run_pure _ _).mp q
    rw [hE] at q
    refine ⟨_, _, _, rfl, ?_⟩
    have r4 := r3.take hki hO w3
    rw [rPut_cut] at r4
    have r5 := r4.put (o2.rp.stA r2.wd.mun (o3.st.stA r2.wd.sub)) hkj
    have r6 := r5.put o3.rp hkl
    exact q _ _ _ r6 (((f3.trans (Fr.put r3 (by rw [hki]; decide)) o3.ok o3.ok).trans (Fr.put r4 (by rw [hkj]; decide)) o3.ok o3.ok).trans (Fr.put r5 (by rw [hkl]; decide)) o3.ok o3.ok)
theorem ln2 {x y : m D} (K : List D → Prop) (h : PM.run (x >>= fun p => y >>= fun q => pure [p, q]) K) : PM.run (x >>= fun p => y >>= fun q => (pure [p, q] : m (List D))) fun l => K l ∧ l.length = 2 := by
  rw [PM.run_bind] at h ⊢
  refine PM.mono (fun p h => ?_) h
  rw [PM.run_bind] at h ⊢
  refine PM.mono (fun q h => ?_) h
  rw [PM.run_pure] at h ⊢
  exact ⟨h, rfl⟩
theorem ln3 {x y w : m D} (K : List D → Prop) (h : PM.run (x >>= fun p => y >>= fun q => w >>= fun s => pure [p, q, s]) K) : PM.run (x >>= fun p => y >>= fun q => w >>= fun s => (pure [p, q, s] : m (List D))) fun l => K l ∧ l.length = 3 := by
  rw [PM.run_bind] at h ⊢
  refine PM.mono (fun p h => ?_) h
  rw [PM.run_bind] at h ⊢
  refine PM.mono (fun q h => ?_) h
  rw [PM.run_bind] at h ⊢
  refine PM.mono (fun s h => ?_) h
  rw [PM.run_pure] at h ⊢
  exact ⟨h, rfl⟩
theorem SB.eqv {α : Type} {s : Stmt} {E : α → Rh} {x y : m α} (h : SB X Γ ρ s E x) (i : ∀ K, PM.run y K → PM.run x K) : SB X Γ ρ s E y := imS h fun D σ H ⟨T, A, O, r, q⟩ => ⟨T, A, O, r, i _ q⟩
/-! ## name op= e -/
theorem SB.augI {op : Operator} {f : Int → Int → Int} {e : Expr} {i : Nat} {y1 : Str} {py : Pos} {q0 : D} {g : D → D → Option D} {E : D → Rh} (ho : PIp X op (ipI f)) (hg : ∀ p q d, g p q = some d → ∃ i j, p = .int i ∧ q = .int j ∧ d = .int (f i j)) (h : VE X ρ e x) (hr : rAt ρ i = some q0) (hE : ∀ p, E p = rPut ρ i p) (hN : X.N.Nodup) (hk : kAt Γ i = .sh := by rfl) (hi : X.N[i]? = some y1 := by rfl) (hx : Loc X.env.scope y1 := by first | exact Or.inl rfl | exact Or.inr rfl) (hf : X.fn y1 = true ∨ X.env.scope.names.lookup y1 = some .local := by first | exact .inl rfl | exact .inr rfl) :
    SB X Γ ρ (.AugAssign (.Name y1 py) op e pos) E (x >>= fun p => PM.lift (g q0 p)) :=
  imB (imS (ps_aug hN hi hx h ho hf) fun D σ H ⟨T, A, O, r, q⟩ => by
    obtain ⟨v, h1, h2⟩ := r.all.val i q0 hr
    refine ⟨v, h1, T, A, r.wdA, r.all, PM.mono (fun p q u H' o => ?_) ((PM.run_bind _ _ _).mp q)⟩
    rw [PM.run_lift] at q
    obtain ⟨d, e, q⟩ := q
    obtain ⟨a, b, rfl, rfl, rfl⟩ := hg _ _ _ e
    have o2 := o.rp
    cases o2
    cases h2
    refine ⟨a, b, rfl, rfl, ?_⟩
    have r1 := r.step o.st o.ok
    exact q _ _ O (r1.put (.int _) hk) ((Fr.step r o.st o.ok).trans (Fr.put r1 (by rw [hk]; decide)) o.ok o.ok)) hE
def dAddI : D → D → Option D
  | .int i, .int j => some (.int (i + j))
  | _, _ => none
theorem dAddI_ok (p q d : D) (h : dAddI p q = some d) : ∃ i j, p = .int i ∧ q = .int j ∧ d = .int (i + j) := by
  cases p with
  | int i =>
    cases q with
    | int j => cases h; exact ⟨i, j, rfl, rfl, rfl⟩
    | _ => cases h
  | _ => cases h
theorem dSub_ok (p q d : D) (h : dSub p q = some d) : ∃ i j, p = .int i ∧ q = .int j ∧ d = .int (i - j) := by
  cases p with
  | int i =>
    cases q with
    | int j => cases h; exact ⟨i, j, rfl, rfl, rfl⟩
    | _ => cases h
  | _ => cases h
/-- never come to -/
theorem VT.dead : VT (m := m) X Γ ρ [] fail := imSs pss_nil fun D σ H ⟨T, A, O, r, w⟩ => by
  obtain ⟨_, e, _⟩ := (PM.run_lift _ _).mp w
  cases e
end
end Qv

namespace Qv
open PySem PySem.Spec PyProof.Rows L2
/-! ## enumerate(a tuple) -/
section
open AutoSeq1 (wpAny_loadPart')
theorem enum_newT (t : Addr) (its : Array Value) (oc : Value) (od : Option Addr) (dt : Data) (sl : Array (Option Value)) (hc : oc = .type "tuple") (hd : ∃ n, dt = .seq its n) :
    Meets (Builtin.«enumerate.__new__» ⟨[.type "enumerate", .ref t], []⟩) (fun _ R s => s.heap.get? t = some ⟨oc, od, dt, sl⟩ ∧ R (.ok (.ret (.ref (s.heap.objs.size + 1)))) { s with heap := (s.heap.push { cls := .type "tuple_iterator", data := .fields #[.ref t, .int 0 0] }).push { cls := .type "enumerate", data := .fields #[.none, .bool false, .ref s.heap.objs.size, rawInt 0, .none, .none] } }) :=
  .of_wp fun prog w A R s h => by
    obtain ⟨hp, g, d, tk, os⟩ := s
    obtain ⟨hl, h⟩ := h
    obtain ⟨n, hd⟩ := hd
    subst hc hd
    have hsub := sub_enumerate
    have hT : Heap.IsTuple (Shared.heap ⟨hp, g, d, tk, os⟩) t its := ⟨_, hl, rfl, n, rfl⟩
    have hz : (hp.push { cls := .type "tuple_iterator", data := .fields #[.ref t, .int 0 0] }).objs.size = hp.objs.size + 1 := Heap.size_push ..
    rw [← hz] at h
    wp_walk using wpAny_loadPart' hl
    refine wpAny_stack_any fun st => wpAny_pure ?_
    split
    · rename_i c _ _ _ _ _
      cases (c == Value.type "enumerate") <;> (wp_walk using wpAny_loadPart' hl, wpAny_pyIter_tuple hT; exact ⟨_, rfl, h⟩)
    · wp_walk using wpAny_loadPart' hl, wpAny_pyIter_tuple hT
      exact ⟨_, rfl, h⟩
theorem call_enumT {prog : Program} {w : World} {A : Around} {E : Value → Shared → Prop} {s : Shared} {t : Addr} {its : Array Value} {Q : Value → Shared → Prop} (hL : IsTup s.heap t its)
    (h : ∀ h', IsEnum h' (s.heap.objs.size + 1) s.heap.objs.size 0 .none → h'.IsTupleIter s.heap.objs.size t 0 → h'.objs.size = s.heap.objs.size + 2 → (∀ b o, s.heap.get? b = some o → h'.get? b = some o) → Q (.ref (s.heap.objs.size + 1)) { s with heap := h' }) :
    wpAny (model prog w) A (call (.type "enumerate") [.ref t]) Q E s := by
  obtain ⟨⟨oc, od, dt, sl⟩, hl, hc, hd⟩ := hL
  refine callType_new F.called_enumerate (by decide) (F.typeCall_enumerate_1 _) (F.newCall_enumerate_1 _) (fun obj => F.args_object_init_2 obj _) F.entry_enumerate_new (enum_newT t its oc od dt sl hc hd) ⟨hl, ?_⟩
  have hz : (s.heap.push { cls := .type "tuple_iterator", data := .fields #[.ref t, .int 0 0] }).objs.size = s.heap.objs.size + 1 := Heap.size_push ..
  have he := Heap.get?_push_size (s.heap.push { cls := .type "tuple_iterator", data := .fields #[.ref t, .int 0 0] }) (o := { cls := .type "enumerate", data := .fields #[.none, .bool false, .ref s.heap.objs.size, rawInt 0, .none, .none] }) rfl
  rw [hz] at he
  exact ⟨⟨_, he, rfl⟩, h _ he ⟨_, Heap.get?_push_of_some _ (Heap.get?_push_size _ rfl), rfl, rfl⟩ (by rw [Heap.size_push, hz]) fun b o x => Heap.get?_push_of_some _ (Heap.get?_push_of_some _ x)⟩
end
def IteT (K : PySem.W.Frag) (a : Addr) : It where
  go := fun i H => ∃ (xs : List V) (x : V), SqT K H a xs ∧ xs[i]? = some x
  yld := fun i H v H' => ∃ T x, v = .ref T ∧ H T = none ∧ H' = upd H T (.tup [.int (i : Nat), x]) ∧ ∀ xs, SqT K H a xs → xs[i]? = some x
  stop := fun i H => ∃ xs : List V, SqT K H a xs ∧ xs.length ≤ i
theorem tupIter_at {h h' : Heap} {it t : Addr} {i : Nat} (x : h.IsTupleIter it t i) (k : ∀ o, h.get? it = some o → h'.get? it = some o) : h'.IsTupleIter it t i := let ⟨o, e, r⟩ := x; ⟨o, k o e, r⟩
theorem turn_enumT {P : Program} {w : World} {K : PySem.W.Frag} {elts : List Expr} {kk : Nat} {tpos : Pos} (a e it : Addr) : Turn P w K (.Tuple elts kk tpos) (IteT K a) [e, it] e (fun i h => (∃ old, IsEnum h e it ((i : Nat) : Int) old) ∧ h.IsTupleIter it a i ∧ e ≠ it ∧ a ≠ it) where
  mem := by simp
  obj := fun i h ⟨⟨old, he⟩, ⟨o, ho, hc, hd⟩, _⟩ b hb => by
    have hb : b = e ∨ b = it := by simpa using hb
    rcases hb with z | z
    · rw [z]; exact ⟨_, he, fun v q => (nomatch q)⟩
    · rw [z]; exact ⟨o, ho, fun v q => by rw [hd] at q; cases q⟩
  keep := fun i h h' ⟨⟨old, he⟩, hi, hne⟩ k => ⟨⟨old, k e (by simp) _ he⟩, tupIter_at hi fun o q => k it (by simp) o q, hne⟩
  item := by
    intro X hP hw hK hc i pins s σ H E I hf st hg
    subst hP hw hK
    obtain ⟨⟨old, he⟩, hit, hne, hna⟩ := st
    obtain ⟨xs, x, hq, hx⟩ := hg
    obtain ⟨its, rv, p, hz⟩ := I.tuple hq
    obtain ⟨u, hu, ru⟩ := rv.get hx
    have hel : e < s.heap.objs.size := Heap.lt_size he
    have hil : it < s.heap.objs.size := by obtain ⟨_, q, _⟩ := hit; exact Heap.lt_size q
    have hlt : i < its.toArray.size := by
      have := (List.getElem?_eq_some_iff.mp hu).1
      simpa using this
    have nea : e ≠ a := fun z => by
      obtain ⟨o, e1, c1, _⟩ := p
      rw [← z, he] at e1
      have e1 := Option.some.inj e1
      rw [← e1] at c1
      exact absurd c1 (by simp)
    have nef : e ∉ [it, a] := by simp [hne, nea]
    refine wpAny_pyNext_enum_itemD (Draws.tuple (A := X.A.in1) (I.ok.hd hc) it a hna its.toArray) he ⟨hit, p⟩ hlt hne nef fun u2 h' tk hu2 ho hit' hT hsz hk => ?_
    have eu : u2 = u := by
      have h3 : its.toArray[i]? = some u := by simpa using hu
      rw [h3] at hu2
      exact (Option.some.inj hu2).symm
    subst eu
    refine ⟨_, rfl, wpAny_letOwnedTupleGo_enum (s := { s with heap := h', toks := tk + 1 }) ho fun h'' he' sb => ?_⟩
    have hT2 : h''.get? s.heap.objs.size = some { cls := .type "tuple", data := .seq #[.int i tk, u2] } := (sb.2 _ (Nat.ne_of_gt hel)).trans hT
    have new : ObjOk X.prog X.w (upd H s.heap.objs.size (.tup [.int (i : Nat), x])) h'' s.heap.objs.size (.tup [.int (i : Nat), x]) :=
      ⟨by show 2 ≤ sizeLine; decide, [.int i tk, u2], .cons ⟨_, rfl⟩ (.cons ru .nil), ⟨_, hT2, rfl, _, rfl⟩⟩
    have I1 : Inv X pins σ (upd H s.heap.objs.size (.tup [.int (i : Nat), x])) { s with heap := h'', toks := tk + 1 } :=
      I.turnedNew (ch := [e, it]) (fun b ob hb q => (sb.2 b fun z => hb (by simp [z])).trans (hk b ob (fun z => hb (by simp [z])) (fun z => hb (by simp [z])) q)) hf (Nat.le_refl _) new
    refine ⟨.ref s.heap.objs.size, _, I1, rfl, ⟨_, x, rfl, I.hok.fresh (Nat.le_refl _), rfl, fun ys hy => ?_⟩, ⟨⟨u2, ?_⟩, tupIter_at hit'.1 fun o q => (sb.2 it (Ne.symm hne)).trans q, hne, hna⟩, fun b hb => ?_⟩
    · obtain ⟨its', rv', p', _⟩ := I.tuple hy
      obtain ⟨o1, e1, _, n1, d1⟩ := p
      obtain ⟨o2, e2, _, n2, d2⟩ := p'
      rw [e1] at e2
      cases e2
      rw [d1] at d2
      injection d2 with d3 _
      have ei : its = its' := by simpa using congrArg Array.toList d3
      subst ei
      have := rv.inj rv'
      rw [← this]; exact hx
    · have e1 : ((i + 1 : Nat) : Int) = (i : Int) + 1 := by omega
      rw [e1]; exact he'
    · have hb' : b < s.heap.objs.size := by
        have hb : b = e ∨ b = it := by simpa using hb
        rcases hb with z | z
        · rw [z]; exact hel
        · rw [z]; exact hil
      rw [upd_ne (Nat.ne_of_lt hb')]
      exact (hf b hb).1
  done := by
    intro X hP hw hK hc i pins s σ H E I hf st hg
    subst hP hw hK
    obtain ⟨⟨old, he⟩, hit, hne, hna⟩ := st
    obtain ⟨xs, hq, hx⟩ := hg
    obtain ⟨its, rv, p, hz⟩ := I.tuple hq
    obtain ⟨f0, f1, f2, f3, f4, f5⟩ := hf it (by simp)
    have hl := rv.length
    have hn : its.toArray[i]? = none := by simp; omega
    have D : Draws X.prog X.w X.A.in1 it [it, a] i (fun _ _ => False) (fun j h => j = i ∧ h.IsTupleIter it a i ∧ h.IsTuple a its.toArray) :=
      { live := fun _ _ st => let ⟨o, ho, _⟩ := st.2.1; ⟨o, ho⟩
        frame := fun _ _ _ st hk => ⟨st.1, tupIter_at st.2.1 fun o q => hk it (by simp) o q, let ⟨o, ho, r⟩ := st.2.2; ⟨o, hk a (by simp) o ho, r⟩⟩
        item := fun j s Q E hj st => absurd st.1 (Nat.ne_of_lt hj)
        done := fun s Q E st hE => wpAny_nextOf_tuple_end (A := X.A.in1) (I.ok.hd hc) st.2.1 st.2.2 hn hE }
    exact wpAny_pyNext_enum_endD D he ⟨rfl, hit, p⟩ fun h' eb => ⟨rfl, I.turned (t' := s.toks) (fun b o hb q => eb b o hb q) f0 f1 f3 f4 f5⟩
  self := fun A i s Q E st h => let ⟨⟨_, he⟩, _⟩ := st; wpAny_pyIter_enum he h
def iEnumA (K : PySem.W.Frag) (ta : TA) : TI := fun σ H R => ta σ H fun vs H1 => ∃ a xs, vs = [.ref a] ∧ ((SqL K H1 a xs ∧ R (Ite K a) H1) ∨ (SqT K H1 a xs ∧ R (IteT K a) H1))
theorem pi_enumA {X : Cx} {e : Expr} {ta : TA} {p pos tpos : Pos} {elts : List Expr} {kk : Nat} (hg : Gl X "enumerate") (hm : X.mg "enumerate" = none) (ha : PA X [e] ta) (hs : starEach [e] X.env = [(false, eval e X.env)] := by rfl) :
    PI X (.Tuple elts kk tpos) (.Call (.Name "enumerate" p) [e] [] pos) (iEnumA X.K ta) := by
  refine ⟨fun pins s σ H R I h => ?_⟩
  refine Call_ (ld_blt I hg hm boot_enumerate (PyProof.Rows.callWith_type1 (thn (ha.run pos pins s σ H _ I h) fun us s1 ⟨vs, H1, I1, r1, q1⟩ => ?_) hs rfl))
  obtain ⟨a, xs, ex, q1⟩ := q1
  subst ex
  cases r1 with
  | cons r rr =>
    cases rr
    cases r
    have fp : ∀ b ∈ [s1.heap.objs.size + 1, s1.heap.objs.size], FpOk X pins H1 b := fun b hb => by
      have hle : s1.heap.objs.size ≤ b := by
        have hb : b = s1.heap.objs.size + 1 ∨ b = s1.heap.objs.size := by simpa using hb
        rcases hb with z | z <;> omega
      exact I1.fpOk hle (I1.hok.fresh hle)
    rcases q1 with ⟨hq, q⟩ | ⟨hq, q⟩
    · obtain ⟨its, rv, p', hz⟩ := I1.list hq
      refine call_enumerate_list p'.isList fun h' he hit hsz hk => wpAny_pyIter_enum he ?_
      exact ⟨s1.heap.objs.size + 1, [s1.heap.objs.size + 1, s1.heap.objs.size], _, _, H1, rfl, I1.kept (t' := s1.toks) hk, turn_enum a (s1.heap.objs.size + 1) s1.heap.objs.size, ⟨⟨.none, he⟩, hit, Nat.succ_ne_self _⟩, fp, q⟩
    · obtain ⟨its, rv, p', hz⟩ := I1.tuple hq
      have hlt : a < s1.heap.objs.size := by obtain ⟨o, e, _⟩ := p'; exact Heap.lt_size e
      refine call_enumT p' fun h' he hit hsz hk => wpAny_pyIter_enum he ?_
      exact ⟨s1.heap.objs.size + 1, [s1.heap.objs.size + 1, s1.heap.objs.size], _, _, H1, rfl, I1.kept (t' := s1.toks) hk, turn_enumT a (s1.heap.objs.size + 1) s1.heap.objs.size, ⟨⟨.none, he⟩, hit, Nat.succ_ne_self _, Nat.ne_of_lt hlt⟩, fp, q⟩
theorem itEnumT {K : PySem.W.Frag} {T : Tk} {A : Addr → Prop} {a : Addr} {us : List V} {ds : List D} {H0 : Hp} (h : SqT K H0 a us) (r : Reps K T A H0 us ds) (w0 : Wd T A H0) : ItOk K T A (IteT K a) (enumFrom 0 ds) H0 := fun B hB i H w s => by
  have hs : SqT K H a us := sqT_stA (munB w0 hB) h s
  have r2 := (r.ext hB).stA (munB w0 hB) s
  refine ⟨fun p e => ?_, fun e => ⟨us, hs, by rw [enum_len] at e; rw [r.length]; exact e⟩⟩
  obtain ⟨d, e0, rfl⟩ := enum_get e
  obtain ⟨v, e1, r1⟩ := r2.get e0
  refine ⟨⟨us, v, hs, e1⟩, fun x H' ⟨t, x1, ex, nt, eH, y⟩ => ?_⟩
  subst ex eH
  have e3 := y us hs
  rw [e1] at e3
  cases e3
  rw [Nat.zero_add]
  exact new_tup w nt (.cons (.int _) (.cons r1 .nil))
def enumA : List D → Option (List D)
  | [.list xs] => some (enumFrom 0 xs)
  | [.tuple xs] => some (enumFrom 0 xs)
  | _ => none
section
variable {m : Type → Type} [PM m] {X : Cx} {ρ : Rh} {a : Expr} {xs : m (List D)} {pos : Pos}
theorem VI.enumA {p tpos : Pos} {elts : List Expr} {kk : Nat} (hm : X.mg "enumerate" = none) (ha : VA X ρ [a] xs) (hg : Gl X "enumerate" := by rfl) (hs : starEach [a] X.env = [(false, eval a X.env)] := by rfl) : VI X ρ (.Tuple elts kk tpos) (.Call (.Name "enumerate" p) [a] [] pos) (xs >>= fun l => PM.lift (Qv.enumA l)) :=
  imI (pi_enumA hg hm ha.pa hs) fun σ H R ⟨T, A, w, ev, q⟩ => by
    rw [PM.run_bind] at q
    refine ⟨T, A, w, ev, PM.mono (fun l q vs H1 s1 o1 r1 => ?_) q⟩
    rw [PM.run_lift] at q
    obtain ⟨ps, e1, q⟩ := q
    match l, e1 with
    | [.list ds], e1 =>
      obtain ⟨v, rfl, rv⟩ := reps1 r1
      cases rv with
      | lst n h r => cases e1; exact ⟨_, _, rfl, .inl ⟨SqL.of h, q _ _ s1 o1 (itEnum n h r (w.step s1 o1))⟩⟩
    | [.tuple ds], e1 =>
      obtain ⟨v, rfl, rv⟩ := reps1 r1
      cases rv with
      | tup h r => cases e1; exact ⟨_, _, rfl, .inr ⟨h, q _ _ s1 o1 (itEnumT h r (w.step s1 o1))⟩⟩
end
end Qv

namespace Qv
open PySem PySem.Spec PyProof.Rows L2
/-! ## constants of the module: tuples of numbers, texts, tuples -/
def mapO (f : Value → Option D) : List Value → Option (List D)
  | [] => some []
  | v :: vs => match f v, mapO f vs with
    | some d, some ds => some (d :: ds)
    | _, _ => none
def kdat (K : PySem.W.Frag) : Nat → Value → Option D
  | 0, _ => none
  | n + 1, v => match v with
    | .none => some .none
    | .bool b => some (.bool b)
    | .int i _ => some (.int i)
    | .str x _ => some (.str x)
    | .ref a => match K.lookup a with
      | some o => match o.cls, o.data with
        | .type t, .seq its _ => if (t == "tuple") && decide (its.size ≤ 1000) then (mapO (kdat K n) its.toList).map .tuple else none
        | _, _ => none
      | none => none
    | _ => none
theorem mapO_rep {K : PySem.W.Frag} {T : Tk} {A : Addr → Prop} {H : Hp} {f : Value → Option D} (hf : ∀ v d, f v = some d → ∃ u, RelV u v ∧ Rep K T A H u d) : ∀ {vs : List Value} {ds : List D}, mapO f vs = some ds → ∃ us, Vals us vs ∧ Reps K T A H us ds
  | [], _, h => by cases h; exact ⟨[], .nil, .nil⟩
  | v :: vs, ds, h => by
    unfold mapO at h
    cases e1 : f v with
    | none => rw [e1] at h; cases h
    | some d =>
      cases e2 : mapO f vs with
      | none => rw [e1, e2] at h; cases h
      | some es =>
        rw [e1, e2] at h
        cases h
        obtain ⟨u, h1, h2⟩ := hf v d e1
        obtain ⟨us, h3, h4⟩ := mapO_rep hf e2
        exact ⟨u :: us, .cons h1 h3, .cons h2 h4⟩
theorem kdat_rep {K : PySem.W.Frag} {T : Tk} {A : Addr → Prop} {H : Hp} : ∀ {n : Nat} {v : Value} {d : D}, kdat K n v = some d → ∃ u, RelV u v ∧ Rep K T A H u d
  | n + 1, v, d, h => by
    unfold kdat at h
    split at h
    · cases h; exact ⟨.non, rfl, .non⟩
    · cases h; exact ⟨.bl _, rfl, .bl _⟩
    · cases h; exact ⟨.int _, ⟨_, rfl⟩, .int _⟩
    · cases h; exact ⟨.str _, ⟨_, rfl⟩, .str _⟩
    · rename_i a
      split at h
      · rename_i o ho
        split at h
        · rename_i t its n2 hc hd
          by_cases q : ((t == "tuple") && decide (its.size ≤ 1000)) = true
          · rw [if_pos q] at h
            simp only [Bool.and_eq_true, beq_iff_eq, decide_eq_true_eq] at q
            cases e : mapO (kdat K n) its.toList with
            | none => rw [e] at h; cases h
            | some ds =>
              rw [e] at h
              cases h
              obtain ⟨us, h3, h4⟩ := mapO_rep (fun v d => kdat_rep (n := n)) e
              exact ⟨.ref a, rfl, .tup (.inr ⟨o, its, n2, ho, by rw [hc, q.1], hd, Nat.le_trans q.2 (by decide), h3⟩) h4⟩
          · rw [if_neg q] at h; cases h
        · cases h
      · cases h
    · cases h
/-- the module's name x stands for d -/
def GC (K : PySem.W.Frag) (mg : Str → Option Value) (x : Str) (d : D) : Prop := ∃ v, mg x = some v ∧ kdat K 10 v = some d
section
variable {m : Type → Type} [PM m] {X : Cx} {ρ : Rh} {pos : Pos}
theorem VE.glob {x : Str} {d : D} (h : GC X.K X.mg x d) (hg : Gl X x := by rfl) (hdb : (x == ("__debug__" : Str)) = false := by decide) : VE (m := m) X ρ (.Name x pos) (pure d) := by
  obtain ⟨v, h1, h2⟩ := h
  refine ⟨fun pins s σ H Q I ⟨T, A, w, ev, q⟩ => ?_⟩
  obtain ⟨u, r, p⟩ := kdat_rep (T := T) (A := A) (H := H) h2
  rw [PM.run_pure] at q
  exact ld_glob I hg h1 ⟨u, H, I, r, q _ _ (.same w p)⟩ hdb
end
end Qv

namespace Qv
open PySem PySem.Spec PyProof.Rows L2
/-! ## list(range(..)), tuple(range(..)) -/
theorem reps_rg {K : PySem.W.Frag} {T : Tk} {A : Addr → Prop} {H : Hp} {a b : Int} : Reps K T A H (rgV a b) (rgL a (b - a).toNat) := by
  unfold rgV rgL
  generalize List.range (b - a).toNat = l
  induction l with
  | nil => exact .nil
  | cons i l ih => exact .cons (.int _) ih
def rgOk (a b : Int) : Bool := okR a && okR b && decide ((b - a).toNat ≤ 2 ^ 24)
theorem rgOk_of {a b : Int} (h : rgOk a b = true) : RgOk a b := by
  simp only [rgOk, okR, Bool.and_eq_true, decide_eq_true_eq] at h
  exact ⟨h.1.1.1, h.1.1.2, h.1.2.1, h.1.2.2, h.2⟩
def rgM1 : D → Option (List D)
  | .int n => if rgOk 0 n then some (rgL 0 (n - 0).toNat) else none
  | _ => none
def rgM2 : D → D → Option (List D)
  | .int a, .int b => if rgOk a b then some (rgL a (b - a).toNat) else none
  | _, _ => none
section
variable {m : Type → Type} [PM m] {X : Cx} {ρ : Rh} {a b e : Expr} {xa xb : m D} {pos : Pos}
theorem VN.listR1 {p p2 p3 : Pos} (hml : X.mg "list" = none) (hmr : X.mg "range" = none) (ha : VE X ρ a xa) (hgl : Gl X "list" := by rfl) (hgr : Gl X "range" := by rfl) (n1 : starEach [a] X.env = (false, eval a X.env) :: starEach [] X.env := by rfl)
    (n2 : starEach [.Call (.Name "range" p2) [a] [] p3] X.env = (false, eval (.Call (.Name "range" p2) [a] [] p3) X.env) :: starEach [] X.env := by rfl) (hc : X.calm = true := by rfl) :
    VN X ρ (.Call (.Name "list" p) [.Call (.Name "range" p2) [a] [] p3] [] pos) (xa >>= fun p => PM.lift ((rgM1 p).map .list)) :=
  imE (pe_listRg hc hgl hml (prg_1 hgr hmr ha n1) n2) fun σ H Q ⟨T, A, w, ev, q⟩ => by
    refine ⟨T, A, w, ev, PM.mono (fun p q v H1 o => ?_) ((PM.run_bind _ _ _).mp q)⟩
    rw [PM.run_lift] at q
    obtain ⟨d, e, q⟩ := q
    cases p with
    | int n =>
      have rp := o.rp
      cases rp
      by_cases h : rgOk 0 n = true
      · simp only [rgM1, if_pos h, Option.map_some, Option.some.injEq] at e
        subst e
        exact ⟨n, rfl, rgOk_of h, fun t nt => q _ _ ((postN_new (o.wd w) nt reps_rg).after o.st (step_none o.st o.ok nt))⟩
      · simp [rgM1, h] at e
    | _ => cases e
theorem VN.listR2 {p p2 p3 : Pos} (hml : X.mg "list" = none) (hmr : X.mg "range" = none) (ha : VE X ρ a xa) (hb : VE X ρ b xb) (hgl : Gl X "list" := by rfl) (hgr : Gl X "range" := by rfl) (n1 : starEach [a, b] X.env = (false, eval a X.env) :: starEach [b] X.env := by rfl) (n3 : starEach [b] X.env = (false, eval b X.env) :: starEach [] X.env := by rfl) (hpl : (backTo p3 (starEach [b] X.env)).any (·.1) = false := by rfl)
    (n2 : starEach [.Call (.Name "range" p2) [a, b] [] p3] X.env = (false, eval (.Call (.Name "range" p2) [a, b] [] p3) X.env) :: starEach [] X.env := by rfl) (hc : X.calm = true := by rfl) :
    VN X ρ (.Call (.Name "list" p) [.Call (.Name "range" p2) [a, b] [] p3] [] pos) (xa >>= fun p => xb >>= fun q => PM.lift ((rgM2 p q).map .list)) :=
  imE (pe_listRg hc hgl hml (prg_2 hgr hmr ha hb n1 n3 hpl) n2) fun σ H Q ⟨T, A, w, ev, q⟩ => by
    refine ⟨T, A, w, ev, PM.mono (fun p q v H1 o => ?_) ((PM.run_bind _ _ _).mp q)⟩
    have w1 := o.wd w
    refine ⟨T, A, w1, ev.step w o.st, PM.mono (fun p2 q v2 H2 o2 => ?_) ((PM.run_bind _ _ _).mp q)⟩
    rw [PM.run_lift] at q
    obtain ⟨d, e, q⟩ := q
    have s := o.st.trans o2.st
    cases p with
    | int i =>
      cases p2 with
      | int n =>
        have rp := o.rp
        have rp2 := o2.rp
        cases rp
        cases rp2
        by_cases h : rgOk i n = true
        · simp only [rgM2, if_pos h, Option.map_some, Option.some.injEq] at e
          subst e
          exact ⟨i, n, rfl, rfl, rgOk_of h, fun t nt => q _ _ ((postN_new (o2.wd w1) nt reps_rg).after s (step_none s o2.ok nt))⟩
        · simp [rgM2, h] at e
      | _ => cases e
    | _ => cases e
theorem VE.tupR1 {p p2 p3 : Pos} (hml : X.mg "tuple" = none) (hmr : X.mg "range" = none) (ha : VE X ρ a xa) (hgl : Gl X "tuple" := by rfl) (hgr : Gl X "range" := by rfl) (n1 : starEach [a] X.env = (false, eval a X.env) :: starEach [] X.env := by rfl)
    (n2 : starEach [.Call (.Name "range" p2) [a] [] p3] X.env = (false, eval (.Call (.Name "range" p2) [a] [] p3) X.env) :: starEach [] X.env := by rfl) (hc : X.calm = true := by rfl) :
    VE X ρ (.Call (.Name "tuple" p) [.Call (.Name "range" p2) [a] [] p3] [] pos) (xa >>= fun p => PM.lift ((rgM1 p).map .tuple)) :=
  imE (pe_tupRg hc hgl hml (prg_1 hgr hmr ha n1) n2) fun σ H Q ⟨T, A, w, ev, q⟩ => by
    refine ⟨T, A, w, ev, PM.mono (fun p q v H1 o => ?_) ((PM.run_bind _ _ _).mp q)⟩
    rw [PM.run_lift] at q
    obtain ⟨d, e, q⟩ := q
    cases p with
    | int n =>
      have rp := o.rp
      cases rp
      by_cases h : rgOk 0 n = true
      · simp only [rgM1, if_pos h, Option.map_some, Option.some.injEq] at e
        subst e
        exact ⟨n, rfl, rgOk_of h, fun t nt => q _ _ ((Post.tup (o.wd w) nt reps_rg).after o.st)⟩
      · simp [rgM1, h] at e
    | _ => cases e
end
end Qv

namespace Qv
open PySem PySem.Spec PyProof.Rows L2
/-! ## three comparisons in a row -/
section
variable {m : Type → Type} [PM m] {X : Cx} {ρ : Rh} {a b c d : Expr} {xa xb xc xd : m D} {pos : Pos} {ta tb tc td : TE}
def tChain3 (r r' r2 : R2) (ta tb tc td : TE) : TE := fun σ H Q => ta σ H fun x H1 => tb σ H1 fun y H2 => r x y H2 fun z H3 => ∃ k, z = .bl k ∧
  (if k = true then tc σ H3 fun w H4 => r' y w H4 fun z2 H5 => ∃ k2, z2 = .bl k2 ∧ (if k2 = true then td σ H5 fun v H6 => r2 w v H6 Q else Q (.bl false) H5) else Q (.bl false) H3)
theorem pe_chain3 {op op' op2 : CmpOp} {r r' r2 : R2} (ho : OpR X (compareOp op) r) (ho' : OpR X (compareOp op') r') (ho2 : OpR X (compareOp op2) r2) (ha : PE X a ta) (hb : PE X b tb) (hc : PE X c tc) (hd : PE X d td)
    (hm : lastMarks [op, op', op2] [b, c, d] = false := by with_unfolding_all rfl) : PE X (.Compare a [op, op', op2] [b, c, d] pos) (tChain3 r r' r2 ta tb tc td) := by
  refine ⟨fun pins s σ H Q I h => ?_⟩
  refine Compare_chain (thn (ha.run pins s σ H _ I h) fun v s1 ⟨x, H1, I1, r1, q1⟩ => chain_link (thn (hb.run pins s1 σ H1 _ I1 q1) fun u s2 ⟨y, H2, I2, r2, q2⟩ => thn (ho pins s2 σ H2 x y v u _ I2 r1 r2 q2) fun d s3 ⟨z, H3, I3, r3, k, e, q3⟩ => ?_)) hm
  subst e
  cases r3
  refine wpAny_truthy_bool ?_
  cases k with
  | false => exact ite_ff ⟨.bl false, H3, I3, rfl, q3⟩
  | true =>
    refine ite_tt (chain_link (thn (hc.run pins s3 σ H3 _ I3 q3) fun w s4 ⟨x4, H4, I4, r4, q4⟩ => thn (ho' pins s4 σ H4 y x4 u w _ I4 r2 r4 q4) fun d2 s5 ⟨z2, H5, I5, r5, k2, e2, q5⟩ => ?_))
    subst e2
    cases r5
    refine wpAny_truthy_bool ?_
    cases k2 with
    | false => exact ite_ff ⟨.bl false, H5, I5, rfl, q5⟩
    | true => exact ite_tt (chain_last (thn (hd.run pins s5 σ H5 _ I5 q5) fun w' s6 ⟨z', H6, I6, r6, q6⟩ => ho2 pins s6 σ H6 x4 z' w w' Q I6 r4 r6 q6))
theorem VE.chain3 {op op' op2 : CmpOp} {r r' r2 : R2} {f f' f2 : D → D → Option D} (ho : OpR X (compareOp op) r) (ho' : OpR X (compareOp op') r') (ho2 : OpR X (compareOp op2) r2) (hr : OkR X.K f r) (hr' : OkR X.K f' r') (hr2 : OkR X.K f2 r2) (ha : VE X ρ a xa) (hb : VE X ρ b xb) (hc : VE X ρ c xc) (hd : VE X ρ d xd)
    (hm : lastMarks [op, op', op2] [b, c, d] = false := by with_unfolding_all rfl) :
    VE X ρ (.Compare a [op, op', op2] [b, c, d] pos) (xa >>= fun p => xb >>= fun q => PM.lift ((f p q).bind dBool) >>= fun k => if k = true then xc >>= fun r => PM.lift ((f' q r).bind dBool) >>= fun k2 => if k2 = true then xd >>= fun s => PM.lift (f2 r s) else pure (.bool false) else pure (.bool false)) :=
  imE (pe_chain3 ho ho' ho2 ha hb hc hd hm) fun σ H Q ⟨T, A, w, ev, h⟩ => by
    refine ⟨T, A, w, ev, PM.mono (fun p h v H1 o1 => ?_) ((PM.run_bind _ _ _).mp h)⟩
    refine ⟨T, A, o1.wd w, ev.step w o1.st, PM.mono (fun q h v2 H2 o2 => ?_) ((PM.run_bind _ _ _).mp h)⟩
    rw [PM.run_bind, PM.run_lift] at h
    obtain ⟨k, e, h⟩ := h
    have w2 := o2.wd (o1.wd w)
    have ev2 := (ev.step w o1.st).step (o1.wd w) o2.st
    obtain ⟨d1, ef, e⟩ := Option.bind_eq_some_iff.mp e
    refine hr T A H2 v v2 p q d1 _ w2 (o1.rp.step (o1.wd w) o2.st) o2.rp ef fun v3 H3 o3 => ?_
    cases d1 with
    | bool kk =>
      cases e
      have r3 := o3.rp
      cases r3
      refine ⟨k, rfl, ?_⟩
      have w3 := o3.wd w2
      have ev3 := ev2.step w2 o3.st
      cases k with
      | false =>
        rw [if_neg Bool.false_ne_true] at h ⊢
        rw [PM.run_pure] at h
        exact h _ _ ⟨o1.st.trans (o2.st.trans o3.st), o3.ok, .bl _⟩
      | true =>
        rw [if_pos rfl] at h ⊢
        refine ⟨T, A, w3, ev3, PM.mono (fun r h v4 H4 o4 => ?_) ((PM.run_bind _ _ _).mp h)⟩
        rw [PM.run_bind, PM.run_lift] at h
        obtain ⟨k2, e2, h⟩ := h
        obtain ⟨d2, ef2, e2⟩ := Option.bind_eq_some_iff.mp e2
        have w4 := o4.wd w3
        refine hr' T A H4 v2 v4 q r d2 _ w4 ((o2.rp.step w2 o3.st).step w3 o4.st) o4.rp ef2 fun v5 H5 o5 => ?_
        cases d2 with
        | bool k5 =>
          cases e2
          have r5 := o5.rp
          cases r5
          refine ⟨k2, rfl, ?_⟩
          have w5 := o5.wd w4
          cases k2 with
          | false =>
            rw [if_neg Bool.false_ne_true] at h ⊢
            rw [PM.run_pure] at h
            exact h _ _ ⟨o1.st.trans (o2.st.trans (o3.st.trans (o4.st.trans o5.st))), o5.ok, .bl _⟩
          | true =>
            rw [if_pos rfl] at h ⊢
            refine ⟨T, A, w5, (ev3.step w3 o4.st).step w4 o5.st, PM.mono (fun t h v6 H6 o6 => ?_) ((PM.run_bind _ _ _).mp h)⟩
            rw [PM.run_lift] at h
            obtain ⟨d3, ef3, h⟩ := h
            exact hr2 T A H6 v4 v6 r t d3 _ (o6.wd w5) ((o4.rp.step w4 o5.st).step w5 o6.st) o6.rp ef3 fun v7 H7 o7 => h _ _ ⟨o1.st.trans (o2.st.trans (o3.st.trans (o4.st.trans (o5.st.trans (o6.st.trans o7.st))))), o7.ok, o7.rp⟩
        | _ => cases e2
    | _ => cases e
end
end Qv

namespace Qv
open PySem PySem.Spec PyProof.Rows L2
/-! ## y = x.pop() -/
section
variable {K : PySem.W.Frag} {T : Tk} {A : Addr → Prop} {H : Hp}
theorem Reps.dropLast : ∀ {vs : List V} {ds : List D}, Reps K T A H vs ds → Reps K T A H vs.dropLast ds.dropLast
  | _, _, .nil => .nil
  | _, _, .cons h .nil => .nil
  | _, _, .cons h (.cons h2 r) => .cons h (Reps.dropLast (.cons h2 r))
end
section
variable {m : Type → Type} [PM m] {X : Cx} {Γ : List Kd} {ρ : Rh} {pos : Pos}
theorem SB.pop {i j : Nat} {x y : Str} {px py ap cp : Pos} {q0 : D} {E : D × D → Rh} (hr : rAt ρ i = some q0) (hE : ∀ pl, E pl = rPut (rPut ρ i pl.2) j pl.1) (hN : X.N.Nodup) (hij : j ≠ i := by decide) (hki : kAt Γ i = .ow := by rfl) (hkj : kAt Γ j = .sh := by rfl) (hi : X.N[i]? = some x := by rfl) (hj : X.N[j]? = some y := by rfl)
    (hv : Vis X.env.scope x := by first | exact Or.inl rfl | exact Or.inr (Or.inl rfl) | exact Or.inr (Or.inr rfl)) (hd : (x == ("__debug__" : Str)) = false := by decide) (hcd : (x == ("__classdict__" : Str)) = false := by decide) (hl : Loc X.env.scope y := by first | exact Or.inl rfl | exact Or.inr rfl)
    (hbase : attributeBase (.Name x px) "pop" X.env (eval (.Name x px) X.env) = eval (.Name x px) X.env := by rfl) (hline : (ap.endLine == cp.line) = true := by rfl) (hs : swapsWith (.Call (.Attribute (.Name x px) "pop" ap) [] [] cp) (some (.Name y py)) pos.line X.env = pure false := by rfl) (hf : X.fn y = true ∨ X.env.scope.names.lookup y = some .local := by first | exact .inl rfl | exact .inr rfl) :
    SB (m := m) X Γ ρ (.Assign [.Name y py] (.Call (.Attribute (.Name x px) "pop" ap) [] [] cp) pos) E (PM.lift (dPop q0)) :=
  imB (imS (ps_set hN hj hl (pe_bm0 PySem.F.plainAttrs_list PySem.F.slot_list_pop PySem.F.type_list_pop mt_pop (pe_var hi hv hd hcd) hbase hline) hs hf) fun D σ H ⟨T, A, O, r, q⟩ => by
    have q := (PM.run_lift _ _).mp q
    obtain ⟨pl, e, q⟩ := q
    obtain ⟨a, h1, h2, h3⟩ := r.ow i q0 hr hki
    cases h3 with
    | @lst us ds e1 rr =>
      have e : (ds[ds.length - 1]?).map (fun p => (p, PyData.list ds.dropLast)) = some pl := e
      cases ep : ds[ds.length - 1]? with
      | none => rw [ep] at e; cases e
      | some p =>
        rw [ep] at e
        cases e
        obtain ⟨u, g1, g2⟩ := rr.get ep
        refine ⟨.ref a, h1, .inl ⟨rfl, _, SqL.of e1⟩, a, us, u, rfl, rfl, e1, by rw [rr.length]; exact g1, ?_⟩
        have rw1 := r.write hr hki h2 (rr.dropLast)
        have gp : Rep X.K T (AT A O) (upd H a (.lst us.dropLast)) u p := g2.stA r.wd.mun (stA_own h2)
        exact q _ _ O (rw1.put gp hkj) ((Fr.write r h2).trans (Fr.put rw1 (by rw [hkj]; decide)) (r.wdW h2).ok (r.wdW h2).ok)) hE
end
end Qv

namespace Qv
open PySem PySem.Spec PyProof.Rows L2
/-! ## x.remove(k), whole numbers -/
def idxI (k : Int) : List Int → Option Nat
  | [] => none
  | x :: xs => if x = k then some 0 else (idxI k xs).map (· + 1)
theorem idxI_spec {k : Int} : ∀ {ns : List Int} {j : Nat}, idxI k ns = some j → ns[j]? = some k ∧ ∀ m : Nat, m < j → ns[m]? ≠ some k
  | [], _, h => by cases h
  | x :: xs, j, h => by
    unfold idxI at h
    by_cases e : x = k
    · rw [if_pos e] at h
      cases h
      exact ⟨by simp [e], fun m hm => by omega⟩
    · rw [if_neg e] at h
      cases e2 : idxI k xs with
      | none => rw [e2] at h; cases h
      | some i =>
        rw [e2] at h
        cases h
        obtain ⟨h1, h2⟩ := idxI_spec e2
        refine ⟨by simpa using h1, fun m hm => ?_⟩
        have hm : m < i + 1 := hm
        cases m with
        | zero => simp [e]
        | succ m => simpa using h2 m (Nat.lt_of_succ_lt_succ hm)
def dRem : D → D → Option D
  | .list ds, .int k => (dInts ds).bind fun ns => (idxI k ns).map fun j => .list ((ns.eraseIdx j).map .int)
  | _, _ => none
section
variable {K : PySem.W.Frag} {T : Tk} {A : Addr → Prop} {H : Hp}
theorem reps_ints : ∀ (ns : List Int), Reps K T A H (ns.map V.int) (ns.map PyData.int)
  | [] => .nil
  | n :: ns => .cons (.int n) (reps_ints ns)
end
section
variable {m : Type → Type} [PM m] {X : Cx} {Γ : List Kd} {ρ : Rh} {e : Expr} {x : m D} {pos : Pos}
theorem SB.rem {i : Nat} {y : Str} {py apos p1 : Pos} {q0 : D} {E : D → Rh} (h : VE X ρ e x) (hr : rAt ρ i = some q0) (hE : ∀ p, E p = rPut ρ i p) (hk : kAt Γ i = .ow := by rfl) (hi : X.N[i]? = some y := by rfl) (hv : Vis X.env.scope y := by first | exact Or.inl rfl | exact Or.inr (Or.inl rfl) | exact Or.inr (Or.inr rfl)) (hd : (y == ("__debug__" : Str)) = false := by decide) (hcd : (y == ("__classdict__" : Str)) = false := by decide)
    (hbase : attributeBase (.Name y py) "remove" X.env (eval (.Name y py) X.env) = eval (.Name y py) X.env := by rfl)
    (hfew : ((backTo p1 (starEach [e] X.env)).all (fun x => !x.1) && (backToKw p1 (keywordEach [] X.env)).all (fun x => x.1.isSome) && decide ([e].length + ([] : List Keyword).length + (if ([] : List Keyword).isEmpty then 0 else 1) < 30)) = true := by rfl)
    (hline : (apos.endLine == p1.line) = true := by rfl) (hs : starEach [e] X.env = (false, eval e X.env) :: starEach [] X.env := by rfl) (hplain : (backTo p1 (starEach [] X.env)).any (·.1) = false := by rfl) (hsw : swapsWith (.Call (.Attribute (.Name y py) "remove" apos) [e] [] p1) none pos.line X.env = pure false := by rfl) :
    SB X Γ ρ (.Expr (.Call (.Attribute (.Name y py) "remove" apos) [e] [] p1) pos) E (x >>= fun p => PM.lift (dRem q0 p)) :=
  imB (imS (ps_expr (pe_bm PySem.F.plainAttrs_list PySem.F.slot_list_remove PySem.F.type_list_remove mt_remove (pe_var hi hv hd hcd) (pa_cons h pa_nil hs) hbase hfew hline hs hplain) hsw) fun D σ H ⟨T, A, O, r, q⟩ => by
    obtain ⟨a, h1, h2, h3⟩ := r.ow i q0 hr hk
    refine ⟨.ref a, h1, ?_, T, A, r.wdA, r.all, PM.mono (fun p q v H' o => ?_) ((PM.run_bind _ _ _).mp q)⟩
    · cases h3 with
      | lst e1 _ => exact .inl ⟨rfl, _, SqL.of e1⟩
    · rw [PM.run_lift] at q
      obtain ⟨d, ed, q⟩ := q
      have r1 := r.step o.st o.ok
      obtain ⟨a', _, h2', h3'⟩ := r1.ow i q0 hr hk
      rw [h2] at h2'
      cases h2'
      cases h3' with
      | @lst us ds e1 rr =>
        cases p with
        | int k =>
          have o2 := o.rp
          cases o2
          obtain ⟨ns, en, ed⟩ := Option.bind_eq_some_iff.mp (show (dInts ds).bind _ = some d from ed)
          cases ej : idxI k ns with
          | none => rw [ej] at ed; cases ed
          | some j =>
            rw [ej] at ed
            cases ed
            obtain ⟨rfl, _⟩ := ints_of rr en
            obtain ⟨k1, k2⟩ := idxI_spec ej
            refine ⟨a, ns, k, j, rfl, rfl, e1, k1, k2, ?_⟩
            exact q _ _ O (r1.write hr hk h2 (reps_ints _)) ((Fr.step r o.st o.ok).trans (Fr.write r1 h2) o.ok (r1.wdW h2).ok)
        | _ => cases ed) hE
end
end Qv

namespace Qv
open PySem PySem.Spec PyProof.Rows L2
/-! ## the draws -/
def isTok : D → Bool
  | .dict [(.none, .none)] => true
  | _ => false
def isScr : D → Bool
  | .dict [(.none, .bool true)] => true
  | _ => false
/-- _law_draw(state, script, size) -/
def drawC : List D → PP D := un3 fun a b k => match k with
  | .int k => if isTok a && isScr b && decide (k < 1000000000) then draw k else fail
  | _ => fail
def isTokA : D → Bool
  | .dict [(.none, .bool false)] => true
  | _ => false
/-- _law_draw(state, many) -/
def drawA : List D → PP D := un2 fun a k => match k with
  | .int k => if isTokA a && decide (k < 1000000000) then draw k else fail
  | _ => fail
section
variable {K : PySem.W.Frag} {T : Tk} {A : Addr → Prop} {H : Hp}
theorem rep_tokA {v : V} {d : D} (r : Rep K T A H v d) (h : isTokA d = true) : v = .ref T.s ∧ T.kd = 2 := by
  cases r with
  | tok2 h0 => exact ⟨rfl, h0⟩
  | tok _ => cases h
  | scr _ _ => cases h
  | _ => cases h
theorem rep_tok {v : V} {d : D} (r : Rep K T A H v d) (h : isTok d = true) : v = .ref T.s ∧ T.kd = 1 := by
  cases r with
  | tok h0 => exact ⟨rfl, h0⟩
  | scr _ _ => cases h
  | _ => cases h
theorem rep_scr {v : V} {d : D} (r : Rep K T A H v d) (h : isScr d = true) : v = .ref T.scr ∧ T.kd = 1 ∧ (T.fz = false → KL K T.scr (T.ns.map V.int)) := by
  cases r with
  | scr h1 h2 => exact ⟨rfl, h1, h2⟩
  | tok _ => cases h
  | _ => cases h
def spRefill (K : PySem.W.Frag) : Sp := fun vs H Q _ => ∃ (a : Addr) (ns : List Int) (k : Int), vs = [.ref a, .int k] ∧ SqL K H a (ns.map V.int) ∧ 0 ≤ k ∧ ∀ r, 0 ≤ r → Q (.int r) H
/-- what the drawing body is asked for -/
theorem draw_pre {vs : List V} {Q : VK} {E : XK} (h : spC K drawC vs H Q E) : ∃ (T : Tk) (A : Addr → Prop) (n k v : Int), vs = [.ref T.s, .ref T.scr, .int n] ∧ Wd T A H ∧ T.kd = 1 ∧ 0 < n ∧ n < 1000000000 ∧ 0 ≤ k ∧ 0 ≤ v ∧ H T.s = some (.lst [.int k, .int v]) ∧ SqL K H T.scr (T.ns.map V.int) ∧
    ∀ (d k' v' : Int), 0 ≤ d → d < n → 0 ≤ k' → 0 ≤ v' → Q (.int d) (upd H T.s (.lst [.int k', .int v'])) := by
  obtain ⟨T, A, ds, w, r, q⟩ := h
  have hl := un3_len _ _ q
  match ds, hl with
  | [a, b, .int n], _ =>
    match vs, r with
    | [v1, v2, v3], .cons r1 (.cons r2 (.cons r3 .nil)) =>
      cases r3
      have q : PM.run (if isTok a && isScr b && decide (n < 1000000000) then draw n else fail : PP D) _ := q
      by_cases hh : (isTok a && isScr b && decide (n < 1000000000)) = true
      · rw [if_pos hh, run_draw] at q
        simp only [Bool.and_eq_true, decide_eq_true_eq] at hh
        obtain ⟨rfl, h0⟩ := rep_tok r1 hh.1.1
        obtain ⟨rfl, h1, h2⟩ := rep_scr r2 hh.1.2
        obtain ⟨⟨k, v, k1, k2, k3⟩, k4⟩ := w.ok.1 h1
        have hs : SqL K H T.scr (T.ns.map V.int) := by
          cases e : T.fz with
          | true =>
            obtain ⟨o, z⟩ := k4 e
            exact .inl (.inr ⟨o, z⟩)
          | false => exact .inr (h2 e)
        refine ⟨T, A, n, k, v, rfl, w, h1, q.1, hh.2, k1, k2, k3, hs, fun d k' v' d1 d2 k5 k6 => q.2 d d1 d2 _ _ ⟨fun a o e n => ?_, ?_, .int d⟩⟩
        · rw [upd_ne fun z => n (.inl ⟨by omega, z⟩)]; exact e
        · refine ⟨fun _ => ⟨⟨k', v', k5, k6, upd_same⟩, fun z => ?_⟩, w.ok.2.1, fun z => by omega⟩
          obtain ⟨o, z⟩ := k4 z
          by_cases e : T.scr = T.s
          · rw [e, k3] at z; cases z
          · exact ⟨o, by rw [upd_ne e]; exact z⟩
      · rw [if_neg hh] at q
        obtain ⟨_, e, _⟩ := (PM.run_lift _ _).mp q
        cases e
  | [a, b, .none], _ => obtain ⟨_, e, _⟩ := (PM.run_lift _ _).mp q; cases e
  | [a, b, .bool _], _ => obtain ⟨_, e, _⟩ := (PM.run_lift _ _).mp q; cases e
  | [a, b, .str _], _ => obtain ⟨_, e, _⟩ := (PM.run_lift _ _).mp q; cases e
  | [a, b, .list _], _ => obtain ⟨_, e, _⟩ := (PM.run_lift _ _).mp q; cases e
  | [a, b, .tuple _], _ => obtain ⟨_, e, _⟩ := (PM.run_lift _ _).mp q; cases e
  | [a, b, .dict _], _ => obtain ⟨_, e, _⟩ := (PM.run_lift _ _).mp q; cases e
def rLenV (K : PySem.W.Frag) : List V → Hp → VK → Prop := fun xs H Q => ∃ x n, xs = [x] ∧ LenV K x H n ∧ Q (.int n) H
def rInt1 : List V → Hp → VK → Prop := fun xs H Q => (∃ i, xs = [.int i] ∧ Q (.int i) H) ∨ ∃ k, xs = [.bl k] ∧ Q (.int (if k = true then 1 else 0)) H
def tFin : TS := tRet (tOp (rI (fun _ j => 0 < j) fun i j => .int (i % j)) (tCB rInt1 (tCons (tOp (rI0 fun i j => .int (i + j)) (tOp (rI CMul fun i j => .int (i * j)) (tCB rInt1 (tCons (tOp (rI0 fun i j => .int (i + j)) (tOp (rI0 fun i j => .int (i + j)) (tOp (rI CMul fun i j => .int (i * j)) (tVar 2) (tC (.int 48271))) (tOp (rI CMul fun i j => .int (i * j)) (tVar 1) (tC (.int 69621)))) (tC (.int 12345))) tNil)) (tC (.int 40692))) (tC (.int 7))) tNil)) (tC (.int 2147483399)))
def tBig (K : PySem.W.Frag) : TS := tSeq (tIfS (tAnd (tB (tGe (tVar 2) (tOp (rI CPow fun i j => .int (i ^ j.toNat)) (tC (.int 10)) (tC (.int 18))))) (tB (tLt (tVar 1) (tCB (rLenV K) (tCons (tVar 0) tNil))))) (tRet (tVar 2)) tNext) tFin
def tLow (K : PySem.W.Frag) : TS := tSeq (tIfS (tB (tLt (tVar 2) (tC (.int 0)))) (tAsg (tOp (rI0 fun i j => .int (i - j)) (tC (.int 1)) (tOp (rI CMul fun i j => .int (i * j)) (tC (.int 2)) (tVar 2))) (gName 2)) tNext) (tBig K)
def tPick (K : PySem.W.Frag) : TS := tSeq (tIfS (fun σ H Q => tVar 0 σ H fun x H' => ∃ k, TruV K x H' k ∧ Q k H') (tAsg (tOp (rIxL K) (tVar 0) (tOp (rI (fun _ j => 0 < j) fun i j => .int (i % j)) (tVar 1) (tCB (rLenV K) (tCons (tVar 0) tNil)))) (gName 2)) tNext) (tLow K)
def tRefill (K : PySem.W.Frag) : TS := tSeq (tAsg (tC (.int 0)) (gName 2)) (tPick K)
variable {D : Ends} {a : Addr} {ns : List Int} {k c : Int}
theorem fin_run (q : ∀ r, 0 ≤ r → D.rt (.int r) H) : tFin D [some (.ref a), some (.int k), some (.int c)] H :=
  ⟨_, rfl, _, _, rfl, rfl, .inr ⟨by decide, by decide⟩, _, rfl, _, _, rfl, rfl, .inr ⟨by decide, by decide⟩, _, _, rfl, rfl, _, _, rfl, rfl, .inl ⟨_, rfl, _, _, rfl, rfl, .inr ⟨by decide, by decide⟩, _, _, rfl, rfl, .inl ⟨_, rfl, _, _, rfl, rfl, (by decide : (0 : Int) < 2147483399), q _ (Int.emod_nonneg _ (by decide))⟩⟩⟩
theorem lenScr (hs : SqL K H a (ns.map V.int)) : LenV K (.ref a) H ns.length := .inl ⟨_, hs, by rw [List.length_map]⟩
theorem big_run (hs : SqL K H a (ns.map V.int)) (hc : 0 ≤ c) (q : ∀ r, 0 ≤ r → D.rt (.int r) H) : tBig K D [some (.ref a), some (.int k), some (.int c)] H := by
  refine ⟨_, rfl, _, _, rfl, rfl, ⟨by decide, by decide, by decide⟩, _, _, rfl, rfl, _, rfl, ?_⟩
  dsimp only
  by_cases h1 : (decide ((10 : Int) ^ (18 : Int).toNat ≤ c)) = true
  · rw [if_pos h1]
    refine ⟨_, rfl, _, rfl, ⟨_, _, rfl, lenScr hs, _, _, rfl, rfl, _, rfl, ?_⟩⟩
    by_cases h2 : (decide (k < (ns.length : Int))) = true
    · dsimp only
      rw [if_pos h2]
      exact ⟨_, rfl, q c hc⟩
    · dsimp only
      rw [if_neg h2]
      exact fin_run q
  · rw [if_neg h1]
    try dsimp only
    rw [if_neg Bool.false_ne_true]
    exact fin_run q
theorem low_run (hs : SqL K H a (ns.map V.int)) (q : ∀ r, 0 ≤ r → D.rt (.int r) H) : tLow K D [some (.ref a), some (.int k), some (.int c)] H := by
  refine ⟨_, rfl, _, _, rfl, rfl, _, rfl, ?_⟩
  by_cases h1 : (decide (c < 0)) = true
  · dsimp only
    rw [if_pos h1]
    refine ⟨_, rfl, _, _, rfl, rfl, .inl ⟨by decide, by decide⟩, _, _, rfl, rfl, ?_⟩
    have := of_decide_eq_true h1
    exact big_run (c := 1 - 2 * c) hs (by omega) q
  · dsimp only
    rw [if_neg h1]
    have : ¬ c < 0 := fun z => h1 (decide_eq_true z)
    exact big_run hs (by omega) q
theorem refill_run (hs : SqL K H a (ns.map V.int)) (hk : 0 ≤ k) (q : ∀ r, 0 ≤ r → D.rt (.int r) H) : tRefill K D (L2.start ["script", "k", "cell"] [.ref a, .int k]) H := by
  show tPick K D [some (.ref a), some (.int k), some (.int 0)] H
  cases ns with
  | nil =>
    refine ⟨_, rfl, false, .inl ⟨_, hs, rfl⟩, ?_⟩
    dsimp only
    rw [if_neg Bool.false_ne_true]
    exact low_run hs q
  | cons n ns =>
    refine ⟨_, rfl, true, .inl ⟨_, hs, rfl⟩, ?_⟩
    dsimp only
    rw [if_pos rfl]
    have hl : (0 : Int) < ((n :: ns).length : Nat) := by simp
    have h0 := Int.emod_nonneg k (Int.ne_of_gt hl)
    have h1 := Int.emod_lt_of_pos k hl
    obtain ⟨j, hj⟩ := Int.eq_ofNat_of_zero_le h0
    have hj2 : j < (n :: ns).length := by omega
    refine ⟨_, rfl, _, rfl, _, rfl, _, _, rfl, lenScr hs, _, _, rfl, rfl, hl, a, _, _, .int (n :: ns)[j], rfl, rfl, hs, ?_, ?_⟩
    · show atI ((n :: ns).map V.int) (k % ((n :: ns).length : Int)) = _
      rw [hj]
      exact atI_nat (by rw [List.getElem?_map, List.getElem?_eq_getElem hj2]; rfl)
    · exact low_run hs q
def tDrawTail (K : PySem.W.Frag) : TS :=
  tSeq (tAsg (tOp (rI (fun _ j => 0 < j) fun i j => .int (i % j)) (tCB rInt1 (tCons (tOp (rIxL K) (tVar 0) (tC (.int 1))) tNil)) (tVar 2)) (gName 3))
  (tSeq (tAsg (tOp rDivD (tOp (rIxL K) (tVar 0) (tC (.int 1))) (tVar 2)) (gSub (tVar 0) (tC (.int 1)) rSetL)) (tRet (tVar 3)))
def tDraw (K : PySem.W.Frag) : TS :=
  tSeq (tIfS (tB (tEqI (tOp (rIxL K) (tVar 0) (tC (.int 1))) (tC (.int 0))))
    (tSeq (tAsg (tCall (spRefill K) [] E0 (tCons (tVar 1) (tCons (tOp (rIxL K) (tVar 0) (tC (.int 0))) tNil))) (gSub (tVar 0) (tC (.int 1)) rSetL))
      (tAsg (tOp (rI0 fun i j => .int (i + j)) (tOp (rIxL K) (tVar 0) (tC (.int 0))) (tC (.int 1))) (gSub (tVar 0) (tC (.int 0)) rSetL))) tNext) (tDrawTail K)
theorem drawTail_run {s scr : Addr} {n k v : Int} (hs : H s = some (.lst [.int k, .int v])) (hn : 0 < n) (hz : n < 1073741824) (hv : 0 ≤ v) (q : ∀ d v' : Int, 0 ≤ d → d < n → 0 ≤ v' → D.rt (.int d) (upd H s (.lst [.int k, .int v']))) : tDrawTail K D [some (.ref s), some (.ref scr), some (.int n), none] H := by
  refine ⟨_, rfl, s, _, 1, .int v, rfl, rfl, .of hs, rfl, .inl ⟨v, rfl, _, rfl, _, _, rfl, rfl, hn, ?_⟩⟩
  refine ⟨_, rfl, s, _, 1, .int v, rfl, rfl, .of hs, rfl, _, rfl, .inl ⟨_, _, rfl, rfl, ⟨by omega, by omega⟩, ?_⟩⟩
  refine ⟨_, rfl, s, _, 1, 1, rfl, rfl, hs, rfl, _, rfl, ?_⟩
  exact q (v % n) (v.fdiv n) (Int.emod_nonneg _ (by omega)) (Int.emod_lt_of_pos _ hn) (Int.fdiv_nonneg hv (by omega))
theorem draw_run {s scr : Addr} {ns : List Int} {n k v : Int} (hs : H s = some (.lst [.int k, .int v])) (hscr : SqL K H scr (ns.map V.int)) (hn : 0 < n) (hz : n < 1073741824) (hk : 0 ≤ k) (hv : 0 ≤ v) (q : ∀ d k' v' : Int, 0 ≤ d → d < n → 0 ≤ k' → 0 ≤ v' → D.rt (.int d) (upd H s (.lst [.int k', .int v']))) : tDraw K D (L2.start ["state", "script", "size", "digit"] [.ref s, .ref scr, .int n]) H := by
  show tDraw K D [some (.ref s), some (.ref scr), some (.int n), none] H
  refine ⟨_, rfl, s, _, 1, .int v, rfl, rfl, .of hs, rfl, _, _, rfl, rfl, _, rfl, ?_⟩
  dsimp only
  by_cases h : decide (v = 0) = true
  · rw [if_pos h]
    refine ⟨_, rfl, _, rfl, s, _, 0, .int k, rfl, rfl, .of hs, rfl, scr, ns, k, rfl, hscr, hk, fun r hr => ?_⟩
    refine ⟨_, rfl, s, _, 1, 1, rfl, rfl, hs, rfl, ?_⟩
    have h1 : upd H s (.lst [.int k, .int r]) s = some (.lst [.int k, .int r]) := upd_same
    refine ⟨_, rfl, s, _, 0, .int k, rfl, rfl, .of h1, rfl, _, _, rfl, rfl, ?_⟩
    refine ⟨_, rfl, s, _, 0, 0, rfl, rfl, h1, rfl, ?_⟩
    have h2 : upd (upd H s (.lst [.int k, .int r])) s (.lst [.int (k + 1), .int r]) = upd H s (.lst [.int (k + 1), .int r]) := upd_upd
    have h3 : tDrawTail K D [some (.ref s), some (.ref scr), some (.int n), none] (upd H s (.lst [.int (k + 1), .int r])) := drawTail_run upd_same hn hz hr fun d v' d1 d2 d3 => by
      rw [upd_upd]
      exact q d (k + 1) v' d1 d2 (by omega) d3
    rw [← h2] at h3
    exact h3
  · rw [if_neg h]
    exact drawTail_run hs hn hz hv fun d v' d1 d2 d3 => q d k v' d1 d2 hk d3
/-! ### the other draws: state = [cells, seed] -/
def spState (K : PySem.W.Frag) : Sp := fun vs H Q _ => ∃ (a : Addr) (ns : List Int), vs = [.ref a] ∧ SqL K H a (ns.map V.int) ∧ ns.length ≤ 1000 ∧
  ∀ (H' : Hp) (s c : Addr) (xs : List Int) (z : Int), (∀ b o, H b = some o → H' b = some o) → s ≠ c → 0 ≤ z → (∀ x ∈ xs, 0 ≤ x) → H' s = some (.lst [.ref c, .int z]) → H' c = some (.lst (xs.map V.int)) → H s = none → H c = none → Q (.ref s) H'
theorem drawA_pre {vs : List V} {Q : VK} {E : XK} (h : spC K drawA vs H Q E) : ∃ (T : Tk) (A : Addr → Prop) (n : Int) (xs : List Int) (z : Int), vs = [.ref T.s, .int n] ∧ 0 < n ∧ n < 1000000000 ∧ 0 ≤ z ∧ (∀ x ∈ xs, 0 ≤ x) ∧ T.s ≠ T.c ∧ H T.s = some (.lst [.ref T.c, .int z]) ∧ H T.c = some (.lst (xs.map V.int)) ∧
    ∀ (d : Int) (H' : Hp) (xs' : List Int) (z' : Int), 0 ≤ d → d < n → 0 ≤ z' → (∀ x ∈ xs', 0 ≤ x) → (∀ b, b ≠ T.s → b ≠ T.c → H' b = H b) → H' T.s = some (.lst [.ref T.c, .int z']) → H' T.c = some (.lst (xs'.map V.int)) → Q (.int d) H' := by
  obtain ⟨T, A, ds, w, r, q⟩ := h
  have hl := un2_len _ _ q
  match ds, hl with
  | [a, .int n], _ =>
    match vs, r with
    | [v1, v2], .cons r1 (.cons r3 .nil) =>
      cases r3
      have q : PM.run (if isTokA a && decide (n < 1000000000) then draw n else fail : PP D) _ := q
      by_cases hh : (isTokA a && decide (n < 1000000000)) = true
      · rw [if_pos hh, run_draw] at q
        simp only [Bool.and_eq_true, decide_eq_true_eq] at hh
        obtain ⟨rfl, h0⟩ := rep_tokA r1 hh.1
        obtain ⟨xs, z, k1, k2, k3, k4, k5⟩ := w.ok.2.2 h0
        refine ⟨T, A, n, xs, z, rfl, q.1, hh.2, k1, k2, k3, k4, k5, fun d H' xs' z' d1 d2 z1 z2 e1 e2 e3 => q.2 d d1 d2 _ _ ⟨fun b o e nS => ?_, ?_, .int d⟩⟩
        · rw [e1 b (fun z => nS (.inl ⟨by omega, z⟩)) fun z => nS (.inr (.inr ⟨h0, z⟩))]; exact e
        · exact ⟨fun z => by omega, w.ok.2.1, fun _ => ⟨xs', z', z1, z2, k3, e2, e3⟩⟩
      · rw [if_neg hh] at q
        obtain ⟨_, e, _⟩ := (PM.run_lift _ _).mp q
        cases e
  | [a, .none], _ => obtain ⟨_, e, _⟩ := (PM.run_lift _ _).mp q; cases e
  | [a, .bool _], _ => obtain ⟨_, e, _⟩ := (PM.run_lift _ _).mp q; cases e
  | [a, .str _], _ => obtain ⟨_, e, _⟩ := (PM.run_lift _ _).mp q; cases e
  | [a, .list _], _ => obtain ⟨_, e, _⟩ := (PM.run_lift _ _).mp q; cases e
  | [a, .tuple _], _ => obtain ⟨_, e, _⟩ := (PM.run_lift _ _).mp q; cases e
  | [a, .dict _], _ => obtain ⟨_, e, _⟩ := (PM.run_lift _ _).mp q; cases e
def absI (i : Int) : Int := if i < 0 then -i else i
def tSeed : TS := tAsg (tOp (rI (fun _ j => 0 < j) fun i j => .int (i % j)) (tCB rInt1 (tCons (tOp (rI0 fun i j => .int (i + j)) (tOp (rI CMul fun i j => .int (i * j)) (tVar 1) (tC (.int 31))) (tVar 2)) tNil)) (tC (.int 1000003))) (gName 1)
def rAbs1 : List V → Hp → VK → Prop := fun xs H Q => ∃ i, xs = [V.int i] ∧ Q (V.int (if i < 0 then -i else i)) H
def tMade (K : PySem.W.Frag) : TS := tRet (tLst (tCons (tLc (iList K (tVar 0)) (gName 2) tYes (tCB rAbs1 (tCons (tVar 2) tNil)) [2]) (tCons (tOp (rI0 fun i j => .int (i + j)) (tVar 1) (tC (.int 1))) tNil)))
def tState (K : PySem.W.Frag) : TS := tSeq (tAsg (tC (.int 7)) (gName 1)) (tSeq (tFor (iList K (tVar 0)) (gName 2) tSeed) (tMade K))
theorem made_run {z : Int} {y : Option V} (hs : SqL K H a (ns.map V.int)) (hl : ns.length ≤ 1000) (hz : 0 ≤ z)
    (q : ∀ (H' : Hp) (s c : Addr) (xs : List Int) (z : Int), (∀ b o, H b = some o → H' b = some o) → s ≠ c → 0 ≤ z → (∀ x ∈ xs, 0 ≤ x) → H' s = some (.lst [.ref c, .int z]) → H' c = some (.lst (xs.map V.int)) → H s = none → H c = none → D.rt (.ref s) H') :
    tMade K D [some (.ref a), some (.int z), y] H := by
  refine ⟨_, rfl, a, rfl, ⟨_, hs⟩, fun c hc => lc_list (xs := ns.map V.int) (fun i H' => H' = upd H c (.lst (((ns.take i).map absI).map V.int))) rfl (fun i H' hi e => ?_) (fun i x H' hx e => ?_) fun H' e => ?_⟩
  · subst e
    exact sqL_keep hs fun o e => by rw [upd_ne fun z => by rw [z, hc] at e; cases e]; exact e
  · subst e
    rw [List.getElem?_map] at hx
    cases hn : ns[i]? with
    | none => rw [hn] at hx; cases hx
    | some m =>
      rw [hn] at hx
      cases hx
      refine ⟨rfl, ?_⟩
      dsimp only [tYes]
      rw [if_pos rfl]
      refine ⟨_, rfl, m, rfl, _, upd_same, ?_, ?_⟩
      · rw [sizeLine_eq]; simp; omega
      · rw [upd_upd, List.take_add_one, hn]
        simp [absI]
  · subst e
    rw [List.length_map, List.take_length]
    refine ⟨_, rfl, _, _, rfl, rfl, (by show (2 : Nat) ≤ sizeLine; decide), fun p np => ?_⟩
    have hpc : p ≠ c := fun e => by rw [e, upd_same] at np; cases np
    have np' : H p = none := by rw [upd_ne hpc] at np; exact np
    refine q _ p c (ns.map absI) (z + 1) (fun b o e => ?_) hpc (by omega) (fun x hx => ?_) upd_same ?_ np' hc
    · rw [upd_ne (fun z => by rw [z, np'] at e; cases e), upd_ne (fun z => by rw [z, hc] at e; cases e)]; exact e
    · obtain ⟨m, _, rfl⟩ := List.mem_map.mp hx
      unfold absI; split <;> omega
    · rw [upd_ne (Ne.symm hpc), upd_same]
theorem state_run (hs : SqL K H a (ns.map V.int)) (hl : ns.length ≤ 1000)
    (q : ∀ (H' : Hp) (s c : Addr) (xs : List Int) (z : Int), (∀ b o, H b = some o → H' b = some o) → s ≠ c → 0 ≤ z → (∀ x ∈ xs, 0 ≤ x) → H' s = some (.lst [.ref c, .int z]) → H' c = some (.lst (xs.map V.int)) → H s = none → H c = none → D.rt (.ref s) H') :
    tState K D (L2.start ["script", "seed", "cell"] [.ref a]) H := by
  refine ⟨_, rfl, a, rfl, ⟨_, hs⟩, for_list (xs := ns.map V.int) (fun _ σ H' => ∃ z y, 0 ≤ z ∧ σ = [some (.ref a), some (.int z), y] ∧ H' = H) ⟨7, none, by omega, rfl, rfl⟩ (fun i σ H' _ ⟨z, y, _, _, e⟩ => by rw [e]; exact hs) (fun i x σ H' hx ⟨z, y, hz, e1, e2⟩ => ?_) fun σ H' ⟨z, y, hz, e1, e2⟩ => ?_⟩
  · subst e1 e2
    rw [List.getElem?_map] at hx
    cases hn : ns[i]? with
    | none => rw [hn] at hx; cases hx
    | some m =>
      rw [hn] at hx
      cases hx
      exact ⟨_, rfl, _, _, rfl, rfl, .inr ⟨by decide, by decide⟩, _, rfl, _, _, rfl, rfl, .inl ⟨_, rfl, _, _, rfl, rfl, (by decide : (0 : Int) < 1000003), _, _, Int.emod_nonneg _ (by decide), rfl, rfl⟩⟩
  · subst e1 e2
    exact made_run hs hl hz q
/-! the draw -/
def tMix (K : PySem.W.Frag) : TS :=
  tSeq (tAsg (tOp (rI (fun _ j => 0 < j) fun i j => .int (i % j)) (tCB rInt1 (tCons (tOp (rI0 fun i j => .int (i + j)) (tOp (rI CMul fun i j => .int (i * j)) (tOp (rIxL K) (tVar 0) (tC (.int 1))) (tC (.int 48271))) (tC (.int 12345))) tNil)) (tC (.int 2147483647))) (gName 4))
  (tSeq (tAsg (tVar 4) (gSub (tVar 0) (tC (.int 1)) rSetL))
  (tRet (tOp (rI (fun _ j => 0 < j) fun i j => .int (i % j)) (tCB rInt1 (tCons (tOp rDivD (tVar 4) (tC (.int 64))) tNil)) (tVar 1))))
def tCell (K : PySem.W.Frag) : TS :=
  tSeq (tIfS (tB (tGt (tCB (rLenV K) (tCons (tVar 2) tNil)) (tC (.int 0))))
    (tSeq (tAsg (tOp (rIxL K) (tVar 2) (tC (.int 0))) (gName 3)) (tSeq (tAsg (tOp rDivD (tVar 3) (tVar 1)) (gSub (tVar 2) (tC (.int 0)) rSetL))
      (tRet (tOp (rI (fun _ j => 0 < j) fun i j => .int (i % j)) (tCB rInt1 (tCons (tVar 3) tNil)) (tVar 1))))) tNext) (tMix K)
def tDrawA (K : PySem.W.Frag) : TS :=
  tSeq (tAsg (tOp (rIxL K) (tVar 0) (tC (.int 0))) (gName 2))
  (tSeq (tWhile (tAnd (tB (tGt (tCB (rLenV K) (tCons (tVar 2) tNil)) (tC (.int 0)))) (tB (tEqI (tOp (rIxL K) (tVar 2) (tC (.int 0))) (tC (.int 0))))) (tDrop (tBM K "list" rPopAt (tVar 2) (tCons (tC (.int 0)) tNil)))) (tCell K))
section
variable {s c : Addr} {n z : Int} {xs : List Int}
theorem lenC (hc : H c = some (.lst (xs.map V.int))) : LenV K (.ref c) H xs.length := .inl ⟨_, .of hc, by rw [List.length_map]⟩
theorem mix_run {y : Option V} (hn : 0 < n) (hz : 0 ≤ z) (hs : H s = some (.lst [.ref c, .int z])) (q : ∀ d z' : Int, 0 ≤ d → d < n → 0 ≤ z' → D.rt (.int d) (upd H s (.lst [.ref c, .int z']))) : tMix K D [some (.ref s), some (.int n), some (.ref c), none, y] H := by
  refine ⟨_, rfl, s, _, 1, .int z, rfl, rfl, .of hs, rfl, _, _, rfl, rfl, .inr ⟨by decide, by decide⟩, _, _, rfl, rfl, .inl ⟨_, rfl, _, _, rfl, rfl, (by decide : (0 : Int) < 2147483647), ?_⟩⟩
  refine ⟨_, rfl, _, rfl, s, _, 1, 1, rfl, rfl, hs, rfl, ?_⟩
  refine ⟨_, rfl, .inl ⟨_, _, rfl, rfl, ⟨by decide, by decide⟩, .inl ⟨_, rfl, _, rfl, _, _, rfl, rfl, hn, ?_⟩⟩⟩
  exact q _ _ (Int.emod_nonneg _ (by omega)) (Int.emod_lt_of_pos _ hn) (Int.emod_nonneg _ (by decide))
theorem cell_run' (hn : 0 < n) (hn2 : n < 1000000000) (hz : 0 ≤ z) (hx : ∀ x ∈ xs, 0 ≤ x) (hne : s ≠ c) (hs : H s = some (.lst [.ref c, .int z])) (hc : H c = some (.lst (xs.map V.int)))
    (q : ∀ (d : Int) (H' : Hp) (xs' : List Int) (z' : Int), 0 ≤ d → d < n → 0 ≤ z' → (∀ x ∈ xs', 0 ≤ x) → (∀ b, b ≠ s → b ≠ c → H' b = H b) → H' s = some (.lst [.ref c, .int z']) → H' c = some (.lst (xs'.map V.int)) → D.rt (.int d) H') :
    tCell K D [some (.ref s), some (.int n), some (.ref c), none, none] H := by
  refine ⟨_, rfl, _, _, rfl, lenC hc, _, _, rfl, rfl, _, rfl, ?_⟩
  dsimp only
  cases xs with
  | nil =>
    rw [if_neg (by simp)]
    refine mix_run hn hz hs fun d z' d1 d2 z1 => q d _ [] z' d1 d2 z1 (fun x h => nomatch h) (fun b b1 b2 => upd_ne b1) upd_same ?_
    rw [upd_ne (Ne.symm hne)]; exact hc
  | cons x xs =>
    rw [if_pos (by simp <;> omega)]
    have h0 := hx x List.mem_cons_self
    refine ⟨_, rfl, c, _, 0, .int x, rfl, rfl, .of hc, atI_nat (j := 0) rfl, ?_⟩
    refine ⟨_, rfl, _, rfl, .inl ⟨_, _, rfl, rfl, ⟨by omega, by omega⟩, _, rfl, c, _, 0, 0, rfl, rfl, hc, (by simp [ixN] <;> omega), ?_⟩⟩
    refine ⟨_, rfl, .inl ⟨_, rfl, _, rfl, _, _, rfl, rfl, hn, ?_⟩⟩
    refine q (x % n) _ (x.fdiv n :: xs) z (Int.emod_nonneg _ (by omega)) (Int.emod_lt_of_pos _ hn) hz (fun y hy => ?_) (fun b _ b2 => upd_ne b2) (by rw [upd_ne hne]; exact hs) (by rw [upd_same]; rfl)
    rcases List.mem_cons.mp hy with rfl | hy
    · exact Int.fdiv_nonneg h0 (by omega)
    · exact hx y (List.mem_cons_of_mem _ hy)
theorem drawA_run (hn : 0 < n) (hn2 : n < 1000000000) (hz : 0 ≤ z) (hx : ∀ x ∈ xs, 0 ≤ x) (hne : s ≠ c) (hs : H s = some (.lst [.ref c, .int z])) (hc : H c = some (.lst (xs.map V.int)))
    (q : ∀ (d : Int) (H' : Hp) (xs' : List Int) (z' : Int), 0 ≤ d → d < n → 0 ≤ z' → (∀ x ∈ xs', 0 ≤ x) → (∀ b, b ≠ s → b ≠ c → H' b = H b) → H' s = some (.lst [.ref c, .int z']) → H' c = some (.lst (xs'.map V.int)) → D.rt (.int d) H') :
    tDrawA K D (L2.start ["state", "many", "cells", "value", "mixed"] [.ref s, .int n]) H := by
  refine ⟨_, rfl, s, _, 0, .ref c, rfl, rfl, .of hs, rfl, ?_⟩
  refine ⟨fun m σ H' => ∃ xs' : List Int, m = xs'.length ∧ (∀ x ∈ xs', 0 ≤ x) ∧ σ = [some (.ref s), some (.int n), some (.ref c), none, none] ∧ H' c = some (.lst (xs'.map V.int)) ∧ ∀ b, b ≠ c → H' b = H b, ⟨_, xs, rfl, hx, rfl, hc, fun _ _ => rfl⟩, ?_⟩
  rintro m σ H' ⟨xs', rfl, hx', rfl, hc', he⟩
  have done : tCell K D [some (.ref s), some (.int n), some (.ref c), none, none] H' := cell_run' hn hn2 hz hx' hne (by rw [he s hne]; exact hs) hc' fun d H2 ys z' d1 d2 z1 z2 e1 e2 e3 => q d H2 ys z' d1 d2 z1 z2 (fun b b1 b2 => by rw [e1 b b1 b2, he b b2]) e2 e3
  refine ⟨_, rfl, _, _, rfl, lenC hc', _, _, rfl, rfl, _, rfl, ?_⟩
  dsimp only
  cases xs' with
  | nil =>
    rw [if_neg (by simp)]
    rw [if_neg Bool.false_ne_true]
    exact done
  | cons x xs' =>
    rw [if_pos (by simp <;> omega)]
    refine ⟨_, rfl, c, _, 0, .int x, rfl, rfl, .of hc', atI_nat (j := 0) rfl, _, _, rfl, rfl, _, rfl, ?_⟩
    dsimp only
    by_cases h0 : decide (x = 0) = true
    · rw [if_pos h0]
      refine ⟨fun σ2 H2 => ∃ ys : List Int, xs'.length = ys.length ∧ (∀ x ∈ ys, 0 ≤ x) ∧ σ2 = [some (.ref s), some (.int n), some (.ref c), none, none] ∧ H2 c = some (.lst (ys.map V.int)) ∧ ∀ b, b ≠ c → H2 b = H b, fun σ2 H2 ⟨ys, h1, h2, h3, h4, h5⟩ => ⟨xs'.length, by simp, ys, h1, h2, h3, h4, h5⟩, ?_⟩
      refine ⟨_, rfl, .inl ⟨rfl, _, .of hc'⟩, c, _, 0, 0, .int x, rfl, rfl, hc', by decide, by decide, (by simp [seqIndex?] <;> omega), rfl, ?_⟩
      exact ⟨xs', rfl, fun y hy => hx' y (List.mem_cons_of_mem _ hy), rfl, by rw [upd_same]; rfl, fun b hb => by rw [upd_ne hb]; exact he b hb⟩
    · rw [if_neg h0]
      exact done
end
end
end Qv

namespace Qv
open PySem PySem.Spec PyProof.Rows L2
/-! ## isinstance(x, (list, tuple)) -/
def isLT : D → Option D
  | .list _ => some (.bool true)
  | .tuple _ => some (.bool true)
  | .dict _ => none
  | _ => some (.bool false)
def tyN : D → String
  | .none => "NoneType"
  | .bool _ => "bool"
  | .int _ => "int"
  | .str _ => "str"
  | .list _ => "list"
  | .tuple _ => "tuple"
  | .dict _ => "dict"
theorem tyx_of {K : PySem.W.Frag} {T : Tk} {A : Addr → Prop} {H : Hp} {v : V} {d e : D} (r : Rep K T A H v d) (h : isLT d = some e) : TyX K H v (.type (tyN d)) := by
  cases r with
  | non => exact .base .non
  | bl b => exact .base (.bl b)
  | int i => exact .base (.int i)
  | str x => exact .base (.str x)
  | lst n e r => exact .base (.lst e)
  | tup s r =>
    rcases s with (s | ⟨o, s⟩) | ⟨o, its, n, hk, hc, _⟩
    · exact .base (.tup s)
    · exact .fTuple s
    · exact .kTuple hk hc
  | tok _ => cases h
  | tok2 _ => cases h
  | scr _ _ => cases h
theorem kit_lt {K : PySem.W.Frag} {d e : D} (h : isLT d = some e) : ∃ b, e = .bool b ∧ PySem.W.kitAny K (.type (tyN d)) [.type "list", .type "tuple"] = some b := by
  have no : ∀ t : String, kitB t "list" = some false → kitB t "tuple" = some false → PySem.W.kitAny K (.type t) [.type "list", .type "tuple"] = some false := fun t h1 h2 =>
    kitAny_cons (kit_ty h1) (fun _ => kitAny_cons (kit_ty h2) (fun _ => kitAny_nil) fun z => nomatch z) fun z => nomatch z
  cases d with
  | none => cases h; exact ⟨_, rfl, no "NoneType" (by decide +kernel) (by decide +kernel)⟩
  | bool b => cases h; exact ⟨_, rfl, no "bool" (by decide +kernel) (by decide +kernel)⟩
  | int i => cases h; exact ⟨_, rfl, no "int" (by decide +kernel) (by decide +kernel)⟩
  | str x => cases h; exact ⟨_, rfl, no "str" (by decide +kernel) (by decide +kernel)⟩
  | list xs => cases h; exact ⟨_, rfl, kitAny_cons (b := true) (kit_ty (a := "list") (by decide +kernel)) (fun z => nomatch z) fun _ => rfl⟩
  | tuple xs => cases h; exact ⟨_, rfl, kitAny_cons (b := false) (kit_ty (a := "tuple") (by decide +kernel)) (fun _ => kitAny_cons (b := true) (kit_ty (a := "tuple") (by decide +kernel)) (fun z => nomatch z) fun _ => rfl) fun z => nomatch z⟩
  | dict _ => cases h
section
variable {m : Type → Type} [PM m] {X : Cx} {ρ : Rh} {a : Expr} {xa : m D} {pos : Pos}
theorem VE.isi2 {p p2 p3 p4 : Pos} {kk : Nat} (hm : X.mg "isinstance" = none) (hl : X.mg "list" = none) (ht : X.mg "tuple" = none) (ha : VE X ρ a xa) (hg : Gl X "isinstance" := by rfl) (hgl : Gl X "list" := by rfl) (hgt : Gl X "tuple" := by rfl)
    (he : starEach [a, .Tuple [.Name "list" p2, .Name "tuple" p3] kk p4] X.env = (false, eval a X.env) :: starEach [.Tuple [.Name "list" p2, .Name "tuple" p3] kk p4] X.env := by rfl) (he2 : starEach [.Tuple [.Name "list" p2, .Name "tuple" p3] kk p4] X.env = (false, eval (.Tuple [.Name "list" p2, .Name "tuple" p3] kk p4) X.env) :: starEach [] X.env := by rfl)
    (he3 : starEach [.Name "list" p2, .Name "tuple" p3] X.env = (false, eval (.Name "list" p2) X.env) :: starEach [.Name "tuple" p3] X.env := by rfl) (he4 : starEach [.Name "tuple" p3] X.env = (false, eval (.Name "tuple" p3) X.env) :: starEach [] X.env := by rfl)
    (hpl : (backTo pos (starEach [.Tuple [.Name "list" p2, .Name "tuple" p3] kk p4] X.env)).any (·.1) = false := by rfl) :
    VE X ρ (.Call (.Name "isinstance" p) [a, .Tuple [.Name "list" p2, .Name "tuple" p3] kk p4] [] pos) (xa >>= fun q => PM.lift (isLT q)) :=
  imE (pe_callB call_isiT hg hm boot_isinstance (pa_cons ha (pa_cons (pe_tup (pa_cons (pe_bltn (v := .ty "list") hgl hl boot_list rfl (by decide) (by decide)) (pa_cons (pe_bltn (v := .ty "tuple") hgt ht boot_tuple rfl (by decide) (by decide)) pa_nil he4) he3)) pa_nil he2) he) (by decide) (by decide) he hpl) fun σ H Q h => seqE h fun T' A v H1 p w ev rp h => by
    rw [PM.run_lift] at h
    obtain ⟨d, e, h⟩ := h
    refine ⟨by decide, fun t nt => ?_⟩
    have s : Step T' H1 (upd H1 t (.tup [.ty "list", .ty "tuple"])) := step_new nt
    have w2 := w.laid (o := .tup [.ty "list", .ty "tuple"]) nt
    obtain ⟨b, rfl, kb⟩ := kit_lt (K := X.K) e
    exact ⟨v, t, _, _, _, b, rfl, upd_same, .cons (.ty _) (.cons (.ty _) .nil), tyx_of (rp.step w s) e, kb, h _ _ ⟨s, w2.ok, .bl b⟩⟩
theorem VE.isi2_p {p p2 p3 p4 : Pos} {kk : Nat} {d : D} (hm : X.mg "isinstance" = none) (hl : X.mg "list" = none) (ht : X.mg "tuple" = none) (ha : VE (m := m) X ρ a (pure d)) (hg : Gl X "isinstance" := by rfl) (hgl : Gl X "list" := by rfl) (hgt : Gl X "tuple" := by rfl)
    (he : starEach [a, .Tuple [.Name "list" p2, .Name "tuple" p3] kk p4] X.env = (false, eval a X.env) :: starEach [.Tuple [.Name "list" p2, .Name "tuple" p3] kk p4] X.env := by rfl) (he2 : starEach [.Tuple [.Name "list" p2, .Name "tuple" p3] kk p4] X.env = (false, eval (.Tuple [.Name "list" p2, .Name "tuple" p3] kk p4) X.env) :: starEach [] X.env := by rfl)
    (he3 : starEach [.Name "list" p2, .Name "tuple" p3] X.env = (false, eval (.Name "list" p2) X.env) :: starEach [.Name "tuple" p3] X.env := by rfl) (he4 : starEach [.Name "tuple" p3] X.env = (false, eval (.Name "tuple" p3) X.env) :: starEach [] X.env := by rfl)
    (hpl : (backTo pos (starEach [.Tuple [.Name "list" p2, .Name "tuple" p3] kk p4] X.env)).any (·.1) = false := by rfl) :
    VE (m := m) X ρ (.Call (.Name "isinstance" p) [a, .Tuple [.Name "list" p2, .Name "tuple" p3] kk p4] [] pos) (PM.lift (isLT d)) := VE.eqv (VE.isi2 hm hl ht ha hg hgl hgt he he2 he3 he4 hpl) fun K h => rp K h
end
end Qv

namespace Qv
open PySem PySem.Spec PyProof.Rows L2
/-! ## the law's own def -/
def spLaw (K : PySem.W.Frag) : Sp := fun vs H Q _ => ∃ (a : Addr) (ns : List Int), vs = [.ref a] ∧ SqL K H a (ns.map V.int) ∧ Only H ∧ ∀ H', Q (.bl true) H'
theorem spLaw_len {K : PySem.W.Frag} (vs : List V) (H : Hp) (Q : VK) (E : XK) (h : spLaw K vs H Q E) : vs.length = ["script"].length := by
  obtain ⟨a, ns, rfl, _⟩ := h
  rfl
/-- behind «state = [0, 0]» -/
theorem law_start {K : PySem.W.Frag} {Γ : List Kd} {n : Nat} {x : PP D} {D : Ends} {a p : Addr} {ns : List Int} {H : Hp} {σ : L2.St} (hσ : σ = some (.ref a) :: some (.ref p) :: List.replicate n none) (hs : SqL K H a (ns.map V.int)) (hO : Only H) (np : H p = none) (h0 : kAt Γ 0 = .sh) (h1 : kAt Γ 1 = .sh)
    (hx : PM.run x fun p => p = .bool true) (q : ∀ H', D.rt (.bl true) H') : tS K Γ (some scrD :: some tokD :: List.replicate n none) (WT x) D σ (upd H p (.lst [.int 0, .int 0])) := by
  have key : ∀ fz : Bool, (fz = true → ∃ o, H a = some (.frz o (.lst (ns.map V.int)))) → (fz = false → KL K a (ns.map V.int)) → tS K Γ (some scrD :: some tokD :: List.replicate n none) (WT x) D σ (upd H p (.lst [.int 0, .int 0])) := fun fz f1 f2 => by
    let T : Tk := ⟨1, p, 0, a, ns, fz⟩
    have ok : T.ok (upd H p (.lst [.int 0, .int 0])) := by
      refine ⟨fun _ => ⟨⟨0, 0, by omega, by omega, upd_same⟩, fun z => ?_⟩, fun _ z => absurd rfl z, fun z => absurd (show (1 : Nat) = 2 from z) (by decide)⟩
      obtain ⟨o, e⟩ := f1 z
      exact ⟨o, by rw [upd_ne (show a ≠ p from fun z => by rw [← z, e] at np; cases np)]; exact e⟩
    have hA : ∀ b, AT T.S (fun _ => none) b → T.S b := fun b z => z.elim id fun ⟨_, e⟩ => nomatch e
    refine ⟨T, T.S, fun _ => none, ⟨?_, ⟨ok, fun b z => .inl z, fun b z => T.mu ok (hA b z)⟩, fun b z => z, fun i d h k => ?_, fun i d h k => ?_, fun i j b h => (nomatch h), fun i b h => (nomatch h)⟩, PM.mono (fun d e => ?_) hx⟩
    · rw [hσ]; simp
    · rw [hσ]
      match i, h with
      | 0, h => cases h; exact ⟨_, rfl, .scr rfl f2⟩
      | 1, h => cases h; exact ⟨_, rfl, .tok rfl⟩
      | i + 2, h =>
        have h := rAt_get _ _ _ h
        simp only [List.getElem?_cons_succ, List.getElem?_replicate] at h
        split at h <;> cases h
    · match i, h with
      | 0, h => rw [h0] at k; cases k
      | 1, h => rw [h1] at k; cases k
      | i + 2, h =>
        have h := rAt_get _ _ _ h
        simp only [List.getElem?_cons_succ, List.getElem?_replicate] at h
        split at h <;> cases h
    · subst e
      intro v H' _ _ r
      cases r
      exact q H'
  rcases hs with (hs | ⟨o, hs⟩) | hs
  · rcases hO a with z | ⟨o, xs, z⟩ <;> (rw [hs] at z; cases z)
  · exact key true (fun _ => ⟨o, hs⟩) fun z => nomatch z
  · exact key false (fun z => nomatch z) fun _ => hs
/-- behind «state = _law_state(script)» -/
theorem law_startA {K : PySem.W.Frag} {Γ : List Kd} {n : Nat} {x : PP D} {D : Ends} {a p c : Addr} {xs : List Int} {z : Int} {H : Hp} {σ : L2.St} (hσ : σ = some (.ref a) :: some (.ref p) :: List.replicate n none) (hne : p ≠ c) (hz : 0 ≤ z) (hxs : ∀ x ∈ xs, 0 ≤ x)
    (hp : H p = some (.lst [.ref c, .int z])) (hc : H c = some (.lst (xs.map V.int))) (h0 : kAt Γ 0 = .sh) (h1 : kAt Γ 1 = .sh) (hx : PM.run x fun p => p = .bool true) (q : ∀ H', D.rt (.bl true) H') : tS K Γ (none :: some tokA :: List.replicate n none) (WT x) D σ H := by
  let T : Tk := ⟨2, p, c, 0, [], false⟩
  have ok : T.ok H := ⟨fun z => absurd (show (2 : Nat) = 1 from z) (by decide), fun _ _ => rfl, fun _ => ⟨xs, z, hz, hxs, hne, hp, hc⟩⟩
  have hA : ∀ b, AT T.S (fun _ => none) b → T.S b := fun b z => z.elim id fun ⟨_, e⟩ => (nomatch e)
  refine ⟨T, T.S, fun _ => none, ⟨?_, ⟨ok, fun b z => .inl z, fun b z => T.mu ok (hA b z)⟩, fun b z => z, fun i d h k => ?_, fun i d h k => ?_, fun i j b h => (nomatch h), fun i b h => (nomatch h)⟩, PM.mono (fun d e => ?_) hx⟩
  · rw [hσ]; simp
  · rw [hσ]
    match i, h with
    | 0, h => cases h
    | 1, h => cases h; exact ⟨_, rfl, .tok2 rfl⟩
    | i + 2, h =>
      have h := rAt_get _ _ _ h
      simp only [List.getElem?_cons_succ, List.getElem?_replicate] at h
      split at h <;> cases h
  · match i, h with
    | 0, h => cases h
    | 1, h => rw [h1] at k; cases k
    | i + 2, h =>
      have h := rAt_get _ _ _ h
      simp only [List.getElem?_cons_succ, List.getElem?_replicate] at h
      split at h <;> cases h
  · subst e
    intro v H' _ _ r
    cases r
    exact q H'
def spLawA (K : PySem.W.Frag) : Sp := fun vs H Q _ => ∃ (a : Addr) (ns : List Int), vs = [.ref a] ∧ SqL K H a (ns.map V.int) ∧ ns.length ≤ 1000 ∧ ∀ H', Q (.bl true) H'
theorem spLawA_len {K : PySem.W.Frag} (vs : List V) (H : Hp) (Q : VK) (E : XK) (h : spLawA K vs H Q E) : vs.length = ["script"].length := by
  obtain ⟨a, ns, rfl, _⟩ := h
  rfl
end Qv

namespace Qv
open PySem PySem.Spec PyProof.Rows L2
/-! ## the laws' comparisons -/
def m_law_exact : Nat → List D → Option D
  | 0 => fun _ => none
  | n + 1 => un2 fun first_0 second_0 => (((PM.lift (isLT first_0)) >>= fun p => PM.lift (dTruth p)) >>= fun c => if c = true then ((((PM.lift (plainB PyData.isList first_0)) >>= fun p => (PM.lift (plainB PyData.isList second_0)) >>= fun q => PM.lift ((dNe p q).bind dBool)) >>= fun c => if c = true then pure true else ((PM.lift (plainB PyData.isTuple first_0)) >>= fun p => (PM.lift (plainB PyData.isTuple second_0)) >>= fun q => PM.lift ((dNe p q).bind dBool))) >>= fun c => if c = true then (pure (.bool false)) else (((PM.lift ((f1 dLen) [first_0])) >>= fun p => (PM.lift ((f1 dLen) [second_0])) >>= fun q => PM.lift (dEq p q)) >>= fun p => PM.lift (dBool p) >>= fun k => if k = true then (((compM (((PM.lift ((f1 dLen) [first_0])) >>= fun a => pure (a :: [])) >>= fun l => PM.lift (rng1L l)) (.n 2) (fun _ => pure true) (un1 fun k_1 => (((PM.lift (dIx first_0 k_1)) >>= fun a => ((PM.lift (dIx second_0 k_1)) >>= fun a => pure (a :: [])) >>= fun l => pure (a :: l)) >>= fun l => PM.lift ((m_law_exact n) l)))) >>= fun a => pure (a :: [])) >>= fun l => PM.lift ((f1 dAllL) l)) else pure (.bool false))) else (((PM.lift ((dIs first_0 .none).bind dBool)) >>= fun c => if c = true then pure true else (PM.lift ((dIs second_0 .none).bind dBool))) >>= fun c => if c = true then ((PM.lift (dIs first_0 .none)) >>= fun p => PM.lift (dBool p) >>= fun k => if k = true then (PM.lift (dIs second_0 .none)) else pure (.bool false)) else ((((PM.lift (plainB PyData.isStr first_0)) >>= fun p => (PM.lift (plainB PyData.isStr second_0)) >>= fun q => PM.lift (dEq p q)) >>= fun p => PM.lift (dBool p) >>= fun k => if k = true then ((PM.lift (plainB PyData.isBool first_0)) >>= fun p => (PM.lift (plainB PyData.isBool second_0)) >>= fun q => PM.lift (dEq p q)) else pure (.bool false)) >>= fun alike_2 => ((pure alike_2) >>= fun p => PM.lift (dBool p) >>= fun k => if k = true then (((PM.lift (plainB PyData.isInt first_0)) >>= fun p => (PM.lift (plainB PyData.isInt second_0)) >>= fun q => PM.lift (dEq p q)) >>= fun p => PM.lift (dBool p) >>= fun k => if k = true then (PM.lift (dEq first_0 second_0)) else pure (.bool false)) else pure (.bool false)))))
def m_law_eq : Nat → List D → Option D
  | 0 => fun _ => none
  | n + 1 => un2 fun told_0 due_0 => ((((PM.lift (plainB PyData.isList due_0)) >>= fun p => PM.lift (dTruth p)) >>= fun c => if c = true then pure true else ((PM.lift (plainB PyData.isTuple due_0)) >>= fun p => PM.lift (dTruth p))) >>= fun c => if c = true then ((((PM.lift (plainB PyData.isList told_0)) >>= fun p => (PM.lift (plainB PyData.isList due_0)) >>= fun q => PM.lift ((dNe p q).bind dBool)) >>= fun c => if c = true then pure true else ((PM.lift (plainB PyData.isTuple told_0)) >>= fun p => (PM.lift (plainB PyData.isTuple due_0)) >>= fun q => PM.lift ((dNe p q).bind dBool))) >>= fun c => if c = true then (pure (.bool false)) else (((PM.lift ((f1 dLen) [told_0])) >>= fun p => (PM.lift ((f1 dLen) [due_0])) >>= fun q => PM.lift ((dNe p q).bind dBool)) >>= fun c => if c = true then (pure (.bool false)) else ((compM (((PM.lift ((f1 dLen) [due_0])) >>= fun a => pure (a :: [])) >>= fun l => PM.lift (rng1L l)) (.n 2) (un1 fun k_1 => (((((PM.lift (dIx told_0 k_1)) >>= fun a => ((PM.lift (dIx due_0 k_1)) >>= fun a => pure (a :: [])) >>= fun l => pure (a :: l)) >>= fun l => PM.lift ((m_law_eq n) l)) >>= fun p => PM.lift (dTruth p)) >>= fun c => pure (!c))) (un1 fun k_1 => (pure k_1))) >>= fun p => PM.lift (dEq p (.list []))))) else ((PM.lift ((dIs due_0 .none).bind dBool)) >>= fun c => if c = true then (PM.lift (dIs told_0 .none)) else (((PM.lift (plainB PyData.isStr due_0)) >>= fun p => PM.lift (dTruth p)) >>= fun c => if c = true then ((PM.lift (plainB PyData.isStr told_0)) >>= fun p => PM.lift (dBool p) >>= fun k => if k = true then (PM.lift (dEq told_0 due_0)) else pure (.bool false)) else (((PM.lift (plainB PyData.isBool due_0)) >>= fun p => PM.lift (dTruth p)) >>= fun c => if c = true then ((PM.lift (plainB PyData.isBool told_0)) >>= fun p => PM.lift (dBool p) >>= fun k => if k = true then (PM.lift (dEq told_0 due_0)) else pure (.bool false)) else ((PM.lift (plainB PyData.isInt told_0)) >>= fun p => PM.lift (dBool p) >>= fun k => if k = true then (((PM.lift (plainB PyData.isBool told_0)) >>= fun p => PM.lift (dTruth p) >>= fun k => pure (.bool (!k))) >>= fun p => PM.lift (dBool p) >>= fun k => if k = true then (PM.lift (dEq told_0 due_0)) else pure (.bool false)) else pure (.bool false))))))
end Qv

namespace Qv
open PySem PySem.Spec PyProof.Rows L2
/-! ## plain laws of the mirrors' own words -/
theorem o_lift {α : Type} (o : Option α) : (PM.lift o : Option α) = o := id rfl
theorem o_pure {α : Type} (a : α) : (pure a : Option α) = some a := id rfl
theorem o_bind {α β : Type} (o : Option α) (f : α → Option β) : (o >>= f) = o.bind f := id rfl
theorem o_some {α β : Type} (a : α) (f : α → Option β) : (some a).bind f = f a := id rfl
theorem u2_eq {β : Type} (f : D → D → Option β) (a b : D) : un2 f [a, b] = f a b := id rfl
theorem u1_eq {β : Type} (f : D → Option β) (a : D) : un1 f [a] = f a := id rfl
theorem u3_eq {β : Type} (f : D → D → D → Option β) (a b c : D) : un3 f [a, b, c] = f a b c := id rfl
theorem u4_eq {β : Type} (f : D → D → D → D → Option β) (a b c d : D) : un4 f [a, b, c, d] = f a b c d := id rfl
theorem u5_eq {β : Type} (f : D → D → D → D → D → Option β) (a b c d e : D) : un5 f [a, b, c, d, e] = f a b c d e := id rfl
section
variable {α : Type}
theorem forB_foldl {f : α → D → Option α} {g : α → D → α} (I : α → List D → Prop) : ∀ {xs : List D} {s : α}, I s xs → (∀ s x xs, I s (x :: xs) → f s x = some (g s x) ∧ I (g s x) xs) → forB f s xs = some (xs.foldl g s)
  | [], s, _, _ => rfl
  | x :: xs, s, h, k => by
    show (f s x).bind (fun s' => forB f s' xs) = _
    rw [(k s x xs h).1]
    exact forB_foldl I (k s x xs h).2 k
theorem cmpD_map {f : D → Option (Option D)} {g : D → D} : ∀ {xs : List D}, (∀ x ∈ xs, f x = some (some (g x))) → cmpD f xs = some (xs.map g)
  | [], _ => rfl
  | x :: xs, h => by
    show (f x).bind (fun o => (cmpD f xs).bind fun ys => some (match o with | some y => y :: ys | none => ys)) = _
    rw [h x List.mem_cons_self, cmpD_map fun y hy => h y (List.mem_cons_of_mem _ hy)]
    rfl
theorem cmpD_fm {f : D → Option (Option D)} {g : D → Option D} : ∀ {xs : List D}, (∀ x ∈ xs, f x = some (g x)) → cmpD f xs = some (xs.filterMap g)
  | [], _ => rfl
  | x :: xs, h => by
    show (f x).bind (fun o => (cmpD f xs).bind fun ys => some (match o with | some y => y :: ys | none => ys)) = _
    rw [h x List.mem_cons_self, cmpD_fm fun y hy => h y (List.mem_cons_of_mem _ hy), List.filterMap_cons]
    cases g x <;> rfl
theorem catD_fm {f : D → Option (List D)} {g : D → List D} : ∀ {xs : List D}, (∀ x ∈ xs, f x = some (g x)) → catD f xs = some (xs.flatMap g)
  | [], _ => rfl
  | x :: xs, h => by
    show (f x).bind (fun o => (catD f xs).bind fun ys => some (o ++ ys)) = _
    rw [h x List.mem_cons_self, catD_fm fun y hy => h y (List.mem_cons_of_mem _ hy)]
    rfl
end
theorem line_le {n : Nat} (h : n ≤ 16777216) : n ≤ sizeLine := by rw [sizeLine_eq]; exact h
theorem sizeL_some {xs : List D} (h : xs.length ≤ 16777216) : sizeL xs = some xs := if_pos (line_le h)
theorem sizeS_some {xs : List D} (h : xs.length ≤ 4000) : sizeS xs = some xs := if_pos h
theorem turn_n {i : Nat} {x : D → Option D} (p : D) : turnM (m := Option) (.n i) (fun _ => pure true) (un1 x) p = (x p).bind fun y => some (some y) := rfl
theorem turn_nc {i : Nat} {c : D → Option Bool} {x : D → Option D} (p : D) : turnM (m := Option) (.n i) (un1 c) (un1 x) p = (c p).bind fun b => if b = true then (x p).bind fun y => some (some y) else some none := rfl
/-- [x p for p in ..] -/
theorem comp_map {it : Option (List D)} {ps : List D} {i : Nat} {x : D → Option D} {g : D → D} (h : it = some ps) (hz : ps.length ≤ 16777216) (hx : ∀ p ∈ ps, x p = some (g p)) : compM it (.n i) (fun _ => pure true) (un1 x) = some (.list (ps.map g)) := by
  unfold compM
  rw [h]
  show (sizeL ps).bind _ = _
  rw [sizeL_some hz]
  show Option.bind (cmpD _ ps) _ = _
  rw [cmpD_map (g := g) fun p hp => by rw [turn_n, hx p hp]; rfl]
  rfl
theorem comp_if {it : Option (List D)} {ps : List D} {i : Nat} {c : D → Option Bool} {x : D → Option D} {b : D → Bool} {g : D → D} (h : it = some ps) (hz : ps.length ≤ 16777216) (hc : ∀ p ∈ ps, c p = some (b p)) (hx : ∀ p ∈ ps, b p = true → x p = some (g p)) : compM it (.n i) (un1 c) (un1 x) = some (.list ((ps.filter b).map g)) := by
  unfold compM
  rw [h]
  show (sizeL ps).bind _ = _
  rw [sizeL_some hz]
  show Option.bind (cmpD _ ps) _ = _
  rw [cmpD_fm (g := fun p => if b p = true then some (g p) else none) fun p hp => by
    rw [turn_nc, hc p hp]
    show (if b p = true then _ else _) = _
    by_cases e : b p = true
    · rw [if_pos e, if_pos e, hx p hp e]; rfl
    · rw [if_neg e, if_neg e]]
  show some (PyData.list _) = _
  congr 2
  clear hz hc hx h
  induction ps with
  | nil => rfl
  | cons p ps ih =>
    rw [List.filterMap_cons, List.filter_cons, ih]
    by_cases e : b p = true
    · rw [if_pos e, if_pos e]; rfl
    · rw [if_neg e, if_neg e]
theorem comp2_map {it : Option (List D)} {ps : List D} {i j : Nat} {it1 : D → Option (List D)} {qs : D → List D} {x : D → D → Option D} {g : D → D → D} (h : it = some ps) (hz : ps.length ≤ 4000) (h1 : ∀ p ∈ ps, it1 p = some (qs p)) (hz1 : ∀ p ∈ ps, (qs p).length ≤ 4000) (hx : ∀ p ∈ ps, ∀ q ∈ qs p, x p q = some (g p q)) :
    comp2M it (.n i) (.n j) (fun _ => pure true) (un1 it1) (fun _ _ => pure true) (unl1 fun p => un1 (x p)) = some (.list (ps.flatMap fun p => (qs p).map (g p))) := by
  unfold comp2M
  rw [h]
  show (sizeS ps).bind _ = _
  rw [sizeS_some hz]
  show Option.bind (catD _ ps) _ = _
  rw [catD_fm (g := fun p => (qs p).map (g p)) fun p hp => ?_]
  · rfl
  · show (it1 p).bind _ = _
    rw [h1 p hp]
    show (sizeS (qs p)).bind _ = _
    rw [sizeS_some (hz1 p hp)]
    exact cmpD_map fun q hq => by
      show (x p q).bind _ = _
      rw [hx p hp q hq]; rfl
/-- range -/
theorem rng1 {n : Int} (h : n < 4611686018427387904) (h0 : -4611686018427387904 ≤ n) : rng1L [.int n] = some (rgL 0 n.toNat) := if_pos (by unfold okR; simp only [Bool.and_eq_true, decide_eq_true_eq]; omega)
theorem rng2 {a b : Int} (h : b < 4611686018427387904) (h0 : -4611686018427387904 ≤ b) (h1 : a < 4611686018427387904) (h2 : -4611686018427387904 ≤ a) : rng2L [.int a, .int b] = some (rgL a (b - a).toNat) := if_pos (by unfold okR; simp only [Bool.and_eq_true, decide_eq_true_eq]; omega)
theorem rgL_len {lo : Int} {n : Nat} : (rgL lo n).length = n := by simp [rgL]
/-- sorted lists are led to sorted lists -/
theorem ins_map {le : D → D → Bool} {f : D → D} {x : D} : ∀ {ys : List D}, (∀ y ∈ ys, le (f x) (f y) = le x y) → insD le (f x) (ys.map f) = (insD le x ys).map f
  | [], _ => rfl
  | y :: ys, h => by
    show (if le (f x) (f y) = true then _ else _) = List.map f (if le x y = true then _ else _)
    rw [h y List.mem_cons_self]
    by_cases e : le x y = true
    · rw [if_pos e, if_pos e]; rfl
    · rw [if_neg e, if_neg e, List.map_cons, ins_map fun z hz => h z (List.mem_cons_of_mem _ hz)]
theorem mem_ins {le : D → D → Bool} {x y : D} : ∀ {ys : List D}, y ∈ insD le x ys → y = x ∨ y ∈ ys
  | [], h => by simpa [insD] using h
  | z :: ys, h => by
    unfold insD at h
    by_cases e : le x z = true
    · rw [if_pos e] at h; simpa using h
    · rw [if_neg e] at h
      rcases List.mem_cons.mp h with h | h
      · exact .inr (by rw [h]; exact List.mem_cons_self)
      · exact (mem_ins h).imp id (List.mem_cons_of_mem _)
theorem mem_srt {le : D → D → Bool} {y : D} : ∀ {ys : List D}, y ∈ srtD le ys → y ∈ ys
  | [], h => h
  | z :: ys, h => by
    rcases mem_ins h with h | h
    · rw [h]; exact List.mem_cons_self
    · exact List.mem_cons_of_mem _ (mem_srt h)
theorem srt_map {le : D → D → Bool} {f : D → D} : ∀ {xs : List D}, (∀ x ∈ xs, ∀ y ∈ xs, le (f x) (f y) = le x y) → srtD le (xs.map f) = (srtD le xs).map f
  | [], _ => rfl
  | x :: xs, h => by
    show insD le (f x) (srtD le (xs.map f)) = (insD le x (srtD le xs)).map f
    rw [srt_map fun a ha b hb => h a (List.mem_cons_of_mem _ ha) b (List.mem_cons_of_mem _ hb)]
    exact ins_map fun y hy => h x List.mem_cons_self y (List.mem_cons_of_mem _ (mem_srt hy))
/-! ## runs -/
section
variable {m : Type → Type} [PM m] {α β : Type}
theorem run_b {x : m α} {f : α → m β} {K : β → Prop} (h : PM.run x fun a => PM.run (f a) K) : PM.run (x >>= f) K := (PM.run_bind _ _ _).mpr h
theorem run_p {a : α} {K : α → Prop} (h : K a) : PM.run (pure a : m α) K := (PM.run_pure _ _).mpr h
theorem run_l {o : Option α} {a : α} {K : α → Prop} (e : o = some a) (h : K a) : PM.run (PM.lift o : m α) K := (PM.run_lift _ _).mpr ⟨a, e, h⟩
theorem run_lb {o : Option α} {a : α} {f : α → m β} {K : β → Prop} (e : o = some a) (h : PM.run (f a) K) : PM.run (PM.lift o >>= f : m β) K := run_b (run_l e h)
theorem run_pb {a : α} {f : α → m β} {K : β → Prop} (h : PM.run (f a) K) : PM.run (pure a >>= f : m β) K := run_b (run_p h)
theorem run_as {γ : Type} {x : m α} {f : α → m β} {g : β → m γ} {K : γ → Prop} (h : PM.run (x >>= fun a => f a >>= g) K) : PM.run ((x >>= f) >>= g) K := by
  rw [PM.run_bind, PM.run_bind]
  rw [PM.run_bind] at h
  exact PM.mono (fun a q => (PM.run_bind _ _ _).mp q) h
/-- a loop whose turns all go on -/
theorem run_forO {f : α → D → m (Out α)} {K : Out α → Prop} (I : α → List D → Prop) : ∀ {xs : List D} {s : α}, I s xs → (∀ s x xs, I s (x :: xs) → PM.run (f s x) fun o => ∃ s', o = .nx s' ∧ I s' xs) → (∀ s, I s [] → K (.nx s)) → PM.run (forO f s xs) K
  | [], s, h, k, e => run_p (e s h)
  | x :: xs, s, h, k, e => by
    show PM.run (f s x >>= _) K
    refine run_b (PM.mono (fun o q => ?_) (k s x xs h))
    obtain ⟨s', rfl, i⟩ := q
    exact run_forO I i k e
theorem run_forB {f : α → D → m α} {K : α → Prop} (I : α → List D → Prop) : ∀ {xs : List D} {s : α}, I s xs → (∀ s x xs, I s (x :: xs) → PM.run (f s x) fun s' => I s' xs) → (∀ s, I s [] → K s) → PM.run (forB f s xs) K
  | [], s, h, k, e => run_p (e s h)
  | x :: xs, s, h, k, e => run_b (PM.mono (fun s' q => run_forB I q k e) (k s x xs h))
end
theorem run_dC {k : Int} {K : D → Prop} (h0 : 0 < k) (h1 : k < 1000000000) (h : ∀ d : Int, 0 ≤ d → d < k → K (.int d)) : PM.run (drawC [tokD, scrD, .int k]) K := by
  show PM.run (if isTok tokD && isScr scrD && decide (k < 1000000000) then draw k else fail) K
  rw [if_pos (by simp [isTok, isScr, tokD, scrD, h1])]
  exact run_draw.mpr ⟨h0, h⟩
theorem run_dA {k : Int} {K : D → Prop} (h0 : 0 < k) (h1 : k < 1000000000) (h : ∀ d : Int, 0 ≤ d → d < k → K (.int d)) : PM.run (drawA [tokA, .int k]) K := by
  show PM.run (if isTokA tokA && decide (k < 1000000000) then draw k else fail) K
  rw [if_pos (by simp [isTokA, tokA, h1])]
  exact run_draw.mpr ⟨h0, h⟩
/-! ## the law's comparison of alike things -/
def good : Nat → D → Bool
  | 0, _ => false
  | n + 1, .list xs => decide (xs.length ≤ 16777216) && xs.all (good n)
  | n + 1, .tuple xs => decide (xs.length ≤ 16777216) && xs.all (good n)
  | _ + 1, .dict _ => false
  | _ + 1, _ => true
theorem plainAll_iff : ∀ {xs : List D}, PyData.plainAll xs = true ↔ ∀ x ∈ xs, x.plain = true
  | [] => by simp [PyData.plainAll]
  | x :: xs => by simp [PyData.plainAll, plainAll_iff (xs := xs)]
theorem good_plain : ∀ {n : Nat} {d : D}, good n d = true → d.plain = true
  | n + 1, .list xs, h => by
    simp only [good, Bool.and_eq_true, List.all_eq_true] at h
    exact plainAll_iff.mpr fun x hx => good_plain (h.2 x hx)
  | n + 1, .tuple xs, h => by
    simp only [good, Bool.and_eq_true, List.all_eq_true] at h
    exact plainAll_iff.mpr fun x hx => good_plain (h.2 x hx)
  | n + 1, .none, _ => rfl
  | n + 1, .bool _, _ => rfl
  | n + 1, .int _, _ => rfl
  | n + 1, .str _, _ => rfl
theorem plainB_some {g : D → Bool} {d : D} (h : d.plain = true) : plainB g d = some (.bool (g d)) := if_pos h
theorem rgL_mem {lo : Int} {n : Nat} {p : D} (h : p ∈ rgL lo n) : ∃ k : Nat, k < n ∧ p = .int (lo + k) := by
  unfold rgL at h
  obtain ⟨k, hk, e⟩ := List.mem_map.mp h
  exact ⟨k, by simpa using hk, e.symm⟩
theorem allL_true {α : Type} {xs : List α} : f1 dAllL [.list (xs.map fun _ => PyData.bool true)] = some (.bool true) := by
  have e : ∀ xs : List α, dBools (xs.map fun _ => PyData.bool true) = some (xs.map fun _ => true) := fun xs => by
    induction xs with
    | nil => rfl
    | cons x xs ih => rw [List.map_cons, dBools, ih]; rfl
  show (dBools _).map _ = _
  rw [e]
  simp
theorem exact_seq {n : Nat} {d : D} {xs : List D} (hp : d.plain = true) (hl : isLT d = some (.bool true)) (hn : f1 dLen [d] = some (.int xs.length)) (hx : ∀ i : Int, dIx d (.int i) = atI xs i) (hz : xs.length ≤ 16777216) (h : ∀ x ∈ xs, m_law_exact n [x, x] = some (.bool true)) : m_law_exact (n + 1) [d, d] = some (.bool true) := by
  have hc : compM (m := Option) (((PM.lift (f1 dLen [d])) >>= fun a => pure (a :: [])) >>= fun l => PM.lift (rng1L l)) (.n 2) (fun _ => pure true) (un1 fun k_1 => (((PM.lift (dIx d k_1)) >>= fun a => ((PM.lift (dIx d k_1)) >>= fun a => pure (a :: [])) >>= fun l => pure (a :: l)) >>= fun l => PM.lift ((m_law_exact n) l))) = some (.list ((rgL 0 xs.length).map fun _ => PyData.bool true)) := by
    refine comp_map (ps := rgL 0 xs.length) ?_ (by rw [rgL_len]; exact hz) fun p hp => ?_
    · rw [hn]
      have e := rng1 (n := (xs.length : Int)) (by omega) (by omega)
      rw [Int.toNat_natCast] at e
      simp only [o_lift, o_pure, o_bind, o_some, e]
    · obtain ⟨k, hk, rfl⟩ := rgL_mem hp
      simp only [hx]
      have e : atI xs (0 + (k : Int)) = some xs[k] := by rw [Int.zero_add]; exact atI_nat (List.getElem?_eq_getElem hk)
      simp only [o_lift, o_pure, o_bind, o_some, e, h _ (List.getElem_mem hk)]
  have e1 : dNe (PyData.bool d.isList) (.bool d.isList) = some (.bool false) := by cases d.isList <;> rfl
  have e2 : dNe (PyData.bool d.isTuple) (.bool d.isTuple) = some (.bool false) := by cases d.isTuple <;> rfl
  unfold m_law_exact
  simp only [u2_eq, o_lift, o_pure, o_bind, hl, plainB_some hp, hn, o_some, e1, e2]
  have e3 : dEq (.int (xs.length : Int)) (.int (xs.length : Int)) = some (.bool true) := by
    show some (PyData.bool ((xs.length : Int) == xs.length)) = _
    rw [beq_self_eq_true]
  simp only [o_lift, o_pure, o_bind, hn, o_some] at hc
  simp only [dTruth, if_true, dBool, o_some, Bool.false_eq_true, if_false, e3, hc, allL_true]
theorem exact_refl : ∀ {n : Nat} {d : D}, good n d = true → m_law_exact n [d, d] = some (.bool true)
  | n + 1, .list xs, h => by
    have hp := good_plain h
    simp only [good, Bool.and_eq_true, List.all_eq_true, decide_eq_true_eq] at h
    exact exact_seq hp rfl rfl (fun i => rfl) h.1 fun x hx => exact_refl (h.2 x hx)
  | n + 1, .tuple xs, h => by
    have hp := good_plain h
    simp only [good, Bool.and_eq_true, List.all_eq_true, decide_eq_true_eq] at h
    exact exact_seq hp rfl rfl (fun i => rfl) h.1 fun x hx => exact_refl (h.2 x hx)
  | n + 1, .none, _ => rfl
  | n + 1, .bool b, _ => by cases b <;> rfl
  | n + 1, .int i, _ => by
    have e : dEq (PyData.int i) (.int i) = some (.bool true) := by
      show some (PyData.bool (i == i)) = _
      rw [beq_self_eq_true]
    have k : m_law_exact (n + 1) [.int i, .int i] = (dEq (PyData.int i) (.int i)) := rfl
    rw [k, e]
  | n + 1, .str x, _ => by
    have e : dEq (PyData.str x) (.str x) = some (.bool true) := by
      simp [dEq, PyData.plain, PyData.depth, PyData.eqv]
    have k : m_law_exact (n + 1) [.str x, .str x] = (dEq (PyData.str x) (.str x)) := rfl
    rw [k, e]
/-! ## small words -/
theorem dMul_l {i j : Int} (h : -18446744073709551616 < i ∧ i < 18446744073709551616) : dMul (.int i) (.int j) = some (.int (i * j)) := by
  show (if _ then _ else _) = _
  rw [if_pos]
  have e : smallI i = true := by unfold smallI; simp only [Bool.and_eq_true, decide_eq_true_eq]; omega
  rw [e]; rfl
theorem dMul_r {i j : Int} (h : -18446744073709551616 < j ∧ j < 18446744073709551616) : dMul (.int i) (.int j) = some (.int (i * j)) := by
  show (if _ then _ else _) = _
  rw [if_pos]
  have e : smallI j = true := by unfold smallI; simp only [Bool.and_eq_true, decide_eq_true_eq]; omega
  rw [e, Bool.or_true]; rfl
theorem dDiv_s {i j : Int} (h0 : j ≠ 0) (h : j.natAbs < 1073741824) : dDiv (.int i) (.int j) = some (.int (i.fdiv j)) := by
  show (if _ then _ else _) = _
  rw [if_pos]
  simp only [Bool.and_eq_true, Bool.or_eq_true, decide_eq_true_eq]
  exact ⟨h0, .inl h⟩
theorem dMod_s {i j : Int} (h0 : j ≠ 0) : dMod (.int i) (.int j) = some (.int (i.fmod j)) := by
  show (if _ then _ else _) = _
  rw [if_pos (by simpa using h0)]
theorem dEq_ii {i j : Int} : dEq (.int i) (.int j) = some (.bool (i == j)) := rfl
theorem dNe_self {d : D} (h : d.plain = true) (hd : d.depth ≤ 60) (hi : ∀ i, d ≠ .int i) : dNe d d = some (.bool false) := by
  have e : dNe d d = if d.plain && d.plain && decide (min d.depth d.depth ≤ 60) then some (.bool (!PyData.eqv d d)) else none := by
    cases d with
    | int i => exact absurd rfl (hi i)
    | _ => rfl
  rw [e, if_pos (by rw [h, Nat.min_self]; simpa using hd), PySem.SeqAt.eqv_refl_plain d h]
  rfl
/-- out = out + [..] -/
theorem forB_cat {F : D → Option D} {G : D → List D} : ∀ {xs : List D} {acc : List D}, (∀ p ∈ xs, F p = some (.list (G p))) → acc.length + (xs.flatMap G).length ≤ 16777216 → forB (m := Option) (fun (s : D) p => ((F p) >>= fun q => PM.lift (dAdd s q)) >>= fun o => pure o) (.list acc) xs = some (.list (acc ++ xs.flatMap G))
  | [], acc, _, _ => by simp [forB]
  | x :: xs, acc, h, hz => by
    have hz' : acc.length + ((G x).length + (xs.flatMap G).length) ≤ 16777216 := by simpa [List.flatMap_cons] using hz
    have e : dAdd (.list acc) (.list (G x)) = some (.list (acc ++ G x)) := if_pos (line_le (by omega))
    show Option.bind (((F x) >>= fun q => PM.lift (dAdd (.list acc) q)) >>= fun o => pure o) _ = _
    rw [h x List.mem_cons_self]
    have e2 : ((some (PyData.list (G x)) >>= fun q => PM.lift (dAdd (.list acc) q)) >>= fun o => (pure o : Option D)) = some (.list (acc ++ G x)) := by
      simp only [o_bind, o_lift, o_pure, o_some, e]
    rw [e2, o_some, forB_cat (fun p hp => h p (List.mem_cons_of_mem _ hp)) (by rw [List.length_append]; omega), List.flatMap_cons, List.append_assoc]
/-! ## pairs -/
def pr (x y : Int) : D := .tuple [.int x, .int y]
theorem lt_pr {a b c d : Int} : W.dataLt (pr a b) (pr c d) = (decide (a < c) || (decide (a = c) && decide (b < d))) := by
  by_cases h1 : a < c
  · simp [W.dataLt, pr, W.keyToks, W.keyToksAll, PyProof.Rows.lexLt, PyProof.Rows.itemLt, h1]
  · by_cases h2 : a = c
    · subst h2
      by_cases h3 : b < d
      · simp [W.dataLt, pr, W.keyToks, W.keyToksAll, PyProof.Rows.lexLt, PyProof.Rows.itemLt, h3]
      · by_cases h4 : b = d
        · subst h4; simp [W.dataLt, pr, W.keyToks, W.keyToksAll, PyProof.Rows.lexLt, PyProof.Rows.itemLt]
        · simp [W.dataLt, pr, W.keyToks, W.keyToksAll, PyProof.Rows.lexLt, PyProof.Rows.itemLt, h3, h4]
    · simp [W.dataLt, pr, W.keyToks, W.keyToksAll, PyProof.Rows.lexLt, PyProof.Rows.itemLt, h1, h2]
      intro h; omega
def IsPr (d : D) : Prop := ∃ a b, d = pr a b
theorem depthAll_le {n : Nat} : ∀ {xs : List D}, (∀ x ∈ xs, x.depth ≤ n) → PyData.depthAll xs ≤ n
  | [], _ => by simp [PyData.depthAll]
  | x :: xs, h => by
    rw [PyData.depthAll]
    exact Nat.max_le.mpr ⟨h x List.mem_cons_self, depthAll_le fun y hy => h y (List.mem_cons_of_mem _ hy)⟩
theorem pr_depth {d : D} (h : IsPr d) : d.depth ≤ 2 := by
  obtain ⟨a, b, rfl⟩ := h
  simp [pr, PyData.depth, PyData.depthAll]
theorem pr_plain {d : D} (h : IsPr d) : d.plain = true := by
  obtain ⟨a, b, rfl⟩ := h
  rfl
theorem sortOk_pr {xs : List D} (h : ∀ x ∈ xs, IsPr x) : sortOk xs = true := by
  have hc : ∀ x ∈ xs, cls x = .vi := fun x hx => by obtain ⟨a, b, rfl⟩ := h x hx; rfl
  have hl : likes xs = true := by
    cases xs with
    | nil => rfl
    | cons x xs =>
      show ((cls x).ok && xs.all fun y => decide (cls y = cls x)) = true
      rw [hc x List.mem_cons_self]
      simp only [Sh.ok, Bool.true_and, List.all_eq_true, decide_eq_true_eq]
      exact fun y hy => hc y (List.mem_cons_of_mem _ hy)
  unfold sortOk
  rw [hl, Bool.true_and, Bool.and_eq_true]
  refine ⟨decide_eq_true (Nat.le_trans (depthAll_le fun x hx => pr_depth (h x hx)) (by decide)), List.all_eq_true.mpr fun x hx => ?_⟩
  obtain ⟨a, b, rfl⟩ := h x hx
  rfl
/-- led along -/
def tr (x y : Int) : D → D
  | .tuple [.int a, .int b] => pr (x + a) (y + b)
  | d => d
theorem tr_pr {x y a b : Int} : tr x y (pr a b) = pr (x + a) (y + b) := rfl
theorem le_tr {x y : Int} {p q : D} (hp : IsPr p) (hq : IsPr q) : leD (tr x y p) (tr x y q) = leD p q := by
  obtain ⟨a, b, rfl⟩ := hp
  obtain ⟨c, d, rfl⟩ := hq
  unfold leD
  rw [tr_pr, tr_pr, lt_pr, lt_pr]
  have e1 : decide (x + c < x + a) = decide (c < a) := by simp
  have e2 : decide (x + c = x + a) = decide (c = a) := by simp
  have e3 : decide (y + d < y + b) = decide (d < b) := by simp
  rw [e1, e2, e3]
theorem srt_tr {x y : Int} {xs : List D} (h : ∀ p ∈ xs, IsPr p) : srtD leD (xs.map (tr x y)) = (srtD leD xs).map (tr x y) := srt_map fun p hp q hq => le_tr (h p hp) (h q hq)
/-- the cells of a box -/
def boxZ (W H : Nat) (x y : Int) : List D := (List.range W).flatMap fun (i : Nat) => (List.range H).map fun (j : Nat) => pr (x + i) (y + j)
theorem box_pr {W H : Nat} {x y : Int} : ∀ p ∈ boxZ W H x y, IsPr p := fun p hp => by
  simp only [boxZ, List.mem_flatMap, List.mem_map] at hp
  obtain ⟨i, _, j, _, rfl⟩ := hp
  exact ⟨_, _, rfl⟩
theorem box_tr {W H : Nat} {x y a b : Int} : boxZ W H (x + a) (y + b) = (boxZ W H a b).map (tr x y) := by
  simp only [boxZ, List.map_flatMap, List.map_map, Function.comp_def, tr_pr, Int.add_assoc]
theorem box_len {W H : Nat} {x y : Int} : (boxZ W H x y).length = W * H := by
  have e : ∀ n : Nat, ((List.range n).map fun _ => H).sum = n * H := fun n => by
    induction n with
    | zero => simp
    | succ n ih => rw [List.range_succ, List.map_append, List.sum_append, ih]; simp [Nat.succ_mul]
  simp [boxZ, List.length_flatMap, e]
theorem box_of {W H : Nat} {x y : Int} {g : D → D → D} (hg : ∀ i j : Nat, g (.int (0 + (i : Int))) (.int (0 + (j : Int))) = pr (x + i) (y + j)) : ((rgL 0 W).flatMap fun p => (rgL 0 H).map (g p)) = boxZ W H x y := by
  simp only [boxZ, rgL, List.flatMap_map, List.map_map, Function.comp_def, hg]
/-! ## equality, by computation -/
mutual
def eqD : D → D → Bool
  | .none, .none => true
  | .bool a, .bool b => a == b
  | .int i, .int j => decide (i = j)
  | .str x, .str y => decide (x = y)
  | .list xs, .list ys => eqDs xs ys
  | .tuple xs, .tuple ys => eqDs xs ys
  | _, _ => false
def eqDs : List D → List D → Bool
  | [], [] => true
  | x :: xs, y :: ys => eqD x y && eqDs xs ys
  | _, _ => false
end
mutual
theorem eqD_eq : ∀ (a b : D), eqD a b = true → a = b
  | .none, b, h => by cases b <;> first | rfl | simp [eqD] at h
  | .bool x, b, h => by
    cases b with
    | bool y => simp [eqD] at h; rw [h]
    | _ => simp [eqD] at h
  | .int x, b, h => by
    cases b with
    | int y => simp [eqD] at h; rw [h]
    | _ => simp [eqD] at h
  | .str x, b, h => by
    cases b with
    | str y => simp [eqD] at h; rw [h]
    | _ => simp [eqD] at h
  | .list x, b, h => by
    cases b with
    | list y => rw [eqD] at h; rw [eqDs_eq x y h]
    | _ => simp [eqD] at h
  | .tuple x, b, h => by
    cases b with
    | tuple y => rw [eqD] at h; rw [eqDs_eq x y h]
    | _ => simp [eqD] at h
  | .dict x, b, h => by cases b <;> simp [eqD] at h
theorem eqDs_eq : ∀ (a b : List D), eqDs a b = true → a = b
  | [], b, h => by cases b <;> first | rfl | simp [eqDs] at h
  | x :: xs, b, h => by
    cases b with
    | nil => simp [eqDs] at h
    | cons y ys =>
      simp only [eqDs, Bool.and_eq_true] at h
      rw [eqD_eq x y h.1, eqDs_eq xs ys h.2]
end
/-- an answer, by computation -/
def isS (o : Option D) (d : D) : Bool := match o with | some x => eqD x d | none => false
theorem isS_eq {o : Option D} {d : D} (h : isS o d = true) : o = some d := by
  cases o with
  | none => cases h
  | some x => rw [eqD_eq x d h]
def isT : D → Bool
  | .bool true => true
  | _ => false
theorem isT_eq {d : D} (h : isT d = true) : d = .bool true := by
  cases d with
  | bool b => cases b <;> first | rfl | cases h
  | _ => cases h
def listOf : D → List D
  | .list xs => xs
  | _ => []
theorem flat_list {rs : List (List D)} : (rs.map PyData.list).flatMap listOf = rs.flatMap id := by
  induction rs with
  | nil => rfl
  | cons r rs ih => rw [List.map_cons, List.flatMap_cons, List.flatMap_cons, ih]; rfl
/-! ## what surely comes -/
section
variable {m : Type → Type} [PM m] {α β : Type}
def Sure (x : m α) (v : α) : Prop := ∀ K : α → Prop, K v → PM.run x K
theorem sure_p {a : α} : Sure (pure a : m α) a := fun K h => run_p h
theorem sure_l {o : Option α} {a : α} (e : o = some a) : Sure (PM.lift o : m α) a := fun K h => run_l e h
theorem sure_b {x : m α} {f : α → m β} {a : α} {b : β} (h1 : Sure x a) (h2 : Sure (f a) b) : Sure (x >>= f) b := fun K h => run_b (h1 _ (h2 K h))
theorem run_s {x : m α} {a : α} {K : α → Prop} (h : Sure x a) (k : K a) : PM.run x K := h K k
theorem sure_cmp {f : D → m (Option D)} {g : D → Option D} : ∀ {xs : List D}, (∀ x ∈ xs, Sure (f x) (g x)) → Sure (cmpD f xs) (xs.filterMap g)
  | [], _ => sure_p
  | x :: xs, h => by
    refine sure_b (h x List.mem_cons_self) (sure_b (sure_cmp fun y hy => h y (List.mem_cons_of_mem _ hy)) ?_)
    rw [List.filterMap_cons]
    cases g x <;> exact sure_p
theorem sure_turn {i : Nat} {x : D → m D} {p q : D} (h : Sure (x p) q) : Sure (turnM (m := m) (.n i) (fun _ => pure true) (un1 x) p) (some q) := by
  unfold turnM
  refine sure_b (sure_l rfl) (sure_b sure_p ?_)
  rw [if_pos rfl]
  exact sure_b h sure_p
theorem sure_comp {it : m (List D)} {ps : List D} {i : Nat} {x : D → m D} {g : D → D} (h : Sure it ps) (hz : ps.length ≤ 16777216) (hx : ∀ p ∈ ps, Sure (x p) (g p)) : Sure (compM it (.n i) (fun _ => pure true) (un1 x)) (.list (ps.map g)) := by
  unfold compM
  refine sure_b h (sure_b (sure_l (sizeL_some hz)) (sure_b (sure_cmp (g := fun p => some (g p)) fun p hp => sure_turn (hx p hp)) ?_))
  have e : ∀ ps : List D, ps.filterMap (fun p => some (g p)) = ps.map g := fun ps => by
    induction ps with
    | nil => rfl
    | cons p ps ih => rw [List.filterMap_cons, ih]; rfl
  rw [e]
  exact sure_p
theorem sure_forB {f : α → D → m α} {g : α → D → α} : ∀ {xs : List D} {s : α}, (∀ s, ∀ x ∈ xs, Sure (f s x) (g s x)) → Sure (forB f s xs) (xs.foldl g s)
  | [], s, _ => sure_p
  | x :: xs, s, h => sure_b (h s x List.mem_cons_self) (sure_forB fun s y hy => h s y (List.mem_cons_of_mem _ hy))
end
end Qv

namespace Qv
open PySem PySem.Spec PyProof.Rows L2
/-! ## sorted, of whatever is gathered -/
mutual
theorem reads_lt {h : Heap} : ∀ {v : Value} {d : D} {as : List Addr}, Reads h v d as → ∀ a ∈ as, a < h.objs.size
  | _, _, _, .none, _, m => by simp at m
  | _, _, _, .bool _, _, m => by simp at m
  | _, _, _, .int _ _, _, m => by simp at m
  | _, _, _, .str _ _, _, m => by simp at m
  | _, _, _, .list h1 h2 h3 h4, a, m => by
    rcases List.mem_cons.mp m with e | m
    · rw [e]; exact Heap.lt_size h1
    · exact readsAll_lt h4 a m
  | _, _, _, .tuple h1 h2 h3 h4, a, m => readsAll_lt h4 a m
  | _, _, _, .dict h1 h2 h3 h4 h5, a, m => by
    rcases List.mem_append.mp m with m | m
    · rcases List.mem_cons.mp m with e | m
      · rw [e]; exact Heap.lt_size h1
      · exact readsAll_lt h4 a m
    · exact readsAll_lt h5 a m
theorem readsAll_lt {h : Heap} : ∀ {v : List Value} {d : List D} {as : List Addr}, ReadsAll h v d as → ∀ a ∈ as, a < h.objs.size
  | _, _, _, .nil, _, m => by simp at m
  | _, _, _, .cons h1 h2, a, m => by
    rcases List.mem_append.mp m with m | m
    · exact reads_lt h1 a m
    · exact readsAll_lt h2 a m
end
theorem reads_each {h : Heap} {vs : List Value} {ds : List D} (e : W.EachIs (fun v d => ∃ as, Reads h v d as) vs ds) {a : Addr} {o : Obj} (ha : h.objs.size = a) : W.EachIs (fun v d => ∃ as, Reads (h.push o) v d as ∧ a ∉ as) vs ds :=
  e.mono fun v d ⟨as, r⟩ => ⟨as, PyProof.Rows.Reads.keeps (fun b u q => Heap.get?_push_of_some _ q) r, fun m => by have z := reads_lt r a m; rw [ha] at z; exact Nat.lt_irrefl _ z⟩
theorem none_keep {h h' : Heap} (k : ∀ b o, h.get? b = some o → h'.get? b = some o) : h.get? h'.objs.size = none := by
  cases e : h.get? h'.objs.size with
  | none => rfl
  | some o => exact absurd (Heap.lt_size (k _ _ e)) (Nat.lt_irrefl _)
section
variable {prog : Program} {w : World} {A : Around} {E : Value → Shared → Prop} {s : Shared}
/-- what the gathering of x must leave -/
def Gath (prog : Program) (w : World) (A : Around) (s : Shared) (R : Value → D → Prop) (Q : Value → Shared → Prop) (vs : List Value) (s1 : Shared) : Prop :=
  (∀ b o, s.heap.get? b = some o → s1.heap.get? b = some o) ∧ s1.gens = s.gens ∧ s1.os = s.os ∧ ∃ ds : List D, W.EachIs R vs ds ∧ W.EachIs (fun v d => ∃ as, Reads s1.heap v d as) vs ds ∧
    W.AllAlike ds ∧ W.Sortable ds ∧ ds.length ≤ sizeLine ∧ (∀ d ∈ ds, A.units + 2 + d.depth < cLine) ∧
    ∀ p c out s', (∀ b o, s.heap.get? b = some o → s'.heap.get? b = some o) → s'.gens = s.gens → s'.os = s.os → s.heap.get? p = none → s'.heap.get? p = some (seqObj "list" (List.toArray out) c) → out.length = ds.length → W.EachIs R out (srtD leD ds) → Q (.ref p) s'
theorem sorted_of {x : Value} {R : Value → D → Prop} {Q : Value → Shared → Prop} (hc : wpAny (model prog w) A.in1 (collect x) (Gath prog w A s R Q) E s) : wpAny (model prog w) A (call (.builtin "sorted") [x]) Q E s := by
  refine Calls.call_function_entry kind_sorted plain_sorted entry_sorted (args_sorted1 _) ?_
  unfold Builtin.«sorted»
  refine wpAny_bind (m := checkCount "sorted" 1 1 ([x] : List Value).length) (wpAny_pure ?_)
  refine wpAny_bind (wpAny_mono hc (fun vs s1 g => ?_) fun _ _ h => h)
  obtain ⟨k1, g1, o1, ds, e, er, hal, hso, hL, hu, q⟩ := g
  refine wpAny_bind (wpAny_newList ?_ (by rw [e.length]; exact hL))
  have at0 : (s1.heap.push (seqObj "list" vs.toArray 0)).get? s1.heap.objs.size = some (seqObj "list" vs.toArray 0) := Heap.get?_push_size _ rfl
  refine wpAny_bind (wpAny_holding (W.list_sort_data (enc := id) (bs := ds) (R := R) (s := { s1 with heap := s1.heap.push (seqObj "list" vs.toArray 0) }) at0 e (reads_each er rfl) (by rw [List.map_id]; exact hal) (by rw [List.map_id]; exact hso) hL (fun b hb => ?_) fun out ho eo => ?_))
  · have := hu b hb
    show A.units + 1 + 1 + b.depth < cLine
    omega
  · obtain ⟨c, hc⟩ := sortedHeap_at (vs := vs) (out := List.toArray out) at0
    rw [merge_leD] at eo
    refine wpAny_pure ⟨_, rfl, q _ c out _ (fun b u hb => ?_) g1 o1 (none_keep k1) hc ho eo⟩
    have l1 := Heap.lt_size (k1 b u hb)
    show (sortedHeap (s1.heap.push (seqObj "list" vs.toArray 0)) s1.heap.objs.size vs (List.toArray out)).get? b = some u
    rw [sortedHeap_old (Nat.ne_of_lt l1) (by rw [size_push']; exact Nat.lt_succ_of_lt l1)]
    exact Heap.get?_push_of_some _ (k1 b u hb)
end
end Qv

namespace Qv
open PySem PySem.Spec PyProof.Rows L2
/-! ## set(xs), xs a list of ints -/
abbrev so0 (w : World) : Obj := { cls := .type "set", dict := none, data := .set #[] 0 (.fresh 0 0 (!w.params.followText "set-order")) }
section
variable {P : Program} {w : World} {A : Around} {E : Value → Shared → Prop} {s : Shared}
set_option maxHeartbeats 3200000 in
theorem set_listI {l : Addr} {its : Array Value} (ns : List Int) {Q : Value → Shared → Prop} (hh : A.handled = none) (hl : s.heap.IsList l its) (hi : IntsAre its.toList ns) (hb : ns.length + 1 < scanBound)
    (h : ∀ (h' : Heap) (tk c : Nat), SetR w h' s.heap.objs.size (fun j => decide (j ∈ ns)) c → (∀ b o, s.heap.get? b = some o → h'.get? b = some o) → Q (.ref s.heap.objs.size) { s with heap := h', toks := tk }) :
    wpAny (model P w) A (call (.type "set") [.ref l]) Q E s := by
  have hn : its.size = ns.length := by have q := IntsAre.length hi; rwa [Array.length_toList] at q
  obtain ⟨c0, tl, mro⟩ := F.called_set.mro
  have m1 := F.called_set.made; have m2 := F.called_set.sub; have m3 := F.called_set.notType; have m4 := F.called_set.canCreate; have m5 := F.typeCall_set_1 (.ref l)
  refine wpAny_call (codeAny_of_tree ?_); show wpAny _ _ (callAny (.type "set") _) _ _ _
  refine wpAny_pure ⟨Code.quiet_builtin _ (by decide +kernel), codeAny_builtin F.entry_type_call ?_⟩; rw [Around.under_plain (weight_type_call_type "set" [.ref l] []) rfl]
  repeat (any_goals (first | assumption | wp_step))
  refine codeAny_mono (code_set_led1 (.ref l) (E := E) (Q₁ := fun u s1 => u = .ref s.heap.objs.size ∧ s1 = { s with heap := s.heap.push (so0 w) }) ⟨rfl, rfl⟩) fun r s1 hr => ?_
  cases r with
  | error e => exact hr
  | ok fl =>
    cases fl with
    | ret u =>
      obtain ⟨rfl, rfl⟩ := hr
      have g0 : (s.heap.push (so0 w)).get? s.heap.objs.size = some (so0 w) := Heap.get?_push_size _ rfl
      have gT : Shared.TypeIs { s with heap := s.heap.push (so0 w) } (.ref s.heap.objs.size) "set" := ⟨_, g0, rfl⟩
      have i1 := F.called_set.init.lookup; have i2 := F.called_set.init.bind (.ref s.heap.objs.size)
      repeat (any_goals (first | assumption | wp_step))
      refine codeAny_mono (codeAny_call_builtin (R := wants (fun r s2 => r = .none ∧ ∃ h' tk c, s2 = { s with heap := h', toks := tk } ∧ SetR w h' s.heap.objs.size (fun j => decide (j ∈ ns)) c ∧ (∀ b o, s.heap.get? b = some o → h'.get? b = some o)) E) F.called_set.init.plain F.entry_set_init (check_set_init_1 gT ?_)) fun r2 s2 hr2 => ?_
      · obtain ⟨ol, hol, hcl, nl, hdl⟩ := hl
        obtain ⟨c1, d1, x1, sl1⟩ := ol
        simp only at hcl hdl; subst hcl; subst hdl
        have hol' : (s.heap.push (so0 w)).get? l = some ⟨.type "list", d1, .seq its nl, sl1⟩ := Heap.get?_push_of_some _ hol
        have s1 := F.sub_list_set; have s2 := F.sub_list_frozenset
        have ne1 : (Value.type "list" == Value.type "dict") = false := by decide
        have hl1 : (s.heap.push (so0 w)).IsList l its := ⟨_, hol', rfl, nl, rfl⟩
        unfold Builtin.«set.__init__» noKeywords Builtin.Frozenset.updateFrom
        generalize hPI : pyIter = PI
        wp_walk
        subst hPI
        refine wpAny_pyIter_list hl1 (wpAny_bind (wpAny_runValue ?_))
        have lS : l < s.heap.objs.size := Heap.lt_size hol
        have h3 : A.in1.in1.in1.handled = none := by simp [hh]
        have z1 : (s.heap.push (so0 w)).objs.size = s.heap.objs.size + 1 := Heap.size_push ..
        have nI : l ≠ (s.heap.push (so0 w)).objs.size := by rw [z1]; exact Nat.ne_of_lt (Nat.lt_succ_of_lt lS)
        refine set_update_ints ((Walks.list h3 _ l nI its).toS) s.heap.objs.size (by rw [z1, List.mem_cons, List.mem_singleton]; exact fun q => q.elim (fun q => Nat.lt_irrefl _ (Nat.lt_of_lt_of_eq (Nat.lt_succ_self _) q.symm)) fun q => Nat.lt_irrefl _ (Nat.lt_of_lt_of_eq lS q)) ns hn hb (fun i v hv => ?_) (its.size - 0) 0 _ (by omega) (Nat.zero_le _) ⟨⟨_, Heap.get?_push_size _ rfl, rfl, rfl⟩, hl1.push _⟩ ⟨0, Nat.le_refl 0, setR_new_at (Heap.get?_push_of_some _ g0)⟩ ?_
        · have hi' : i < ns.length := by rw [← hn]; exact (Array.getElem?_eq_some_iff.mp hv).1
          obtain ⟨t, e⟩ := PyProof.Rows.IntsAre.int_at hi i v (by rw [Array.getElem?_toList]; exact hv)
          exact ⟨ns[i], t, List.getElem?_eq_getElem hi', by rw [e, List.getD_eq_getElem?_getD, List.getElem?_eq_getElem hi']; rfl⟩
        · intro s' c' hm _ hS'
          obtain ⟨h', g2, d', tk', os'⟩ := s'
          have e1 : g2 = s.gens := hm.gens; have e2 : d' = s.drawn := hm.drawn; have e3 : os' = s.os := hm.os
          subst e1; subst e2; subst e3
          show wpAny _ _ _ _ _ _
          refine wpAny_pure ?_
          show wpAny _ _ (ret Value.none) _ _ _
          refine wpAny_pure ⟨rfl, h', tk', c', rfl, hS', fun b o e => hm.heap b o ?_ (Heap.get?_push_of_some _ (Heap.get?_push_of_some _ e))⟩
          have b0 := Heap.lt_size e
          rw [z1, List.mem_cons, List.mem_cons]
          exact fun q => q.elim (fun q => Nat.ne_of_lt b0 q) fun q => q.elim (fun q => Nat.ne_of_lt (Nat.lt_succ_of_lt b0) q) fun q => by simp at q
      · cases r2 with
        | error e => exact hr2
        | ok fl2 =>
          cases fl2 with
          | ret r =>
            obtain ⟨rfl, h', tk, c', rfl, hS', hk'⟩ := hr2
            repeat (any_goals (first | assumption | wp_step))
            exact h _ _ _ hS' hk'
          | _ => exact hr2.elim
    | _ => exact hr.elim
end
end Qv

namespace Qv
open PySem PySem.Spec PyProof.Rows L2
/-! ## sets, of which only the size or the sorted list is asked -/
def dedupD : List D → List D
  | [] => []
  | x :: xs => x :: (dedupD xs).filter fun y => !eqD x y
/-- tuples of ints -/
def tupI : List D → Option (List (List Int))
  | [] => some []
  | .tuple xs :: r => match dInts xs, tupI r with
    | some ns, some l => some (ns :: l)
    | _, _ => none
  | _ => none
def setI (d : D) : Option (List D) := match d with
  | .list xs => if (dInts xs).isSome then (if xs.length + 1 < 4096 then some (dedupD xs) else none) else if (tupI xs).isSome && decide (xs.length < 64) then some (dedupD xs) else none
  | .tuple xs => if (dInts xs).isSome && decide (xs.length + 1 < 4096) then some (dedupD xs) else none
  | _ => none
def dLenSet (d : D) : Option D := (setI d).map fun l => .int l.length
def dSortSet (d : D) : Option D := (setI d).bind fun l => if sortOk l then some (.list (srtD leD l)) else none
mutual
theorem eqD_self : ∀ d : D, d.plain = true → eqD d d = true
  | .none, _ => rfl
  | .bool b, _ => by simp [eqD]
  | .int i, _ => by simp [eqD]
  | .str i, _ => by simp [eqD]
  | .list xs, h => by rw [eqD]; exact eqDs_self xs (by simpa [PyData.plain] using h)
  | .tuple xs, h => by rw [eqD]; exact eqDs_self xs (by simpa [PyData.plain] using h)
  | .dict _, h => by simp [PyData.plain] at h
theorem eqDs_self : ∀ d : List D, PyData.plainAll d = true → eqDs d d = true
  | [], _ => rfl
  | x :: xs, h => by
    simp only [PyData.plainAll, Bool.and_eq_true] at h
    rw [eqDs, eqD_self x h.1, eqDs_self xs h.2]; rfl
end
theorem mem_dedup {y : D} : ∀ {xs : List D}, (∀ x ∈ xs, x.plain = true) → (y ∈ dedupD xs ↔ y ∈ xs)
  | [], _ => Iff.rfl
  | x :: xs, h => by
    rw [dedupD, List.mem_cons, List.mem_cons, List.mem_filter, mem_dedup fun z hz => h z (List.mem_cons_of_mem _ hz)]
    constructor
    · exact fun q => q.imp id fun q => q.1
    · intro q
      by_cases e : eqD x y = true
      · exact .inl (eqD_eq _ _ e).symm
      · exact q.imp id fun q => ⟨q, by simpa using e⟩
theorem dedup_nodup : ∀ {xs : List D}, (∀ x ∈ xs, x.plain = true) → (dedupD xs).Nodup
  | [], _ => List.nodup_nil
  | x :: xs, h => by
    rw [dedupD, List.nodup_cons]
    refine ⟨fun q => ?_, (dedup_nodup fun z hz => h z (List.mem_cons_of_mem _ hz)).filter _⟩
    rw [List.mem_filter, eqD_self x (h x List.mem_cons_self)] at q
    exact absurd q.2 (by simp)
theorem ints_map : ∀ {xs : List D} {ns : List Int}, dInts xs = some ns → xs = ns.map PyData.int
  | [], _, e => by cases e; rfl
  | .int i :: xs, ns, e => by
    rw [dInts] at e
    cases e2 : dInts xs with
    | none => rw [e2] at e; cases e
    | some ms => rw [e2] at e; cases e; rw [List.map_cons, ← ints_map e2]
  | .none :: _, _, e => by cases e
  | .bool _ :: _, _, e => by cases e
  | .str _ :: _, _, e => by cases e
  | .list _ :: _, _, e => by cases e
  | .tuple _ :: _, _, e => by cases e
  | .dict _ :: _, _, e => by cases e
theorem tup_map : ∀ {xs : List D} {kss : List (List Int)}, tupI xs = some kss → xs = kss.map fun ks => PyData.tuple (ks.map PyData.int)
  | [], _, e => by cases e; rfl
  | .tuple ys :: xs, kss, e => by
    rw [tupI] at e
    cases e1 : dInts ys with
    | none => rw [e1] at e; cases e
    | some ns =>
      cases e2 : tupI xs with
      | none => rw [e1, e2] at e; cases e
      | some ms => rw [e1, e2] at e; cases e; rw [List.map_cons, ← tup_map e2, ← ints_map e1]
  | .none :: _, _, e => by cases e
  | .bool _ :: _, _, e => by cases e
  | .str _ :: _, _, e => by cases e
  | .list _ :: _, _, e => by cases e
  | .int _ :: _, _, e => by cases e
  | .dict _ :: _, _, e => by cases e
theorem plain_ints {ns : List Int} : PyData.plainAll (ns.map PyData.int) = true := plainAll_iff.mpr fun x hx => by obtain ⟨i, _, rfl⟩ := List.mem_map.mp hx; rfl
theorem int_inj {i j : Int} (h : PyData.int i = .int j) : i = j := by injection h
theorem ints_inj : ∀ {a b : List Int}, a.map PyData.int = b.map PyData.int → a = b
  | [], [], _ => rfl
  | [], _ :: _, e => by simp at e
  | _ :: _, [], e => by simp at e
  | x :: xs, y :: ys, e => by
    simp only [List.map_cons, List.cons.injEq, PyData.int.injEq] at e
    rw [e.1, ints_inj e.2]
theorem tup_inj {a b : List Int} (h : PyData.tuple (a.map PyData.int) = .tuple (b.map PyData.int)) : a = b := by injection h with h; exact ints_inj h
/-- the set as it stands -/
def SetIs (P : Program) (w : World) (R : Value → D → Prop) (s : Shared) (a : Addr) (l : List D) : Prop := ∃ o es ep t ds, s.heap.get? a = some o ∧ o.ExactSet ∧ o.data = .set es ep t ∧ t.fits es.size = true ∧ es.size < scanBound ∧ Ris t.place.toList ∧
  (w.params.followText "set-order" = true ∨ t.led = true) ∧ List.Perm ds l ∧ W.EachIs (fun v d => R v d ∧ ∃ as, Reads s.heap v d as) (es.toList.map (·.2)) ds
section
variable {X : Cx} {T : Tk} {A : Addr → Prop}
theorem each_of_list {α β : Type} {R : Value → D → Prop} (f : α → Value) (g : α → D) : ∀ {l : List α}, (∀ x ∈ l, R (f x) (g x)) → W.EachIs R (l.map f) (l.map g)
  | [], _ => .nil
  | x :: xs, h => .cons (h x List.mem_cons_self) (each_of_list (β := β) f g fun y hy => h y (List.mem_cons_of_mem _ hy))
theorem readsI {h : Heap} {P : Program} {w : World} : ∀ {k : List Int} {us : List Value}, ItemsAre (intKind P w) k us → ∃ as, ReadsAll h us (k.map PyData.int) as
  | _, _, .nil => ⟨_, .nil⟩
  | _, _, .cons (k := k) h1 t => by
    obtain ⟨as, q⟩ := readsI t
    have h1' : Value.isInt _ _ = true := h1
    obtain ⟨tk, e⟩ := Value.isInt_shape h1'
    rw [e]
    exact ⟨_, .cons (.int _ _) q⟩
theorem repsI {K : PySem.W.Frag} {H : Hp} : ∀ (k : List Int), Reps K T A H (k.map V.int) (k.map PyData.int)
  | [] => .nil
  | i :: k => .cons (.int i) (repsI k)
theorem tups_of {K : PySem.W.Frag} {H : Hp} : ∀ {us : List V} {ds : List D} {kss : List (List Int)}, Reps K T A H us ds → tupI ds = some kss → ∃ ks : List (Addr × List Int), us = ks.map (fun p => V.ref p.1) ∧ ks.map (·.2) = kss ∧ ∀ p ∈ ks, SqT K H p.1 (p.2.map V.int)
  | _, _, _, .nil, e => by cases e; exact ⟨[], rfl, rfl, fun p h => by cases h⟩
  | _, _, kss, .cons (d := d) (ds := ds) h r, e => by
    cases h with
    | @tup a xs ys hs hr =>
      rw [tupI] at e
      cases e1 : dInts ys with
      | none => rw [e1] at e; cases e
      | some ns =>
        cases e2 : tupI ds with
        | none => rw [e1, e2] at e; cases e
        | some ms =>
          rw [e1, e2] at e
          cases e
          obtain ⟨ks, h1, h2, h3⟩ := tups_of r e2
          have e3 := (ints_of hr e1).1
          refine ⟨(a, ns) :: ks, by rw [h1]; rfl, by rw [← h2]; rfl, fun p hp => ?_⟩
          rcases List.mem_cons.mp hp with rfl | hp
          · rw [← e3]; exact hs
          · exact h3 p hp
    | _ => simp [tupI, tokD, tokA, scrD] at e
end
section
variable {X : Cx} {T : Tk} {A : Addr → Prop} {pins : List (Addr × Obj)} {σ : L2.St} {H : Hp} {s : Shared} {E : Value → Shared → Prop}
def RD (K : PySem.W.Frag) (T : Tk) (A : Addr → Prop) (H : Hp) (v : Value) (d : D) : Prop := ∃ x, RelV x v ∧ Rep K T A H x d
theorem setR_is {w : World} {P : Program} {a : Addr} {ns : List Int} {c : Nat} {K : PySem.W.Frag} (h : SetR w s.heap a (fun j => decide (j ∈ ns)) c) : SetIs P w (RD K T A H) s a (dedupD (ns.map PyData.int)) := by
  obtain ⟨o, es, ep, t, ho, hx, hd, g, nd, hm, hb, hf, hn, hr, hl⟩ := h
  have pl : ∀ x ∈ ns.map PyData.int, x.plain = true := fun x hx => by obtain ⟨i, _, rfl⟩ := List.mem_map.mp hx; rfl
  refine ⟨o, es, ep, t, es.toList.map fun e => .int (keyOf e), ho, hx, hd, hf, hb, hr, hl, ?_, ?_⟩
  · refine (List.perm_ext_iff_of_nodup ?_ (dedup_nodup pl)).mpr fun d => ?_
    · have : (es.toList.map fun e => PyData.int (keyOf e)) = (es.toList.map keyOf).map PyData.int := by rw [List.map_map]; rfl
      rw [this]
      exact nd.map _ fun x y hne e => hne (int_inj e)
    · rw [mem_dedup pl]
      constructor
      · intro q
        obtain ⟨e, he, rfl⟩ := List.mem_map.mp q
        exact List.mem_map.mpr ⟨_, of_decide_eq_true ((hm _).mpr (List.mem_map.mpr ⟨e, he, rfl⟩)), rfl⟩
      · intro q
        obtain ⟨i, hi, rfl⟩ := List.mem_map.mp q
        obtain ⟨e, he, e2⟩ := List.mem_map.mp ((hm i).mp (decide_eq_true hi))
        exact List.mem_map.mpr ⟨e, he, by rw [e2]⟩
  · refine each_of_list (β := Nat) (fun e => e.2) (fun e => PyData.int (keyOf e)) fun e he => ?_
    obtain ⟨k, tk, h1, _⟩ := g e he
    have h2 : keyOf e = k := by unfold keyOf; rw [h1]
    rw [h1, h2]
    exact ⟨⟨.int k, ⟨tk, rfl⟩, .int k⟩, [], .int k tk⟩
theorem setT_is {a : Addr} {ks L : List (Addr × List Int)} {es : Array (Int × Value)} {ep : Nat} {t : SetTable} {K : PySem.W.Frag} {P : Program} {w : World} (R : SetTR P w s.heap a L es ep t) (g : Got ks ks.length L) (hk : ∀ p ∈ ks, SqT K H p.1 (p.2.map V.int)) :
    SetIs P w (RD K T A H) s a (dedupD (ks.map fun p => .tuple (p.2.map .int))) := by
  obtain ⟨o, ho, hex, hd⟩ := R.ob
  have pl : ∀ x ∈ (ks.map fun p => PyData.tuple (p.2.map .int)), x.plain = true := fun x hx => by
    obtain ⟨i, _, rfl⟩ := List.mem_map.mp hx
    exact plain_ints
  have sub : ∀ p ∈ L, p ∈ ks := fun p hp => List.mem_of_mem_take (g.sub p hp)
  have all : ∀ p ∈ ks, p.2 ∈ L.map (·.2) := fun p hp => g.all p (by rw [List.take_length]; exact hp)
  refine ⟨o, es, ep, t, L.map fun p => .tuple (p.2.map .int), ho, hex, hd, R.fits, ?_, R.tab.ris, R.led, ?_, ?_⟩
  · rw [R.size]; have := R.few; unfold scanBound; omega
  · refine (List.perm_ext_iff_of_nodup ?_ (dedup_nodup pl)).mpr fun d => ?_
    · have : (L.map fun p => PyData.tuple (p.2.map .int)) = (L.map (·.2)).map fun k => PyData.tuple (k.map .int) := by rw [List.map_map]; rfl
      rw [this]
      exact R.nd.map _ fun x y hne e => hne (tup_inj e)
    · rw [mem_dedup pl]
      constructor
      · intro q
        obtain ⟨p, hp, rfl⟩ := List.mem_map.mp q
        exact List.mem_map.mpr ⟨p, sub p hp, rfl⟩
      · intro q
        obtain ⟨p, hp, rfl⟩ := List.mem_map.mp q
        obtain ⟨r, hr, e⟩ := List.mem_map.mp (all p hp)
        exact List.mem_map.mpr ⟨r, hr, by rw [e]⟩
  · have e1 : es.toList.map (·.2) = L.map fun p => Value.ref p.1 := by rw [R.rows]; unfold rowsOf; rw [List.map_map]; rfl
    rw [e1]
    refine each_of_list (β := Nat) _ _ fun p hp => ⟨⟨.ref p.1, rfl, .tup (hk p (sub p hp)) (repsI _)⟩, ?_⟩
    obtain ⟨o, items, n, ho, hc, hd, hi⟩ := R.tup p hp
    obtain ⟨as, q⟩ := readsI hi
    exact ⟨_, .tuple ho hc hd q⟩
/-- set(x) -/
theorem set_made {x : V} {v : Value} {d : D} {l : List D} {Q : Value → Shared → Prop} (hc : X.calm = true) (hu : X.A.units + 64 < cLine) (I : Inv X pins σ H s) (rx : RelV x v) (rp : Rep X.K T A H x d) (e : setI d = some l)
    (h : ∀ a s', Inv X pins σ H s' → SetIs X.prog X.w (RD X.K T A H) s' a l → Q (.ref a) s') : wpAny (model X.prog X.w) X.A (call (.type "set") [v]) Q E s := by
  cases rp with
  | @lst a us ds n hs hr =>
    have e0 : setI (.list ds) = some l := e
    unfold setI at e0
    rw [Vals.ref1 (.cons rx .nil)] at *
    obtain ⟨its, rv, pl, hz⟩ := I.list (SqL.of hs)
    cases ei : dInts ds with
    | some ns =>
      simp only [ei, Option.isSome_some, if_true] at e0
      obtain ⟨hb, e0⟩ := ifs e0
      subst e0
      obtain ⟨eu, ed⟩ := ints_of hr ei
      have ed := ints_map ei
      subst eu
      refine set_listI ns (I.ok.hd hc) pl.isList (by simpa using rv.ints) (by rw [ed, List.length_map] at hb; unfold scanBound; exact hb) fun h' tk c R k => ?_
      refine h _ _ (I.kept k) ?_
      rw [ed]
      exact setR_is (s := { s with heap := h', toks := tk }) R
    | none =>
      simp only [ei, Option.isSome_none, Bool.false_eq_true, if_false] at e0
      cases et : tupI ds with
      | none => simp [et] at e0
      | some kss =>
        simp only [et, Option.isSome_some, Bool.true_and, decide_eq_true_eq] at e0
        obtain ⟨hb, e0⟩ := ifs e0
        subst e0
        obtain ⟨ks, h1, h2, h3⟩ := tups_of hr et
        have ed := tup_map et
        have e4 : ds = ks.map fun p => PyData.tuple (p.2.map .int) := by rw [ed, ← h2, List.map_map]; rfl
        subst h1
        refine call_set_tups (P := X.prog) (w := X.w) ks (I.ok.hd hc) pl.isList (by simpa using refs_of_vals rv) (fun p hp => I.isT (h3 p hp)) (by rw [e4, List.length_map] at hb; exact hb) (by omega) fun h' tk L es ep t R g k => ?_
        refine h _ _ (I.kept k) ?_
        rw [e4]
        exact setT_is (s := { s with heap := h', toks := tk }) R g h3
  | @tup a us ds hs hr =>
    have e0 : setI (.tuple ds) = some l := e
    unfold setI at e0
    rw [Vals.ref1 (.cons rx .nil)] at *
    obtain ⟨its, rv, pl, hz⟩ := I.tuple hs
    cases ei : dInts ds with
    | some ns =>
      simp only [ei, Option.isSome_some, Bool.true_and, decide_eq_true_eq] at e0
      obtain ⟨hb, e0⟩ := ifs e0
      subst e0
      obtain ⟨eu, _⟩ := ints_of hr ei
      have ed := ints_map ei
      subst eu
      refine call_set_tupI ns (I.ok.hd hc) pl (by simpa using rv.ints) (by rw [ed, List.length_map] at hb; unfold scanBound; exact hb) fun h' tk c R _ k => ?_
      refine h _ _ (I.kept k) ?_
      rw [ed]
      exact setR_is (s := { s with heap := h', toks := tk }) R
    | none => simp [ei] at e0
  | _ => cases e
end
end Qv

namespace Qv
open PySem PySem.Spec PyProof.Rows L2
/-! ## len(set(x)), sorted(set(x)), sorted(tuple) -/
theorem leD_ints {i j : Int} : leD (.int i) (.int j) = decide (i ≤ j) := by
  unfold leD
  have e : W.dataLt (.int j) (.int i) = decide (j < i) := by
    simp [W.dataLt, W.keyToks, PyProof.Rows.lexLt, PyProof.Rows.itemLt]
  rw [e, ← decide_not]
  simp
theorem leD_tup {a b : List Int} : leD (.tuple (a.map .int)) (.tuple (b.map .int)) = !decide (b < a) := by
  unfold leD
  have e : W.dataLt (.tuple (b.map .int)) (.tuple (a.map .int)) = decide (b < a) := by
    rw [← W.dataLt_ints]
    rfl
  rw [e]
theorem ins_pm {le : D → D → Bool} (x : D) : ∀ l : List D, List.Perm (insD le x l) (x :: l)
  | [] => .refl _
  | y :: ys => by
    unfold insD
    by_cases e : le x y = true
    · rw [if_pos e]
    · rw [if_neg e]; exact ((ins_pm x ys).cons y).trans (.swap x y ys)
theorem srt_pm {le : D → D → Bool} : ∀ l : List D, List.Perm (srtD le l) l
  | [] => .refl _
  | x :: xs => (ins_pm x _).trans ((srt_pm xs).cons x)
/-- sorting does not mind the order -/
theorem srt_perm {xs ys : List D} (p : List.Perm xs ys) (anti : ∀ x ∈ xs, ∀ y ∈ xs, leD x y = true → leD y x = true → x = y) : srtD leD xs = srtD leD ys := by
  have tot := fun x y => by have q := leD_total.total x y; exact q
  have e1 : (srtD leD xs).Pairwise (fun x y => leD x y = true) := srt_pw leD_total.trans (fun x y => by rw [Bool.or_eq_true]; exact tot x y) xs
  have e2 : (srtD leD ys).Pairwise (fun x y => leD x y = true) := srt_pw leD_total.trans (fun x y => by rw [Bool.or_eq_true]; exact tot x y) ys
  have pp : List.Perm (srtD leD xs) (srtD leD ys) := (srt_pm xs).trans (p.trans (srt_pm ys).symm)
  refine List.Perm.eq_of_pairwise (fun a b ha hb h1 h2 => ?_) e1 e2 pp
  have ha' : a ∈ xs := (srt_pm xs).mem_iff.mp ha
  have hb' : b ∈ xs := p.mem_iff.mpr ((srt_pm ys).mem_iff.mp hb)
  exact anti a ha' b hb' h1 h2

theorem anti_cls {l : List D} (h : (dInts l).isSome = true ∨ (tupI l).isSome = true) : ∀ x ∈ dedupD l, ∀ y ∈ dedupD l, leD x y = true → leD y x = true → x = y := by
  rcases h with h | h
  · obtain ⟨ns, e⟩ := Option.isSome_iff_exists.mp h
    have e := ints_map e
    have pl : ∀ x ∈ l, x.plain = true := fun x hx => by rw [e] at hx; obtain ⟨i, _, rfl⟩ := List.mem_map.mp hx; rfl
    intro x hx y hy h1 h2
    rw [mem_dedup pl, e] at hx hy
    obtain ⟨i, _, rfl⟩ := List.mem_map.mp hx
    obtain ⟨j, _, rfl⟩ := List.mem_map.mp hy
    rw [leD_ints, decide_eq_true_eq] at h1 h2
    rw [Int.le_antisymm h1 h2]
  · obtain ⟨ns, e⟩ := Option.isSome_iff_exists.mp h
    have e := tup_map e
    have pl : ∀ x ∈ l, x.plain = true := fun x hx => by rw [e] at hx; obtain ⟨i, _, rfl⟩ := List.mem_map.mp hx; exact plain_ints
    intro x hx y hy h1 h2
    rw [mem_dedup pl, e] at hx hy
    obtain ⟨i, _, rfl⟩ := List.mem_map.mp hx
    obtain ⟨j, _, rfl⟩ := List.mem_map.mp hy
    rw [leD_tup, Bool.not_eq_true', decide_eq_false_iff_not] at h1 h2
    have : i = j := List.le_antisymm (List.not_lt.mp h1) (List.not_lt.mp h2)
    rw [this]
theorem setI_cls {d : D} {l : List D} (h : setI d = some l) : ∃ xs, l = dedupD xs ∧ ((dInts xs).isSome = true ∨ (tupI xs).isSome = true) := by
  unfold setI at h
  split at h
  · split at h
    · rename_i q
      exact ⟨_, (ifs h).2.symm, .inl q⟩
    · obtain ⟨q, e⟩ := ifs h
      rw [Bool.and_eq_true] at q
      exact ⟨_, e.symm, .inr q.1⟩
  · obtain ⟨q, e⟩ := ifs h
    rw [Bool.and_eq_true] at q
    exact ⟨_, e.symm, .inl q.1⟩
  · cases h
theorem each_mem2 {R S : Value → D → Prop} : ∀ {vs : List Value} {ds : List D}, W.EachIs (fun v d => R v d ∧ S v d) vs ds → W.EachIs R vs ds
  | _, _, .nil => .nil
  | _, _, .cons h t => .cons h.1 (each_mem2 t)
theorem each_perm {R : Value → D → Prop} {vs us : List Value} (p : List.Perm us vs) : ∀ {ds : List D}, W.EachIs R vs ds → ∃ es, List.Perm es ds ∧ W.EachIs R us es := by
  induction p with
  | nil => intro ds h; cases h; exact ⟨[], .refl _, .nil⟩
  | cons x p ih =>
    intro ds h
    cases h with
    | cons h1 t =>
      obtain ⟨es, q, e⟩ := ih t
      exact ⟨_ :: es, q.cons _, .cons h1 e⟩
  | swap x y l =>
    intro ds h
    cases h with
    | cons h1 t =>
      cases t with
      | cons h2 t => exact ⟨_, .swap _ _ _, .cons h2 (.cons h1 t)⟩
  | trans p1 p2 i1 i2 =>
    intro ds h
    obtain ⟨es, q, e⟩ := i2 h
    obtain ⟨es2, q2, e2⟩ := i1 e
    exact ⟨es2, q2.trans q, e2⟩
theorem likes_perm {xs ys : List D} (p : List.Perm xs ys) (h : likes ys = true) : ∀ a ∈ xs, ∀ b ∈ xs, (cls b = cls a) ∧ (cls a).ok = true := fun a ha b hb => by
  have q := likes_mem h b (p.mem_iff.mp hb) a (p.mem_iff.mp ha)
  exact ⟨q.1, by rw [← q.1]; exact q.2⟩
theorem sortOk_perm {xs ys : List D} (p : List.Perm xs ys) (h : sortOk ys = true) : sortOk xs = true := by
  unfold sortOk at h ⊢
  simp only [Bool.and_eq_true, decide_eq_true_eq, List.all_eq_true] at h ⊢
  refine ⟨⟨?_, ?_⟩, fun x hx => h.2 x (p.mem_iff.mp hx)⟩
  · cases xs with
    | nil => rfl
    | cons x xs =>
      have q := likes_perm p h.1.1
      show ((cls x).ok && xs.all fun y => decide (cls y = cls x)) = true
      simp only [Bool.and_eq_true, List.all_eq_true, decide_eq_true_eq]
      exact ⟨(q x List.mem_cons_self x List.mem_cons_self).2, fun y hy => (q x List.mem_cons_self y (List.mem_cons_of_mem _ hy)).1⟩
  · exact depthAll_le fun x hx => Nat.le_trans (depth_mem (p.mem_iff.mp hx)) h.1.2

section
variable {m : Type → Type} [PM m] {X : Cx} {ρ : Rh} {a : Expr} {xa : m D} {p p2 q pos : Pos}
/-- f(set(a)) -/
theorem ve_onSet {f : Str} {id : String} {g : List D → Option D} (hc : X.calm = true) (hu : X.A.units + 64 < cLine) (hb : bootBuiltins f = some (.builtin id)) (hm : X.mg f = none) (hm2 : X.mg "set" = none) (hn : f ≠ "__name__") (hd : (f == ("__debug__" : Str)) = false)
    (call : ∀ (pins : List (Addr × Obj)) (s : Shared) (σ : L2.St) (H : Hp) (T : Tk) (A : Addr → Prop) (b : Addr) (xs : List D) (l : List D) (d : D) (Q : Value → Shared → Prop) (E : Value → Shared → Prop), Wd T A H → Inv X pins σ H s → SetIs X.prog X.w (RD X.K T A H) s b l → l = dedupD xs → ((dInts xs).isSome = true ∨ (tupI xs).isSome = true) → g l = some d →
      (∀ v s', (∃ x H', Inv X pins σ H' s' ∧ RelV x v ∧ Post X.K T A H H' d x) → Q v s') → wpAny (model X.prog X.w) X.A (PySem.call (.builtin id) [.ref b]) Q E s)
    (ha : VE X ρ a xa) (hg : Gl X f := by rfl) (hg2 : Gl X "set" := by rfl) (na : starEach [a] X.env = (false, eval a X.env) :: starEach [] X.env := by rfl) :
    VE X ρ (.Call (.Name f p) [.Call (.Name "set" p2) [a] [] q] [] pos) (xa >>= fun d => PM.lift ((setI d).bind g)) := by
  refine ⟨fun pins s σ H Q I h => Call_ (ld_blt I hg hm hb (PyProof.Rows.callWith_builtin1 (PyProof.Rows.args_cons (Call_ (ld_blt I hg2 hm2 PyProof.Rows.boot_set (PyProof.Rows.callWith_type1 (PyProof.Rows.args_cons (thn (ha.run pins s σ H _ I (seqE h (R := fun x H1 => ∃ T A d, Wd T A H1 ∧ Rep X.K T A H1 x d ∧ PM.run (m := m) (PM.lift ((setI d).bind g)) fun e => ∀ v H', Post X.K T A H1 H' e v → Q v H') fun T A v H1 d w ev rp h => ⟨T, A, d, w, rp, h⟩)) fun v s1 ⟨x, H1, I1, r1, T, A, d, w, rp, h1⟩ => PyProof.Rows.args_nil ?_) na) na rfl))) rfl) rfl rfl) hn hd)⟩
  obtain ⟨e, e1, h2⟩ := (PM.run_lift _ _).mp h1
  obtain ⟨l, e2, e3⟩ := Option.bind_eq_some_iff.mp e1
  obtain ⟨xs, e4, e5⟩ := setI_cls e2
  refine set_made hc hu I1 r1 rp e2 fun b s2 I2 S => PyProof.Rows.args_nil ?_
  exact call pins s2 σ H1 T A b xs l e _ _ w I2 S e4 e5 e3 fun v s' ⟨x', H', I', r', o⟩ => ⟨x', H', I', r', h2 x' H' o⟩
theorem VE.lenSet (hc : X.calm = true) (hu : X.A.units + 64 < cLine) (hm : X.mg "len" = none) (hm2 : X.mg "set" = none) (ha : VE X ρ a xa) (hg : Gl X "len" := by rfl) (hg2 : Gl X "set" := by rfl) (na : starEach [a] X.env = (false, eval a X.env) :: starEach [] X.env := by rfl) :
    VE X ρ (.Call (.Name "len" p) [.Call (.Name "set" p2) [a] [] q] [] pos) (xa >>= fun d => PM.lift ((setI d).bind fun l => some (.int l.length))) :=
  ve_onSet (f := "len") hc hu PySem.boot_len hm hm2 (by decide) (by decide) (fun pins s σ H T A b xs l d Q E w I S _ _ e k => by
    cases e
    obtain ⟨o, es, ep, t, ds, ho, hex, hd, hf, hb, hr, hl, pm, ea⟩ := S
    have hz : es.size = l.length := by rw [← pm.length_eq, ← ea.length, List.length_map, Array.length_toList]
    refine call_len_set ho hex hd hf (by unfold scanBound at hb; omega) (k _ _ ⟨.int l.length, H, I.tok _, ⟨_, by rw [hz]⟩, .same w (.int _)⟩)) ha hg hg2 na
end
theorem reps_each {K : PySem.W.Frag} {T : Tk} {A : Addr → Prop} {H : Hp} : ∀ {us : List V} {ds : List D}, W.EachIs (fun x d => Rep K T A H x d) us ds → Reps K T A H us ds
  | _, _, .nil => .nil
  | _, _, .cons h t => .cons h (reps_each t)
theorem each_reps {K : PySem.W.Frag} {T : Tk} {A : Addr → Prop} {H : Hp} : ∀ {us : List V} {ds : List D} {vs : List Value}, Vals us vs → Reps K T A H us ds → W.EachIs (RD K T A H) vs ds
  | _, _, _, .nil, .nil => .nil
  | _, _, _, .cons r t, .cons h q => .cons ⟨_, r, h⟩ (each_reps t q)
theorem each_and {R S : Value → D → Prop} : ∀ {vs : List Value} {ds : List D}, W.EachIs (fun v d => R v d ∧ S v d) vs ds → W.EachIs R vs ds ∧ W.EachIs S vs ds
  | _, _, .nil => ⟨.nil, .nil⟩
  | _, _, .cons h t => ⟨.cons h.1 (each_and t).1, .cons h.2 (each_and t).2⟩
section
variable {X : Cx}
theorem objok_ex {P : Program} {w : World} {H : Hp} {h : Heap} {a : Addr} {o : HO} (x : ObjOk P w H h a o) : ∃ u, h.get? a = some u := by
  cases o with
  | lst xs => obtain ⟨_, _, _, _, e⟩ := x; exact ⟨_, e⟩
  | tup xs => obtain ⟨_, _, _, ob, e, _⟩ := x; exact ⟨_, e⟩
  | dK kvs => obtain ⟨_, _, _, _, o, _, _, e, _⟩ := x; exact ⟨_, e⟩
  | dT kvs => obtain ⟨_, _, _, _, o, _, _, e, _⟩ := x; exact ⟨_, e⟩
  | set S n => obtain ⟨o, _, _, _, e, _⟩ := x; exact ⟨_, e⟩
  | ins C dx fs => obtain ⟨_, _, _, e, _⟩ := x; exact ⟨_, e⟩
  | own y => exact x
  | xd fs => obtain ⟨_, ⟨_, _, _, e, _⟩, _⟩ := x; exact ⟨_, e⟩
  | rng lo hi => obtain ⟨_, _, _, e⟩ := x; exact ⟨_, e⟩
  | frz ob u => obtain ⟨e, _⟩ := x; exact ⟨_, e⟩
  | tbl ps => exact ⟨_, x⟩
  | met f y => exact ⟨_, x⟩
  | ext φ => obtain ⟨_, e, _⟩ := x; exact e
theorem hp_none {pins : List (Addr × Obj)} {s : Shared} {σ : L2.St} {H : Hp} {a : Addr} (I : Inv X pins σ H s) (h : s.heap.get? a = none) : H a = none := by
  cases e : H a with
  | none => rfl
  | some o =>
    obtain ⟨u, q⟩ := objok_ex (I.hok a o e)
    rw [h] at q
    cases q
/-- sorted, once the items are gathered: what is left for our heap -/
theorem sorted_gath {pins : List (Addr × Obj)} {s : Shared} {σ : L2.St} {H : Hp} {T : Tk} {A : Addr → Prop} {Q : Value → Shared → Prop} {E : Value → Shared → Prop} {x : Value} {ds : List D} (hu : X.A.units + 64 < cLine) (w : Wd T A H) (I : Inv X pins σ H s) (ho : sortOk ds = true) (hz : ds.length ≤ sizeLine) (Pm : List D → Prop) (hPm : ∀ es, Pm es → List.Perm es ds)
    (hc : ∀ G : List Value → Shared → Prop, (∀ s1 vs, (∀ b o, s.heap.get? b = some o → s1.heap.get? b = some o) → s1.gens = s.gens → s1.os = s.os → (∃ es, Pm es ∧ W.EachIs (RD X.K T A H) vs es ∧ W.EachIs (fun v d => ∃ as, Reads s.heap v d as) vs es) → G vs s1) → wpAny (model X.prog X.w) X.A.in1 (collect x) G E s)
    (k : ∀ es, Pm es → ∀ v s', (∃ x H', Inv X pins σ H' s' ∧ RelV x v ∧ Post X.K T A H H' (.list (srtD leD es)) x) → Q v s') :
    wpAny (model X.prog X.w) X.A (call (.builtin "sorted") [x]) Q E s := by
  refine sorted_of (R := RD X.K T A H) (hc _ fun s1 vs k1 g1 o1 ⟨es, pm0, e1, e2⟩ => ?_)
  have pm := hPm es pm0
  have hso := sortOk_perm pm ho
  have ho' := hso
  simp only [sortOk, Bool.and_eq_true, decide_eq_true_eq] at ho'
  refine ⟨k1, g1, o1, es, e1, e2.mono fun v d ⟨as, r⟩ => ⟨as, PyProof.Rows.Reads.keeps k1 r⟩, fun d hd d' hd' => alike_cls d d' (likes_mem ho'.1.1 d hd d' hd').1 (likes_mem ho'.1.1 d hd d' hd').2, sortable_of hso, by rw [pm.length_eq]; exact hz, fun d hd => ?_, fun p c out s' kk gg oo zz hp hlen he => ?_⟩
  · have := depth_mem hd
    have := ho'.1.2
    omega
  · obtain ⟨us, hv, hr⟩ := each_back he
    have hn : H p = none := hp_none I zz
    have hl2 : us.length ≤ sizeLine := by rw [hv.length, hlen, pm.length_eq]; exact hz
    exact k es pm0 _ _ ⟨.ref p, upd H p (.lst us), I.call' oo (ch := []) (Un.laidN kk zz hn) (I.hok.laidN kk hn ⟨hl2, out, c, hv, hp⟩) (by rw [gg]; exact I.bare) (fun _ z => nomatch z), rfl, .lst w hn (reps_each hr)⟩
def dSortL (l : List D) : Option D := if sortOk l then some (.list (srtD leD l)) else none
theorem dedup_len : ∀ xs : List D, (dedupD xs).length ≤ xs.length
  | [] => Nat.le_refl _
  | x :: xs => by
    rw [dedupD, List.length_cons, List.length_cons]
    exact Nat.succ_le_succ (Nat.le_trans (List.length_filter_le _ _) (dedup_len xs))
/-- sorted(x), of a list or a tuple -/
def rSortY (K : PySem.W.Frag) : List V → Hp → VK → Prop := fun xs H Q => ∃ T A a us ds, Wd T A H ∧ xs = [V.ref a] ∧ (SqL K H a us ∨ SqT K H a us) ∧ Reps K T A H us ds ∧ sortOk ds = true ∧ ∀ v H', Post K T A H H' (.list (srtD leD ds)) v → Q v H'
theorem sortOk_plain {ds : List D} (h : sortOk ds = true) : PyData.plainAll ds = true := by
  simp only [sortOk, Bool.and_eq_true] at h
  exact likes_plain h.1.1
theorem cr_sortY (hu : X.A.units + 64 < cLine) : CallR X (.builtin "sorted") (rSortY X.K) := by
  intro pins s σ H vs us' Q I r h
  obtain ⟨T, A, a, us, ds, w, rfl, hs, hr, ho, q⟩ := h
  rw [Vals.ref1 r]
  have fin : ∀ (its : List Value), Vals us its → (∃ t o n, (t = "list" ∨ t = "tuple") ∧ s.heap.get? a = some o ∧ o.cls = .type t ∧ o.data = .seq its.toArray n) → its.length ≤ sizeLine → wpAny (model X.prog X.w) X.A (call (.builtin "sorted") [.ref a]) (fun v s' => ∃ x H', Inv X pins σ H' s' ∧ RelV x v ∧ Q x H') X.xe s := fun its rv ⟨t, o, n, ht, go, gc, gd⟩ hz => by
    obtain ⟨bs, hb⟩ := Inv.dpAll I (hr.dp (sortOk_plain ho)) rv
    refine sorted_gath (E := X.xe) hu w I ho (by rw [← hr.length, rv.length]; exact hz) (fun es => es = ds) (fun es e => by rw [e]) (fun G hG => wpAny_collect_seq a ht go gc gd (fun h' k1 => hG { s with heap := h' } _ k1 rfl rfl ⟨ds, rfl, each_reps (by simpa using rv) hr, ?_⟩) (by simpa using hz)) fun es e v s' ⟨x, H', I', r', o'⟩ => ⟨x, H', I', r', q x H' (by rw [← e]; exact o')⟩
    have := W.readsAll_each (h := s.heap) (enc := (id : D → D)) (vs := its) (bs := ds) (as := bs) (by rw [List.map_id]; exact hb)
    simpa using this
  rcases hs with hs | hs
  · obtain ⟨its, rv, pl, hz⟩ := I.list hs
    obtain ⟨o, go, gc, n, gd⟩ := pl.isList
    exact fin its rv ⟨"list", o, n, .inl rfl, go, gc, gd⟩ (by rw [← rv.length]; exact hz)
  · obtain ⟨its, rv, pl, hz⟩ := I.tuple hs
    obtain ⟨o, go, gc, n, gd⟩ := pl
    exact fin its rv ⟨"tuple", o, n, .inr rfl, go, gc, gd⟩ (by rw [← rv.length]; exact hz)
theorem okSorted : OkC X.K (f1 dSorted) (rSortY X.K) := okc1 fun T A H v p d Q w r e k => by
  cases r with
  | @lst a us ds n h hr =>
    obtain ⟨ho, e⟩ := ifs e
    subst e
    exact ⟨T, A, a, us, ds, w, rfl, .inl (SqL.of h), hr, ho, k⟩
  | @tup a us ds h hr =>
    obtain ⟨ho, e⟩ := ifs e
    subst e
    exact ⟨T, A, a, us, ds, w, rfl, .inr h, hr, ho, k⟩
  | _ => cases e
section
variable {m : Type → Type} [PM m] {ρ : Rh} {a : Expr} {xa : m D} {p p2 q pos : Pos}
theorem VE.sortedSet (hc : X.calm = true) (hu : X.A.units + 64 < cLine) (hm : X.mg "sorted" = none) (hm2 : X.mg "set" = none) (ha : VE X ρ a xa) (hg : Gl X "sorted" := by rfl) (hg2 : Gl X "set" := by rfl) (na : starEach [a] X.env = (false, eval a X.env) :: starEach [] X.env := by rfl) :
    VE X ρ (.Call (.Name "sorted" p) [.Call (.Name "set" p2) [a] [] q] [] pos) (xa >>= fun d => PM.lift ((setI d).bind dSortL)) :=
  ve_onSet (f := "sorted") hc hu boot_sorted hm hm2 (by decide) (by decide) (fun pins s σ H T A b xs l d Q E w I S e4 e5 e k => by
    obtain ⟨hs, e⟩ := ifs e
    subst e
    obtain ⟨o, es, ep, t, ds, ho, hex, hd, hf, hb, hr, hl, pm, ea⟩ := S
    have hz : es.size = l.length := by rw [← pm.length_eq, ← ea.length, List.length_map, Array.length_toList]
    refine sorted_gath hu w I hs (by rw [← hz, sizeLine_eq]; unfold scanBound at hb; omega) (fun es => List.Perm es l) (fun _ h => h) (fun G hG => collect_set (A := X.A.in1) (I.ok.hd hc) ⟨o, ho, hex.1, hd⟩ hf hb hr hl fun s' out k1 z1 g1 o1 pm1 => hG s' out k1 g1 o1 ?_) fun es' pm2 v s' h => k v s' ?_
    · obtain ⟨es', p1, p2⟩ := each_perm pm1 ea
      exact ⟨es', p1.trans pm, each_and p2⟩
    · subst e4
      rw [← srt_perm pm2.symm (anti_cls e5)] at h
      exact h) ha hg hg2 na
end
end
end Qv

namespace Qv
open PySem PySem.Spec PyProof.Rows L2
/-! ## {k: v, ..}[x], the keys written -/
def keyD : D → Option Key
  | .int i => some (.inl i)
  | .str x => some (.inr x)
  | _ => none
/-- the last of the like keys -/
def pickK : List Key → List D → Key → Option D
  | k :: ks, d :: ds, x => match pickK ks ds x with
    | some e => some e
    | none => if decide (k = x) then some d else none
  | _, _, _ => none
def dPick (ks : List Key) (ds : List D) (x : D) : Option D := (keyD x).bind (pickK ks ds)
theorem valV_merge {kvs acc : List (Key × V)} {x : Key} : valV (mergeK acc kvs) x = match valV (mergeK [] kvs) x with | some v => some v | none => valV acc x := by
  have go : ∀ (kvs acc : List (Key × V)) , valV (mergeK acc kvs) x = (match (kvs.reverse.find? fun kv => decide (kv.1 = x)) with | some kv => some kv.2 | none => valV acc x) := by
    intro kvs
    induction kvs with
    | nil => intro acc; rfl
    | cons p r ih =>
      intro acc
      show valV (mergeK (putK acc p.1 p.2) r) x = _
      rw [ih, List.reverse_cons, List.find?_append, valV_put]
      cases e : (r.reverse.find? fun kv => decide (kv.1 = x)) with
      | some kv => rfl
      | none =>
        by_cases h : x = p.1
        · rw [if_pos h]; simp [h]
        · rw [if_neg h]; simp [Ne.symm h]
  rw [go, go]
  cases (kvs.reverse.find? fun kv => decide (kv.1 = x)) <;> rfl
theorem pick_val {K : PySem.W.Frag} {T : Tk} {A : Addr → Prop} {H : Hp} {x : Key} : ∀ {ks : List Key} {vs : List V} {ds : List D} {d : D}, Reps K T A H vs ds → ks.length = vs.length → pickK ks ds x = some d → ∃ v, valV (mergeK [] (ks.zip vs)) x = some v ∧ Rep K T A H v d
  | [], _, _, _, _, _, e => by cases e
  | k :: ks, _, _, _, .nil, hl, e => by simp at hl
  | k :: ks, v :: vs, d0 :: ds, d, .cons h r, hl, e => by
    rw [pickK] at e
    have e2 : valV (mergeK [] ((k :: ks).zip (v :: vs))) x = match valV (mergeK [] (ks.zip vs)) x with | some v => some v | none => valV (putK ([] : List (Key × V)) k v) x := valV_merge (kvs := ks.zip vs) (acc := putK [] k v)
    cases e1 : pickK ks ds x with
    | some e' =>
      rw [e1] at e
      cases e
      obtain ⟨u, h1, h2⟩ := pick_val r (by simpa using hl) e1
      exact ⟨u, by rw [e2, h1], h2⟩
    | none =>
      rw [e1] at e
      obtain ⟨hk, e⟩ := ifs e
      subst e
      rw [decide_eq_true_eq] at hk
      have e3 : valV (mergeK [] (ks.zip vs)) x = none := by
        have go : ∀ (ks : List Key) (vs : List V) (ds : List D), Reps K T A H vs ds → ks.length = vs.length → pickK ks ds x = none → valV (mergeK [] (ks.zip vs)) x = none := by
          intro ks
          induction ks with
          | nil => intro vs ds _ _ _; rfl
          | cons k2 ks ih =>
            intro vs ds r hl e
            cases r with
            | nil => simp at hl
            | @cons v2 vs d2 ds h2 r =>
              rw [pickK] at e
              cases e5 : pickK ks ds x with
              | some z => rw [e5] at e; cases e
              | none =>
                rw [e5] at e
                have e6 : valV (mergeK [] ((k2 :: ks).zip (v2 :: vs))) x = match valV (mergeK [] (ks.zip vs)) x with | some v => some v | none => valV (putK ([] : List (Key × V)) k2 v2) x := valV_merge (kvs := ks.zip vs) (acc := putK [] k2 v2)
                rw [e6, ih vs ds r (by simpa using hl) e5, valV_put]
                by_cases h3 : k2 = x
                · rw [if_pos (decide_eq_true h3)] at e; cases e
                · rw [if_neg (fun z => h3 z.symm)]; rfl
        exact go ks vs ds r (by simpa using hl) e1
      exact ⟨v, by rw [e2, e3, valV_put, if_pos hk.symm], h⟩
mutual
theorem Rep.dict {K : PySem.W.Frag} {T : Tk} {A : Addr → Prop} {H : Hp} {p : Addr} {kv kv' : List (Key × V)} (hp : H p = some (.dK kv)) : ∀ {v : V} {d : D}, Rep K T A H v d → Rep K T A (upd H p (.dK kv')) v d
  | _, _, .non => .non
  | _, _, .bl b => .bl b
  | _, _, .int i => .int i
  | _, _, .str x => .str x
  | _, _, .lst (a := a) n h r => .lst n (by rw [upd_ne (fun e => by rw [e, hp] at h; cases h)]; exact h) (Reps.dict hp r)
  | _, _, .tup h r => .tup (by
      rcases h with (h | ⟨o, h⟩) | h
      · exact .inl (.inl (by rw [upd_ne (fun e => by rw [e, hp] at h; cases h)]; exact h))
      · exact .inl (.inr ⟨o, by rw [upd_ne (fun e => by rw [e, hp] at h; cases h)]; exact h⟩)
      · exact .inr h) (Reps.dict hp r)
  | _, _, .tok h => .tok h
  | _, _, .tok2 h => .tok2 h
  | _, _, .scr h h' => .scr h h'
theorem Reps.dict {K : PySem.W.Frag} {T : Tk} {A : Addr → Prop} {H : Hp} {p : Addr} {kv kv' : List (Key × V)} (hp : H p = some (.dK kv)) : ∀ {v : List V} {d : List D}, Reps K T A H v d → Reps K T A (upd H p (.dK kv')) v d
  | _, _, .nil => .nil
  | _, _, .cons h r => .cons (Rep.dict hp h) (Reps.dict hp r)
end
section
variable {m : Type → Type} [PM m] {X : Cx} {ρ : Rh} {pos : Pos}
/-- the pairs -/
structure VD (X : Cx) (ρ : Rh) (pos : Pos) (keys : List (Option Expr)) (vals : List Expr) (ks : List Key) (xs : m (List D)) : Prop where
  ex : ∃ trs, PPs X pos keys vals trs ∧ ∀ (σ : L2.St) (H : Hp) (R : List (V × V) → Hp → Prop), (∃ T A, Wd T A H ∧ Ev X.K T A ρ σ H ∧ PM.run xs fun ds => ∀ vs H', Step T H H' → T.ok H' → Reps X.K T A H' vs ds → ks.length = vs.length → R ((ks.map kV).zip vs) H') → tPairs trs σ H R
  ln : keys.length = ks.length ∧ vals.length = ks.length ∧ keys.all (·.isSome) = true
theorem VD.nil : VD (m := m) X ρ pos [] [] [] (pure []) := ⟨⟨[], pps_nil, fun σ H R ⟨T, A, w, ev, h⟩ => by
  rw [PM.run_pure] at h
  exact h [] H .refl w.ok .nil rfl⟩, rfl, rfl, rfl⟩
theorem VD.cons {k v : Expr} {keys : List (Option Expr)} {vals : List Expr} {ks : List Key} {kk : Key} {xa : m D} {xs : m (List D)} (hk : PE X k (tC (kV kk))) (hv : VE X ρ v xa) (hr : VD X ρ pos keys vals ks xs) : VD X ρ pos (some k :: keys) (v :: vals) (kk :: ks) (xa >>= fun a => xs >>= fun l => pure (a :: l)) := by
  obtain ⟨⟨trs, h1, h2⟩, l1, l2, l3⟩ := hr
  refine ⟨⟨_, pps_cons hk hv h1, fun σ H R ⟨T, A, w, ev, h⟩ => ?_⟩, by rw [List.length_cons, List.length_cons, l1], by rw [List.length_cons, List.length_cons, l2], by rw [List.all_cons, l3]; rfl⟩
  show tC (kV kk) σ H fun x H1 => _
  rw [PM.run_bind] at h
  refine (show tE X.K ρ xa σ H _ from ⟨T, A, w, ev, PM.mono (fun p h v H1 q => ?_) h⟩)
  rw [PM.run_bind] at h
  refine h2 _ _ _ ⟨T, A, q.wd w, ev.step w q.st, PM.mono (fun ds h vs H2 s2 o2 r2 hl => ?_) h⟩
  rw [PM.run_pure] at h
  exact h (v :: vs) H2 (q.st.trans s2) o2 (.cons (q.rp.step (q.wd w) s2) r2) (by rw [List.length_cons, List.length_cons, hl])
theorem VE.dpick {keys : List (Option Expr)} {vals : List Expr} {ks : List Key} {xs : m (List D)} {x : Expr} {xx : m D} {dp : Pos} (hu : X.A.units + 64 < cLine) (h : VD X ρ dp keys vals ks xs) (hx : VE X ρ x xx) (h0 : keys ≠ []) (h15 : keys.length ≤ 15) (hs : NoSl x := by exact fun _ _ => rfl) :
    VE X ρ (.Subscript (.Dict keys vals dp) x pos) (xs >>= fun l => xx >>= fun k => PM.lift (dPick ks l k)) := by
  obtain ⟨⟨trs, h1, h2⟩, l1, l2, l3⟩ := h
  refine imE (pe_dget (by omega) (pe_disp h1 l3 (by rw [l1, l2]) h0 h15) hx hs) fun σ H Q ⟨T, A, w, ev, q⟩ p hp => ?_
  have w1 : Wd T A (upd H p (.dK [])) := w.laid hp
  have s1 : Step T H (upd H p (.dK [])) := step_new hp
  rw [PM.run_bind] at q
  refine h2 _ _ _ ⟨T, A, w1, ev.step w s1, PM.mono (fun ds q vs H2 s2 o2 r2 hl => ?_) q⟩
  have nS : ¬ T.S p := fun z => w.new hp (w.sub p z)
  have e2 : H2 p = some (.dK []) := s2 p _ upd_same nS
  refine ⟨e2, ks.zip vs, ?_, ?_, ?_⟩
  · have go : ∀ (ks : List Key) (vs : List V), (ks.map kV).zip vs = (ks.zip vs).map fun kv => (kV kv.1, kv.2) := by
      intro ks
      induction ks with
      | nil => intro vs; rfl
      | cons k ks ih => intro vs; cases vs with | nil => rfl | cons v vs => rw [List.map_cons, List.zip_cons_cons, List.zip_cons_cons, List.map_cons, ih]
    exact go ks vs
  · rw [List.length_zip]; omega
  · have w2 : Wd T A H2 := w1.step s2 o2
    have nA : ¬ A p := w.new hp
    have s3 : Step T H (upd H2 p (.dK (mergeK [] (ks.zip vs)))) := fun a o e n => by
      have ne : a ≠ p := fun z => by rw [z, hp] at e; cases e
      rw [upd_ne ne]
      exact s2 a o (by rw [upd_ne ne]; exact e) n
    have w3 : Wd T A (upd H2 p (.dK (mergeK [] (ks.zip vs)))) := ⟨T.keep o2 fun a z => upd_ne fun e => nS (e ▸ z), w.sub, fun a z => by rw [upd_ne (fun e => nA (by rw [← e]; exact z))]; exact w2.mu a z⟩
    rw [PM.run_bind] at q
    refine ⟨T, A, w3, ev.step w s3, PM.mono (fun d q v H4 o4 => ?_) q⟩
    obtain ⟨r, er, q⟩ := (PM.run_lift _ _).mp q
    obtain ⟨key, ek, ep⟩ := Option.bind_eq_some_iff.mp er
    have r3 := Reps.dict (kv' := mergeK [] (ks.zip vs)) e2 r2
    obtain ⟨u, hu1, hu2⟩ := pick_val r3 hl ep
    have e4 : H4 p = some (.dK (mergeK [] (ks.zip vs))) := o4.st p _ upd_same nS
    have vk : v = kV key := by
      have rp := o4.rp
      cases rp with
      | int i => cases ek; rfl
      | str x => cases ek; rfl
      | _ => cases ek
    refine ⟨p, u, rfl, ?_, q u H4 ⟨s3.trans o4.st, o4.ok, hu2.step w3 o4.st⟩⟩
    rw [vk, ← hu1]
    exact DGet.k e4
end
/-! ## a written dict of the module, its keys texts -/
def GD (K : PySem.W.Frag) (w : World) (mg : Str → Option Value) (x : Str) (kvs : List (Str × D)) : Prop := ∃ a es n, mg x = some (.ref a) ∧ K.lookup a = some ⟨.type "dict", none, .dict es n, #[]⟩ ∧ PySem.W.KeysLit w.params es.toList ∧ ∀ p ∈ kvs, ∃ u, PySem.W.nsIn K a p.1 = some (some u) ∧ kdat K 10 u = some p.2
def pickS (kvs : List (Str × D)) (x : D) : Option D := match x with
  | .str k => (kvs.find? fun p => decide (p.1 = k)).map (·.2)
  | _ => none
section
variable {m : Type → Type} [PM m] {X : Cx} {ρ : Rh} {pos pn : Pos}
theorem VE.gdict {x : Str} {kvs : List (Str × D)} {i : Expr} {xi : m D} (h : GD X.K X.w X.mg x kvs) (hi : VE X ρ i xi) (hg : Gl X x := by rfl) (hdb : (x == ("__debug__" : Str)) = false := by decide) (hs : PlainIx i := by exact fun _ _ => rfl) :
    VE X ρ (.Subscript (.Name x pn) i pos) (xi >>= fun k => PM.lift (pickS kvs k)) := by
  obtain ⟨a, es, n, h1, h2, h3, h4⟩ := h
  refine imE (pe_ix ix_kdict (pe_glob (v := .ref a) hg h1 rfl hdb) hi hs) fun σ H Q ⟨T, A, w, ev, q⟩ => ?_
  show tE X.K ρ xi σ H _
  rw [PM.run_bind] at q
  refine ⟨T, A, w, ev, PM.mono (fun d q v H1 o => ?_) q⟩
  obtain ⟨r, er, q⟩ := (PM.run_lift _ _).mp q
  have rp := o.rp
  cases rp with
  | str k =>
    have er : (kvs.find? fun p => decide (p.1 = k)).map (·.2) = some r := er
    obtain ⟨p, hp, rfl⟩ := Option.map_eq_some_iff.mp er
    have hk := List.find?_some hp
    rw [decide_eq_true_eq] at hk
    obtain ⟨u, e1, e2⟩ := h4 p (List.mem_of_find?_eq_some hp)
    obtain ⟨v', rv, rr⟩ := kdat_rep (T := T) (A := A) (H := H1) e2
    exact ⟨a, k, v', rfl, rfl, ⟨es, n, u, h2, h3, by rw [← hk]; exact e1, rv⟩, q v' H1 ⟨o.st, o.ok, rr⟩⟩
  | _ => cases er
end
/-! ### is True -/
section
variable {K : W.Frag}
def dIsB : D → D → Option D
  | .bool a, .bool b => some (.bool (decide (a = b)))
  | _, _ => none
def dIsNotB : D → D → Option D
  | .bool a, .bool b => some (.bool (!decide (a = b)))
  | _, _ => none
theorem okIsB : OkR K dIsB rIsB := by
  intro T A H x y p q d Q w rx ry e k
  cases rx <;> cases ry <;> first
    | (cases e; exact ⟨_, _, rfl, rfl, k _ _ (.same w (.bl _))⟩)
    | cases e
theorem okIsNotB : OkR K dIsNotB rNotB := by
  intro T A H x y p q d Q w rx ry e k
  cases rx <;> cases ry <;> first
    | (cases e; exact ⟨_, _, rfl, rfl, k _ _ (.same w (.bl _))⟩)
    | cases e
end
end Qv

namespace Qv
open PySem PySem.Spec PyProof.Rows L2
/-! ## stepping through mirrors by simp -/
theorem dAdd_ii {i j : Int} : dAdd (.int i) (.int j) = some (.int (i + j)) := id rfl
theorem dSub_ii {i j : Int} : dSub (.int i) (.int j) = some (.int (i - j)) := id rfl
theorem dNeg_i {i : Int} : dNeg (.int i) = some (.int (-i)) := id rfl
theorem dLt_ii {i j : Int} : dLt (.int i) (.int j) = some (.bool (decide (i < j))) := id rfl
theorem dLe_ii {i j : Int} : dLe (.int i) (.int j) = some (.bool (decide (i ≤ j))) := id rfl
theorem dGt_ii {i j : Int} : dGt (.int i) (.int j) = some (.bool (decide (j < i))) := id rfl
theorem dGe_ii {i j : Int} : dGe (.int i) (.int j) = some (.bool (decide (j ≤ i))) := id rfl
theorem dEq_i2 {i j : Int} : dEq (.int i) (.int j) = some (.bool (decide (i = j))) := id rfl
theorem dNe_i2 {i j : Int} : dNe (.int i) (.int j) = some (.bool (!decide (i = j))) := id rfl
theorem dNe_bb {i j : Bool} : dNe (.bool i) (.bool j) = some (.bool (i != j)) := by cases i <;> cases j <;> rfl
theorem dEq_bb {i j : Bool} : dEq (.bool i) (.bool j) = some (.bool (i == j)) := by cases i <;> cases j <;> rfl
theorem dTruth_b {b : Bool} : dTruth (.bool b) = some b := id rfl
theorem dBool_b {b : Bool} : dBool (.bool b) = some b := id rfl
theorem dInt_i {i : Int} : f1 dInt [.int i] = some (.int i) := id rfl
theorem dIx_l {l : List D} {i : Int} : dIx (.list l) (.int i) = atI l i := id rfl
theorem dIx_t {l : List D} {i : Int} : dIx (.tuple l) (.int i) = atI l i := id rfl
theorem dLen_l {l : List D} : f1 dLen [.list l] = some (.int l.length) := id rfl
theorem dLen_t {l : List D} : f1 dLen [.tuple l] = some (.int l.length) := id rfl
theorem dTuple_l {l : List D} : f1 dTuple [.list l] = some (.tuple l) := id rfl
theorem dTuple_t {l : List D} : f1 dTuple [.tuple l] = some (.tuple l) := id rfl
theorem dIter_l {l : List D} : dIter (.list l) = some l := id rfl
theorem dIter_t {l : List D} : dIter (.tuple l) = some l := id rfl
theorem flat_n {i : Nat} {x : D} : Pt.flat (.n i) x = some [x] := by rw [Pt.flat]
theorem flat_tt {ps : List Pt} {xs : List D} : Pt.flat (.t ps) (.tuple xs) = Pt.flats ps xs := by rw [Pt.flat]
theorem flat_tl {ps : List Pt} {xs : List D} : Pt.flat (.t ps) (.list xs) = Pt.flats ps xs := by rw [Pt.flat]
theorem flats_nil : Pt.flats [] [] = some [] := by rw [Pt.flats]
theorem flats_cons {p : Pt} {ps : List Pt} {x : D} {xs : List D} : Pt.flats (p :: ps) (x :: xs) = (Pt.flat p x).bind fun a => (Pt.flats ps xs).bind fun b => some (a ++ b) := by
  rw [Pt.flats]
  cases Pt.flat p x with
  | none => rfl
  | some a => cases Pt.flats ps xs <;> rfl
theorem at0 {a : D} {l : List D} : atI (a :: l) 0 = some a := atI_nat (j := 0) rfl
theorem at1 {a b : D} {l : List D} : atI (a :: b :: l) 1 = some b := atI_nat (j := 1) rfl
theorem at2 {a b c : D} {l : List D} : atI (a :: b :: c :: l) 2 = some c := atI_nat (j := 2) rfl
theorem at3 {a b c d : D} {l : List D} : atI (a :: b :: c :: d :: l) 3 = some d := atI_nat (j := 3) rfl
section
variable {m : Type → Type} [PM m] {α β : Type}
theorem run_ls {a : α} {K : α → Prop} : PM.run (PM.lift (some a) : m α) K ↔ K a := by
  rw [PM.run_lift]
  exact ⟨fun ⟨r, e, h⟩ => by cases e; exact h, fun h => ⟨a, rfl, h⟩⟩
theorem run_if {c : Prop} [Decidable c] {x y : m α} {K : α → Prop} : PM.run (if c then x else y) K ↔ (if c then PM.run x K else PM.run y K) := by
  by_cases h : c
  · rw [if_pos h, if_pos h]
  · rw [if_neg h, if_neg h]
theorem thenT_nx {k : α → m D} {a : α} : thenT k (.nx a) = k a := id rfl
theorem thenT_rt {k : α → m D} {v : D} : thenT k (.rt v) = pure v := id rfl
theorem thenO_nx {k : α → m (Out β)} {a : α} : thenO k (.nx a) = k a := id rfl
theorem thenO_rt {k : α → m (Out β)} {v : D} : thenO k (.rt v) = pure (.rt v) := id rfl
theorem un1_c {f : D → m β} {a : D} : un1 f [a] = f a := id rfl
theorem un2_c {f : D → D → m β} {a b : D} : un2 f [a, b] = f a b := id rfl
theorem un3_c {f : D → D → D → m β} {a b c : D} : un3 f [a, b, c] = f a b c := id rfl
theorem un4_c {f : D → D → D → D → m β} {a b c d : D} : un4 f [a, b, c, d] = f a b c d := id rfl
theorem un5_c {f : D → D → D → D → D → m β} {a b c d e : D} : un5 f [a, b, c, d, e] = f a b c d e := id rfl
theorem forO_nil {f : α → D → m (Out α)} {s : α} : forO f s [] = pure (.nx s) := id rfl
/-- [x for .. in ..] that draws -/
theorem run_comp_all {it : m (List D)} {i : Nat} {x : D → m D} {P : D → Prop} {K : D → Prop} (h : PM.run it fun ps => ps.length ≤ 16777216 ∧ (∀ p ∈ ps, PM.run (x p) P) ∧ ∀ ys : List D, ys.length = ps.length → (∀ y ∈ ys, P y) → K (.list ys)) : PM.run (compM it (.n i) (fun _ => pure true) (un1 x)) K := by
  unfold compM
  refine run_b (PM.mono (fun ps ⟨h1, h2, h3⟩ => run_lb (sizeL_some h1) (run_b ?_)) h)
  have go : ∀ (ps : List D) (K2 : List D → Prop), (∀ p ∈ ps, PM.run (x p) P) → (∀ ys : List D, ys.length = ps.length → (∀ y ∈ ys, P y) → K2 ys) → PM.run (cmpD (turnM (.n i) (fun _ => pure true) (un1 x)) ps) K2 := by
    intro ps
    induction ps with
    | nil => exact fun K2 _ k => run_p (k [] rfl (fun y hy => by cases hy))
    | cons p ps ih =>
      intro K2 hx k
      refine run_b ?_
      unfold turnM
      refine run_lb rfl (run_pb ?_)
      rw [if_pos rfl]
      refine run_b (PM.mono (fun y hy => run_p ?_) (hx p List.mem_cons_self))
      refine run_b (ih _ (fun q hq => hx q (List.mem_cons_of_mem _ hq)) fun ys e1 e2 => run_p ?_)
      exact k (y :: ys) (by rw [List.length_cons, e1, List.length_cons]) fun z hz => by
        rcases List.mem_cons.mp hz with rfl | hz
        · exact hy
        · exact e2 z hz
  exact go ps _ h2 fun ys e1 e2 => run_p (h3 ys e1 e2)
end
theorem run_dA' {k : Int} {K : D → Prop} (h : 0 < k ∧ k < 1000000000 ∧ ∀ d : Int, 0 ≤ d → d < k → K (.int d)) : PM.run (drawA [tokA, .int k]) K := run_dA h.1 h.2.1 h.2.2
/-! ## the laws' own comparison, of a thing with itself -/
theorem leq_seq {n : Nat} {d : D} {xs : List D} (hp : d.plain = true) (hl : d.isList = true ∨ d.isTuple = true) (hn : f1 dLen [d] = some (.int xs.length)) (hx : ∀ i : Int, dIx d (.int i) = atI xs i) (hz : xs.length ≤ 16777216) (h : ∀ x ∈ xs, m_law_eq n [x, x] = some (.bool true)) : m_law_eq (n + 1) [d, d] = some (.bool true) := by
  have hc : compM (m := Option) (((PM.lift (f1 dLen [d])) >>= fun a => pure (a :: [])) >>= fun l => PM.lift (rng1L l)) (.n 2) (un1 fun k_1 => (((((PM.lift (dIx d k_1)) >>= fun a => ((PM.lift (dIx d k_1)) >>= fun a => pure (a :: [])) >>= fun l => pure (a :: l)) >>= fun l => PM.lift ((m_law_eq n) l)) >>= fun p => PM.lift (dTruth p)) >>= fun c => pure (!c))) (un1 fun k_1 => (pure k_1)) = some (.list []) := by
    refine (comp_if (ps := rgL 0 xs.length) (b := fun _ => false) (g := id) ?_ (by rw [rgL_len]; exact hz) (fun p hp => ?_) (fun p hp h => by cases h)).trans ?_
    · rw [hn]
      have e := rng1 (n := (xs.length : Int)) (by omega) (by omega)
      rw [Int.toNat_natCast] at e
      simp only [o_lift, o_pure, o_bind, o_some, e]
    · obtain ⟨k, hk, rfl⟩ := rgL_mem hp
      simp only [hx]
      have e : atI xs (0 + (k : Int)) = some xs[k] := by rw [Int.zero_add]; exact atI_nat (List.getElem?_eq_getElem hk)
      simp only [o_lift, o_pure, o_bind, o_some, e, h _ (List.getElem_mem hk)]
      rfl
    · have : ∀ l : List D, (l.filter fun _ => false) = [] := fun l => by induction l with | nil => rfl | cons x xs ih => rw [List.filter_cons, ih]; rfl
      rw [this]; rfl
  have e1 : dNe (PyData.bool d.isList) (.bool d.isList) = some (.bool false) := by cases d.isList <;> rfl
  have e2 : dNe (PyData.bool d.isTuple) (.bool d.isTuple) = some (.bool false) := by cases d.isTuple <;> rfl
  have e3 : dNe (.int (xs.length : Int)) (.int (xs.length : Int)) = some (.bool false) := by
    rw [dNe_i2]; simp
  have e4 : dEq (PyData.list []) (.list []) = some (.bool true) := isS_eq (by decide +kernel)
  unfold m_law_eq
  simp only [o_lift, o_pure, o_bind, hn, o_some] at hc
  rcases hl with hl | hl <;> cases ht : d.isTuple <;> cases hl' : d.isList <;>
    simp only [u2_eq, o_lift, o_pure, o_bind, plainB_some hp, hn, o_some, e1, e2, hl, ht, hl', dTruth_b, dBool_b, dNe_bb, if_true, Bool.false_eq_true, if_false, bne_self_eq_false, e3, hc, e4] at hl hl' ht ⊢ <;> simp at hl
theorem eq_refl : ∀ {n : Nat} {d : D}, good n d = true → m_law_eq n [d, d] = some (.bool true)
  | n + 1, .list xs, h => by
    have hp := good_plain h
    simp only [good, Bool.and_eq_true, List.all_eq_true, decide_eq_true_eq] at h
    exact leq_seq hp (.inl rfl) rfl (fun i => rfl) h.1 fun x hx => eq_refl (h.2 x hx)
  | n + 1, .tuple xs, h => by
    have hp := good_plain h
    simp only [good, Bool.and_eq_true, List.all_eq_true, decide_eq_true_eq] at h
    exact leq_seq hp (.inr rfl) rfl (fun i => rfl) h.1 fun x hx => eq_refl (h.2 x hx)
  | n + 1, .none, _ => rfl
  | n + 1, .bool b, _ => by cases b <;> rfl
  | n + 1, .int i, _ => by
    have k : m_law_eq (n + 1) [.int i, .int i] = (dEq (PyData.int i) (.int i)) := rfl
    rw [k, dEq_i2]; simp
  | n + 1, .str x, _ => by
    have e : dEq (PyData.str x) (.str x) = some (.bool true) := by
      simp [dEq, PyData.plain, PyData.depth, PyData.eqv]
    have k : m_law_eq (n + 1) [.str x, .str x] = (dEq (PyData.str x) (.str x)) := rfl
    rw [k, e]
end Qv

namespace Qv
/-! ## smaller lattices, plainly -/
def fX (a b c x y : Int) : Int := (x - y.fdiv c * b).fmod a
def fY (c y : Int) : Int := y.fmod c
def fS (a b c x y : Int) : Bool := decide (y.fmod c = 0) && decide ((x - y.fdiv c * b).fmod a = 0)
def inL (a b c x y : Int) : Prop := ∃ s t : Int, x = s * a + t * b ∧ y = t * c
theorem eucl {q r t u c : Int} (h0 : 0 ≤ q) (h1 : q < c) (h2 : 0 ≤ r) (h3 : r < c) (h : q + t * c = r + u * c) : q = r ∧ t = u := by
  have e : q = r := by
    have e1 : (q + t * c) % c = q := by rw [Int.add_mul_emod_self_right, Int.emod_eq_of_lt h0 h1]
    have e2 : (r + u * c) % c = r := by rw [Int.add_mul_emod_self_right, Int.emod_eq_of_lt h2 h3]
    rw [← e1, h, e2]
  refine ⟨e, ?_⟩
  subst e
  have h4 : t * c = u * c := by omega
  exact Int.eq_of_mul_eq_mul_right (by omega) h4
section
variable {a b c : Int} (ha : 0 < a) (hc : 0 < c)
include ha hc
theorem fX_bd (x y : Int) : 0 ≤ fX a b c x y ∧ fX a b c x y < a := ⟨Int.fmod_nonneg_of_pos _ ha, Int.fmod_lt_of_pos _ ha⟩
omit ha in
theorem fY_bd (y : Int) : 0 ≤ fY c y ∧ fY c y < c := ⟨Int.fmod_nonneg_of_pos _ hc, Int.fmod_lt_of_pos _ hc⟩
theorem rep (x y : Int) : ∃ s t, x = fX a b c x y + (s * a + t * b) ∧ y = fY c y + t * c := by
  refine ⟨(x - y.fdiv c * b).fdiv a, y.fdiv c, ?_, ?_⟩
  · have := Int.fmod_add_mul_fdiv (x - y.fdiv c * b) a
    unfold fX
    have e := Int.mul_comm a ((x - y.fdiv c * b).fdiv a)
    omega
  · have := Int.fmod_add_mul_fdiv y c
    unfold fY
    have e := Int.mul_comm c (y.fdiv c)
    omega
/-- the told place is the only one in the box -/
theorem rep_eq {x y r q s t : Int} (h0 : 0 ≤ r) (h1 : r < a) (h2 : 0 ≤ q) (h3 : q < c) (hx : x = r + (s * a + t * b)) (hy : y = q + t * c) : fX a b c x y = r ∧ fY c y = q := by
  obtain ⟨s', t', e1, e2⟩ := rep (b := b) ha hc x y
  have ⟨b1, b2⟩ := fX_bd (b := b) ha hc x y
  have ⟨b3, b4⟩ := fY_bd hc y
  obtain ⟨e3, e4⟩ := eucl b3 b4 h2 h3 (e2.symm.trans hy)
  subst e4
  have e5 : fX a b c x y + s' * a = r + s * a := by omega
  exact ⟨(eucl b1 b2 h0 h1 e5).1, e3⟩
theorem cls_iff (x y u v : Int) : (fX a b c x y = fX a b c u v ∧ fY c y = fY c v) ↔ inL a b c (x - u) (y - v) := by
  obtain ⟨s, t, e1, e2⟩ := rep (b := b) ha hc x y
  obtain ⟨s', t', e3, e4⟩ := rep (b := b) ha hc u v
  constructor
  · intro ⟨h1, h2⟩
    refine ⟨s - s', t - t', ?_, ?_⟩
    · rw [Int.sub_mul, Int.sub_mul]; omega
    · rw [Int.sub_mul]; omega
  · intro ⟨s2, t2, h1, h2⟩
    have ⟨b1, b2⟩ := fX_bd (b := b) ha hc u v
    have ⟨b3, b4⟩ := fY_bd hc v
    exact rep_eq (s := s2 + s') (t := t2 + t') ha hc b1 b2 b3 b4 (by rw [Int.add_mul, Int.add_mul]; omega) (by rw [Int.add_mul]; omega)
theorem fS_iff (x y : Int) : fS a b c x y = true ↔ inL a b c x y := by
  have k := cls_iff (b := b) ha hc x y 0 0
  have e0 : fX a b c 0 0 = 0 ∧ fY c 0 = 0 := rep_eq (s := 0) (t := 0) ha hc (Int.le_refl 0) ha (Int.le_refl 0) hc (by simp) (by simp)
  rw [e0.1, e0.2, Int.sub_zero, Int.sub_zero] at k
  rw [← k]
  unfold fS
  rw [Bool.and_eq_true, decide_eq_true_eq, decide_eq_true_eq]
  exact And.comm
omit ha hc in
theorem inL_add {x y u v : Int} (h : inL a b c x y) (k : inL a b c u v) : inL a b c (x + u) (y + v) := by
  obtain ⟨s, t, rfl, rfl⟩ := h
  obtain ⟨s', t', rfl, rfl⟩ := k
  exact ⟨s + s', t + t', by rw [Int.add_mul, Int.add_mul]; omega, by rw [Int.add_mul]⟩
omit ha hc in
theorem inL_mul {x y : Int} (k : Int) (h : inL a b c x y) : inL a b c (k * x) (k * y) := by
  obtain ⟨s, t, rfl, rfl⟩ := h
  exact ⟨k * s, k * t, by rw [Int.mul_add, Int.mul_assoc, Int.mul_assoc], by rw [Int.mul_assoc]⟩
omit ha hc in
theorem inL_neg {x y : Int} (h : inL a b c x y) : inL a b c (-x) (-y) := by
  have := inL_mul (-1) h
  rwa [Int.neg_one_mul, Int.neg_one_mul] at this
omit ha hc in
theorem inL_sub {x y u v : Int} (h : inL a b c x y) (k : inL a b c u v) : inL a b c (x - u) (y - v) := by
  rw [Int.sub_eq_add_neg, Int.sub_eq_add_neg]
  exact inL_add h (inL_neg k)
omit ha hc in
theorem inL_0 : inL a b c 0 0 := ⟨0, 0, by simp, by simp⟩
/-- a linear part that keeps the two steps keeps all -/
def keepP (a b c p q r s : Int) : Prop := ∀ x y, inL a b c x y → inL a b c (p * x + q * y) (r * x + s * y)
omit ha hc in
theorem keep_iff {p q r s : Int} : keepP a b c p q r s ↔ (inL a b c (p * a) (r * a) ∧ inL a b c (p * b + q * c) (r * b + s * c)) := by
  constructor
  · intro h
    have h1 := h a 0 ⟨1, 0, by omega, by omega⟩
    have h2 := h b c ⟨0, 1, by omega, by omega⟩
    rw [Int.mul_zero, Int.mul_zero, Int.add_zero, Int.add_zero] at h1
    exact ⟨h1, h2⟩
  · intro ⟨h1, h2⟩ x y ⟨k, l, hx, hy⟩
    have h3 := inL_add (inL_mul k h1) (inL_mul l h2)
    have e1 : k * (p * a) + l * (p * b + q * c) = p * x + q * y := by subst hx; subst hy; grind
    have e2 : k * (r * a) + l * (r * b + s * c) = r * x + s * y := by subst hx; subst hy; grind
    rwa [e1, e2] at h3
/-- the colour -/
def fC (a b c x y : Int) : Int := fY c y * a + fX a b c x y
theorem fC_bd {n : Int} (hn : a * c = n) (x y : Int) : 0 ≤ fC a b c x y ∧ fC a b c x y < n := by
  have ⟨b1, b2⟩ := fX_bd (b := b) ha hc x y
  have ⟨b3, b4⟩ := fY_bd hc y
  unfold fC
  have e1 : 0 ≤ fY c y * a := Int.mul_nonneg b3 (by omega)
  have e2 : (fY c y + 1) * a ≤ c * a := Int.mul_le_mul_of_nonneg_right (by omega) (by omega)
  rw [Int.add_mul, Int.mul_comm c a, hn] at e2
  omega
theorem fC_iff (x y u v : Int) : fC a b c x y = fC a b c u v ↔ inL a b c (x - u) (y - v) := by
  rw [← cls_iff ha hc]
  have ⟨b1, b2⟩ := fX_bd (b := b) ha hc x y
  have ⟨b3, b4⟩ := fX_bd (b := b) ha hc u v
  unfold fC
  constructor
  · intro h
    have := eucl b1 b2 b3 b4 (t := fY c y) (u := fY c v) (by omega)
    exact ⟨this.1, this.2⟩
  · intro ⟨h1, h2⟩
    rw [h1, h2]
/-- the place of a colour -/
theorem fC_at {k : Int} (h0 : 0 ≤ k) (h1 : k < a * c) : fC a b c (k.fmod a) (k.fdiv a) = k ∧ 0 ≤ k.fdiv a ∧ k.fdiv a < c := by
  have e := Int.fmod_add_mul_fdiv k a
  have m0 := Int.fmod_nonneg_of_pos k ha
  have m1 := Int.fmod_lt_of_pos k ha
  have d0 : 0 ≤ k.fdiv a := Int.fdiv_nonneg h0 (by omega)
  have d1 : k.fdiv a < c := by
    by_cases h : k.fdiv a < c
    · exact h
    · have := Int.mul_le_mul_of_nonneg_left (Int.not_lt.mp h) (show 0 ≤ a by omega)
      omega
  have := rep_eq (b := b) (x := k.fmod a) (y := k.fdiv a) (s := 0) (t := 0) ha hc m0 m1 d0 d1 (by simp) (by simp)
  refine ⟨?_, d0, d1⟩
  unfold fC
  rw [this.1, this.2, Int.mul_comm]
  omega
theorem fC_col (x y : Int) : (fC a b c x y).fmod a = fX a b c x y ∧ (fC a b c x y).fdiv a = fY c y := by
  have ⟨b1, b2⟩ := fX_bd (b := b) ha hc x y
  have e := Int.fmod_add_mul_fdiv (fC a b c x y) a
  have m0 := Int.fmod_nonneg_of_pos (fC a b c x y) ha
  have m1 := Int.fmod_lt_of_pos (fC a b c x y) ha
  have h : (fC a b c x y).fmod a + (fC a b c x y).fdiv a * a = fX a b c x y + fY c y * a := by
    rw [Int.mul_comm] at e
    rw [e]
    unfold fC
    omega
  exact eucl m0 m1 b1 b2 h
end
end Qv

namespace Qv
open PySem PySem.Spec PyProof.Rows L2
def iOf : D → Int
  | .int i => i
  | _ => 0
theorem iOf_i {i : Int} : iOf (.int i) = i := id rfl
/-- told grows -/
theorem forB_grow {f : D → D → Option D} {G : D → List D} : ∀ {xs : List D} {acc : List D}, (∀ acc, ∀ x ∈ xs, acc.length + (G x).length ≤ 16777216 → f (.list acc) x = some (.list (acc ++ G x))) → acc.length + (xs.flatMap G).length ≤ 16777216 → forB (m := Option) f (.list acc) xs = some (.list (acc ++ xs.flatMap G))
  | [], acc, _, _ => by simp [forB]
  | x :: xs, acc, h, hz => by
    have hz' : acc.length + ((G x).length + (xs.flatMap G).length) ≤ 16777216 := by simpa [List.flatMap_cons] using hz
    show (f (.list acc) x).bind _ = _
    rw [h acc x List.mem_cons_self (by omega), o_some, forB_grow (fun acc y hy => h acc y (List.mem_cons_of_mem _ hy)) (by rw [List.length_append]; omega), List.flatMap_cons, List.append_assoc]
theorem app_l {acc : List D} {x : D} (h : acc.length + 1 ≤ 16777216) : dApp (.list acc) x = some (.list (acc ++ [x])) := if_pos (by rw [sizeLine_eq]; omega)
theorem rgL_flat {β : Type} {n : Nat} {G : D → List β} : (rgL 0 n).flatMap G = (List.range n).flatMap fun (k : Nat) => G (.int (k : Int)) := by
  unfold rgL
  rw [List.flatMap_map]
  simp
theorem rgL_map {β : Type} {n : Nat} {G : D → β} : (rgL 0 n).map G = (List.range n).map fun (k : Nat) => G (.int (k : Int)) := by
  unfold rgL
  rw [List.map_map]
  simp [Function.comp_def]
theorem rgL_z {n : Nat} : rgL 0 n = (List.range n).map fun (k : Nat) => PyData.int (k : Int) := by
  unfold rgL
  simp
theorem single_map {α β : Type} {l : List α} {f : α → β} : (l.flatMap fun x => [f x]) = l.map f := by
  induction l with
  | nil => rfl
  | cons x xs ih => rw [List.flatMap_cons, ih]; rfl
theorem flatMap_cg {α β : Type} {l : List α} {f g : α → List β} (h : ∀ x ∈ l, f x = g x) : l.flatMap f = l.flatMap g := by
  induction l with
  | nil => rfl
  | cons x xs ih => rw [List.flatMap_cons, List.flatMap_cons, h x List.mem_cons_self, ih fun y hy => h y (List.mem_cons_of_mem _ hy)]
theorem range_mul {β : Type} (a : Nat) (f : Nat → β) : ∀ c : Nat, (List.range (c * a)).map f = (List.range c).flatMap fun y => (List.range a).map fun x => f (y * a + x)
  | 0 => by simp
  | c + 1 => by
    rw [Nat.succ_mul, List.range_add, List.map_append, range_mul a f c, List.range_succ, List.flatMap_append, List.map_map]
    simp [Function.comp_def]
theorem map_int_len {l : List Int} : (l.map PyData.int).length = l.length := List.length_map ..
theorem isInts_map {l : List Int} : isInts (l.map PyData.int) = true := by
  induction l with
  | nil => rfl
  | cons x xs ih => exact ih
theorem sortOk_ints {l : List Int} : sortOk (l.map PyData.int) = true := by
  have hc : ∀ x ∈ l.map PyData.int, cls x = .i := fun x hx => by obtain ⟨i, _, rfl⟩ := List.mem_map.mp hx; rfl
  unfold sortOk
  simp only [Bool.and_eq_true, decide_eq_true_eq, List.all_eq_true]
  refine ⟨⟨?_, ?_⟩, fun x hx => ?_⟩
  · cases e : l.map PyData.int with
    | nil => rfl
    | cons x xs =>
      rw [e] at hc
      show ((cls x).ok && xs.all fun y => decide (cls y = cls x)) = true
      rw [hc x List.mem_cons_self]
      simp only [Sh.ok, Bool.true_and, List.all_eq_true, decide_eq_true_eq]
      exact fun y hy => hc y (List.mem_cons_of_mem _ hy)
  · exact Nat.le_trans (depthAll_le (n := 1) fun x hx => by obtain ⟨i, _, rfl⟩ := List.mem_map.mp hx; simp [PyData.depth]) (by decide)
  · obtain ⟨i, _, rfl⟩ := List.mem_map.mp hx; rfl
theorem anti_ints {l : List Int} : ∀ x ∈ l.map PyData.int, ∀ y ∈ l.map PyData.int, leD x y = true → leD y x = true → x = y := fun x hx y hy h1 h2 => by
  obtain ⟨i, _, rfl⟩ := List.mem_map.mp hx
  obtain ⟨j, _, rfl⟩ := List.mem_map.mp hy
  rw [leD_ints, decide_eq_true_eq] at h1 h2
  rw [Int.le_antisymm h1 h2]
/-- what is sorted stays -/
theorem srt_id {l : List D} (h : l.Pairwise fun x y => leD x y = true) : srtD leD l = l := by
  induction l with
  | nil => rfl
  | cons x xs ih =>
    rw [List.pairwise_cons] at h
    rw [srtD, ih h.2]
    cases xs with
    | nil => rfl
    | cons y ys => exact if_pos (h.1 y List.mem_cons_self)
theorem rgL_sorted {n : Nat} : (rgL 0 n).Pairwise fun x y => leD x y = true := by
  rw [rgL_z, List.pairwise_map]
  exact List.Pairwise.imp (fun {x y} h => by rw [leD_ints, decide_eq_true_eq]; omega) List.pairwise_lt_range
theorem perm_range {l : List Int} {n : Nat} (hl : l.length = n) (nd : l.Nodup) (bd : ∀ i ∈ l, 0 ≤ i ∧ i < n) : List.Perm l ((List.range n).map fun (k : Nat) => (k : Int)) := by
  have nr : ((List.range n).map fun (k : Nat) => (k : Int)).Nodup := List.nodup_range.map _ fun x y hne e => hne (by omega)
  refine (List.perm_ext_iff_of_nodup nd nr).mpr fun i => ⟨fun h => ?_, fun h => ?_⟩
  · obtain ⟨h1, h2⟩ := bd i h
    exact List.mem_map.mpr ⟨i.toNat, by rw [List.mem_range]; omega, by omega⟩
  · obtain ⟨k, hk, rfl⟩ := List.mem_map.mp h
    by_cases hm : (k : Int) ∈ l
    · exact hm
    · have h1 := nat_nodup_len (((k : Int) :: l).map Int.toNat) (List.range n) ?_ ?_
      · rw [List.length_map, List.length_cons, hl, List.length_range] at h1; omega
      · refine List.pairwise_map.mpr (List.Pairwise.imp_of_mem (fun {x y} hx hy hne e => hne ?_) (List.nodup_cons.mpr ⟨hm, nd⟩))
        have b : ∀ z ∈ (k : Int) :: l, 0 ≤ z := fun z hz => by
          rcases List.mem_cons.mp hz with rfl | hz
          · omega
          · exact (bd z hz).1
        have := b x hx
        have := b y hy
        omega
      · intro x hx
        obtain ⟨z, hz, rfl⟩ := List.mem_map.mp hx
        rw [List.mem_range]
        rcases List.mem_cons.mp hz with rfl | hz
        · rw [List.mem_range] at hk; omega
        · have := bd z hz; omega
theorem sort_range {l : List Int} {n : Nat} (hl : l.length = n) (nd : l.Nodup) (bd : ∀ i ∈ l, 0 ≤ i ∧ i < n) : srtD leD (l.map PyData.int) = rgL 0 n := by
  have p := (perm_range hl nd bd).map PyData.int
  rw [srt_perm p anti_ints, List.map_map]
  have e : ((List.range n).map (PyData.int ∘ fun (k : Nat) => (k : Int))) = rgL 0 n := by rw [rgL_z]; rfl
  rw [e]
  exact srt_id rgL_sorted
theorem allL_map {α : Type} {xs : List α} {h : α → Bool} : f1 dAllL [.list (xs.map fun x => PyData.bool (h x))] = some (.bool (xs.all h)) := by
  have e : ∀ xs : List α, dBools (xs.map fun x => PyData.bool (h x)) = some (xs.map h) := fun xs => by
    induction xs with
    | nil => rfl
    | cons x xs ih => rw [List.map_cons, dBools, ih]; rfl
  show (dBools _).map _ = _
  rw [e]
  simp [Function.comp_def]
theorem good_ints {l : List Int} {n : Nat} (h : l.length ≤ 16777216) : good (n + 2) (.tuple (l.map PyData.int)) = true ∧ good (n + 2) (.list (l.map PyData.int)) = true := by
  have : ((decide ((l.map PyData.int).length ≤ 16777216)) && (l.map PyData.int).all (good (n + 1))) = true := by
    rw [Bool.and_eq_true, decide_eq_true_eq, List.all_eq_true]
    exact ⟨by rw [List.length_map]; exact h, fun x hx => by obtain ⟨i, _, rfl⟩ := List.mem_map.mp hx; rfl⟩
  exact ⟨this, this⟩
theorem dNe_intsT {l : List Int} : dNe (.tuple (l.map PyData.int)) (.tuple (l.map PyData.int)) = some (.bool false) := dNe_self plain_ints (by
  have := depthAll_le (n := 1) (xs := l.map PyData.int) fun x hx => by obtain ⟨i, _, rfl⟩ := List.mem_map.mp hx; simp [PyData.depth]
  show PyData.depthAll _ + 1 ≤ 60
  omega) fun i e => nomatch e
theorem dNe_intsL {l : List Int} : dNe (.list (l.map PyData.int)) (.list (l.map PyData.int)) = some (.bool false) := dNe_self plain_ints (by
  have := depthAll_le (n := 1) (xs := l.map PyData.int) fun x hx => by obtain ⟨i, _, rfl⟩ := List.mem_map.mp hx; simp [PyData.depth]
  show PyData.depthAll _ + 1 ≤ 60
  omega) fun i e => nomatch e
section
variable {m : Type → Type} [PM m]
theorem sure_comp_if {it : m (List D)} {ps : List D} {i : Nat} {c : D → m Bool} {x : D → m D} {b : D → Bool} {g : D → D} (h : Sure it ps) (hz : ps.length ≤ 16777216) (hc : ∀ p ∈ ps, Sure (c p) (b p)) (hx : ∀ p ∈ ps, b p = true → Sure (x p) (g p)) : Sure (compM it (.n i) (un1 c) (un1 x)) (.list ((ps.filter b).map g)) := by
  unfold compM
  refine sure_b h (sure_b (sure_l (sizeL_some hz)) (sure_b (sure_cmp (g := fun p => if b p = true then some (g p) else none) fun p hp => ?_) ?_))
  · unfold turnM
    refine sure_b (sure_l rfl) (sure_b (hc p hp) ?_)
    by_cases e : b p = true
    · rw [if_pos e, if_pos e]; exact sure_b (hx p hp e) sure_p
    · rw [if_neg e, if_neg e]; exact sure_p
  · have e : ∀ ps : List D, ps.filterMap (fun p => if b p = true then some (g p) else none) = (ps.filter b).map g := fun ps => by
      induction ps with
      | nil => rfl
      | cons p ps ih =>
        rw [List.filterMap_cons, List.filter_cons, ih]
        by_cases e : b p = true
        · rw [if_pos e, if_pos e]; rfl
        · rw [if_neg e, if_neg e]
    rw [e]
    exact sure_p
theorem run_forO2 {α : Type} {f : α → D → m (Out α)} {K : Out α → Prop} (I : α → List D → Prop) : ∀ {xs : List D} {s : α}, I s xs → (∀ s x xs, I s (x :: xs) → PM.run (f s x) fun o => ∃ s', (o = .nx s' ∨ o = .ct s') ∧ I s' xs) → (∀ s, I s [] → K (.nx s)) → PM.run (forO f s xs) K
  | [], s, h, k, e => run_p (e s h)
  | x :: xs, s, h, k, e => by
    show PM.run (f s x >>= _) K
    refine run_b (PM.mono (fun o q => ?_) (k s x xs h))
    obtain ⟨s', rfl | rfl, i⟩ := q
    · exact run_forO2 I i k e
    · exact run_forO2 I i k e
theorem run_ifp {α : Type} {k : Bool} {x y : α} {K : α → Prop} : PM.run (if k = true then (pure x : m α) else pure y) K ↔ K (if k = true then x else y) := by
  cases k
  · rw [if_neg (by decide), if_neg (by decide), PM.run_pure]
  · rw [if_pos rfl, if_pos rfl, PM.run_pure]
theorem sure_o {x : m D} {d : D} (h : ∀ K : D → Prop, K d → PM.run x K) : Sure x d := h
end
theorem eqv_nil {l : List D} : PyData.eqv (.list l) (.list []) = l.isEmpty := by cases l <;> simp [PyData.eqv, PyData.eqvAll]
theorem dEq_nil {l : List D} (h : PyData.plainAll l = true) : dEq (.list l) (.list []) = some (.bool l.isEmpty) := by
  show (if _ then _ else _) = _
  rw [if_pos, eqv_nil]
  have e : (PyData.list l).plain = true := h
  rw [e]
  simp [PyData.plain, PyData.plainAll, PyData.depth, PyData.depthAll]
theorem rgM1_eq {n : Int} (h0 : 0 ≤ n) (h : n ≤ 16777216) : rgM1 (.int n) = some (rgL 0 n.toNat) := by
  show (if _ then _ else _) = _
  rw [if_pos (by simp only [rgOk, okR, Bool.and_eq_true, decide_eq_true_eq]; omega), Int.sub_zero]
theorem rgM2_eq {a b : Int} (h0 : -16777216 ≤ a) (h1 : a ≤ 16777216) (h2 : b ≤ 16777216) (h3 : -16777216 ≤ b) (h : (b - a).toNat ≤ 16777216) : rgM2 (.int a) (.int b) = some (rgL a (b - a).toNat) := by
  show (if _ then _ else _) = _
  rw [if_pos (by simp only [rgOk, okR, Bool.and_eq_true, decide_eq_true_eq]; omega)]
theorem eqv_pr {a b c d : Int} : PyData.eqv (.tuple [.int a, .int b]) (.tuple [.int c, .int d]) = (decide (a = c) && decide (b = d)) := by
  simp [PyData.eqv, PyData.eqvAll]
  rfl
def cmpOk (a b : D) : Bool := a.plain && b.plain && decide (min a.depth b.depth ≤ 60)
theorem dNe_t {xs : List D} {d : D} (h : cmpOk (.tuple xs) d = true) : dNe (.tuple xs) d = some (.bool (!PyData.eqv (.tuple xs) d)) := if_pos h
theorem dEq_t {xs : List D} {d : D} (h : cmpOk (.tuple xs) d = true) : dEq (.tuple xs) d = some (.bool (PyData.eqv (.tuple xs) d)) := if_pos h
theorem dNe_l {xs : List D} {d : D} (h : cmpOk (.list xs) d = true) : dNe (.list xs) d = some (.bool (!PyData.eqv (.list xs) d)) := if_pos h
theorem dEq_l {xs : List D} {d : D} (h : cmpOk (.list xs) d = true) : dEq (.list xs) d = some (.bool (PyData.eqv (.list xs) d)) := if_pos h
theorem cmp_pr {a b c d : Int} : cmpOk (.tuple [.int a, .int b]) (.tuple [.int c, .int d]) = true := by simp [cmpOk, PyData.plain, PyData.plainAll, PyData.depth, PyData.depthAll]
theorem dNe_pr {a b c d : Int} : dNe (.tuple [.int a, .int b]) (.tuple [.int c, .int d]) = some (.bool (!(decide (a = c) && decide (b = d)))) := by
  rw [dNe_t cmp_pr, eqv_pr]
theorem dEq_pr {a b c d : Int} : dEq (.tuple [.int a, .int b]) (.tuple [.int c, .int d]) = some (.bool (decide (a = c) && decide (b = d))) := by
  rw [dEq_t cmp_pr, eqv_pr]
theorem comp_mapS {it : Option (List D)} {ps : List D} {i : Nat} {x : D → Option D} {g : D → D} (h : it = some ps) (hz : ps.length ≤ 16777216) (hx : ∀ p ∈ ps, x p = some (g p)) : compM it (.n i) (fun _ => some true) (un1 x) = some (.list (ps.map g)) := comp_map h hz hx
theorem dIs_n : dIs .none .none = some (.bool true) := id rfl
theorem dIs_t {l : List D} : dIs (.tuple l) .none = some (.bool false) := id rfl
theorem dIsNot_n : dIsNot .none .none = some (.bool false) := id rfl
theorem dIsNot_t {l : List D} : dIsNot (.tuple l) .none = some (.bool true) := id rfl
theorem at_map {n : Nat} {f : Int → Int} {k : Int} (h0 : 0 ≤ k) (h1 : k < n) : atI (((List.range n).map fun (j : Nat) => f j).map PyData.int) k = some (.int (f k)) := by
  have := atI_nat (xs := ((List.range n).map fun (j : Nat) => f j).map PyData.int) (j := k.toNat) (v := .int (f k)) (by
    rw [List.getElem?_map, List.getElem?_map, List.getElem?_range (by omega)]
    show some (PyData.int (f (k.toNat : Int))) = _
    rw [Int.toNat_of_nonneg h0])
  rwa [Int.toNat_of_nonneg h0] at this
end Qv

namespace Qv
open PySem PySem.Spec PyProof.Rows L2
/-! ## what draws nothing: computed in Option, sure anywhere -/
section
variable {m : Type → Type} [PM m] {α β : Type}
def Nt (x : Option α) (y : m α) : Prop := ∀ v, x = some v → Sure y v
theorem nt_pure {a : α} : Nt (pure a : Option α) (pure a : m α) := fun v e => by cases e; exact sure_p
theorem nt_lift {o : Option α} : Nt (PM.lift o : Option α) (PM.lift o : m α) := fun v e => sure_l e
theorem nt_bind {x : Option α} {y : m α} {f : α → Option β} {g : α → m β} (h : Nt x y) (k : ∀ a, Nt (f a) (g a)) : Nt (x >>= f) (y >>= g) := fun v e => by
  obtain ⟨a, e1, e2⟩ := Option.bind_eq_some_iff.mp (show x.bind f = some v from e)
  exact sure_b (h a e1) (k a v e2)
theorem nt_ite {c : Prop} [Decidable c] {x x' : Option α} {y y' : m α} (h : Nt x y) (k : Nt x' y') : Nt (if c then x else x') (if c then y else y') := by
  by_cases q : c
  · rw [if_pos q, if_pos q]; exact h
  · rw [if_neg q, if_neg q]; exact k
theorem nt_un1 {f : D → Option β} {g : D → m β} (h : ∀ a, Nt (f a) (g a)) : ∀ l, Nt (un1 f l) (un1 g l)
  | [a] => h a
  | [] => fun v e => by cases e
  | _ :: _ :: _ => fun v e => by cases e
theorem nt_un2 {f : D → D → Option β} {g : D → D → m β} (h : ∀ a b, Nt (f a b) (g a b)) : ∀ l, Nt (un2 f l) (un2 g l)
  | [a, b] => h a b
  | [] => fun v e => by cases e
  | [_] => fun v e => by cases e
  | _ :: _ :: _ :: _ => fun v e => by cases e
theorem nt_un3 {f : D → D → D → Option β} {g : D → D → D → m β} (h : ∀ a b c, Nt (f a b c) (g a b c)) : ∀ l, Nt (un3 f l) (un3 g l)
  | [a, b, c] => h a b c
  | [] => fun v e => by cases e
  | [_] => fun v e => by cases e
  | [_, _] => fun v e => by cases e
  | _ :: _ :: _ :: _ :: _ => fun v e => by cases e
theorem nt_un4 {f : D → D → D → D → Option β} {g : D → D → D → D → m β} (h : ∀ a b c d, Nt (f a b c d) (g a b c d)) : ∀ l, Nt (un4 f l) (un4 g l)
  | [a, b, c, d] => h a b c d
  | [] => fun v e => by cases e
  | [_] => fun v e => by cases e
  | [_, _] => fun v e => by cases e
  | [_, _, _] => fun v e => by cases e
  | _ :: _ :: _ :: _ :: _ :: _ => fun v e => by cases e
theorem nt_unl1 {f : D → List D → Option β} {g : D → List D → m β} (h : ∀ a l, Nt (f a l) (g a l)) : ∀ k l, Nt (unl1 f k l) (unl1 g k l)
  | [a], l => h a l
  | [], _ => fun v e => by cases e
  | _ :: _ :: _, _ => fun v e => by cases e
theorem nt_unl2 {f : D → D → List D → Option β} {g : D → D → List D → m β} (h : ∀ a b l, Nt (f a b l) (g a b l)) : ∀ k l, Nt (unl2 f k l) (unl2 g k l)
  | [a, b], l => h a b l
  | [], _ => fun v e => by cases e
  | [_], _ => fun v e => by cases e
  | _ :: _ :: _ :: _, _ => fun v e => by cases e
theorem nt_forB {f : α → D → Option α} {g : α → D → m α} (h : ∀ s x, Nt (f s x) (g s x)) : ∀ (xs : List D) (s : α), Nt (forB f s xs) (forB g s xs)
  | [], s => nt_pure
  | x :: xs, s => nt_bind (h s x) fun s' => nt_forB h xs s'
theorem nt_forO {f : α → D → Option (Out α)} {g : α → D → m (Out α)} (h : ∀ s x, Nt (f s x) (g s x)) : ∀ (xs : List D) (s : α), Nt (forO f s xs) (forO g s xs)
  | [], s => nt_pure
  | x :: xs, s => nt_bind (h s x) fun o => by
    cases o with
    | nx s' => exact nt_forO h xs s'
    | ct s' => exact nt_forO h xs s'
    | bk s' => exact nt_pure
    | rt v => exact nt_pure
theorem nt_whB {c : α → Option Bool} {c' : α → m Bool} {f : α → Option α} {g : α → m α} (hc : ∀ s, Nt (c s) (c' s)) (h : ∀ s, Nt (f s) (g s)) : ∀ (n : Nat) (s : α), Nt (whB c f n s) (whB c' g n s)
  | 0, s => fun v e => by cases e
  | n + 1, s => nt_bind (hc s) fun b => nt_ite (nt_bind (h s) fun s' => nt_whB hc h n s') nt_pure
theorem nt_cmpD {f : D → Option (Option D)} {g : D → m (Option D)} (h : ∀ x, Nt (f x) (g x)) : ∀ xs : List D, Nt (cmpD f xs) (cmpD g xs)
  | [] => nt_pure
  | x :: xs => nt_bind (h x) fun o => nt_bind (nt_cmpD h xs) fun ys => nt_pure
theorem nt_catD {f : D → Option (List D)} {g : D → m (List D)} (h : ∀ x, Nt (f x) (g x)) : ∀ xs : List D, Nt (catD f xs) (catD g xs)
  | [] => nt_pure
  | x :: xs => nt_bind (h x) fun o => nt_bind (nt_catD h xs) fun ys => nt_pure
theorem nt_compM {it : Option (List D)} {it' : m (List D)} {pt : Pt} {c : List D → Option Bool} {c' : List D → m Bool} {x : List D → Option D} {x' : List D → m D} (h1 : Nt it it') (h2 : ∀ l, Nt (c l) (c' l)) (h3 : ∀ l, Nt (x l) (x' l)) : Nt (compM it pt c x) (compM it' pt c' x') :=
  nt_bind h1 fun ps => nt_bind nt_lift fun ps => nt_bind (nt_cmpD (fun p => nt_bind nt_lift fun l => nt_bind (h2 l) fun b => nt_ite (nt_bind (h3 l) fun y => nt_pure) nt_pure) ps) fun ys => nt_pure
theorem nt_true : ∀ l : List D, Nt ((fun _ => pure true : List D → Option Bool) l) ((fun _ => pure true : List D → m Bool) l) := fun _ => nt_pure
end
end Qv

section
set_option maxHeartbeats 4000000
namespace Qv.k16
open PySem PySem.Spec PyProof.Rows L2
def topS (i : Nat) : Stmt := PySem.Challenge.pw_ornamentwright_k16_least_forms_and_sorts.main.body.getD i (.Pass ⟨0, 0, 0, 0⟩)



abbrev s_law_times : Stmt := topS 11
theorem sc_law_times : FnScope ["one", "other", "row", "j", "k"] ["one", "other"] (defScope s_law_times) := ⟨rfl, rfl, rfl, by decide +kernel, rfl, by decide +kernel, by decide +kernel⟩
def m_law_times : List D → Option D := un2 fun one_0 other_0 => (((compM (PM.lift (dIter one_0)) (.n 2) (fun _ => pure true) (un1 fun row_1 => (((compM (PM.lift (rng1L [(.int 2)])) (.n 3) (fun _ => pure true) (un1 fun j_2 => (((compM (PM.lift (rng1L [(.int 2)])) (.n 4) (fun _ => pure true) (un1 fun k_3 => ((PM.lift (dIx row_1 k_3)) >>= fun p => ((PM.lift (dIx other_0 k_3)) >>= fun p => PM.lift (dIx p j_2)) >>= fun q => PM.lift (dMul p q)))) >>= fun a => pure (a :: [])) >>= fun l => PM.lift ((f1 dSum) l)))) >>= fun a => pure (a :: [])) >>= fun l => PM.lift ((f1 dTuple) l)))) >>= fun a => pure (a :: [])) >>= fun l => PM.lift ((f1 dTuple) l))
theorem ok_law_times {P : Program} {w : World} {K : PySem.W.Frag} {mg : Str → Option Value} {base : Heap} {f : Addr} {fd : FuncData} (F : Fun K "_law_times" "_law_times" s_law_times f fd) (h0 : mg "_law_times" = some (.ref f)) (z_range : mg "range" = none) (z_sum : mg "sum" = none) (z_tuple : mg "tuple" = none)  : FC P w K mg base 1 "_law_times" m_law_times :=
  have nd := sc_law_times.nd
  FC.mk' [] F sc_law_times h0 (fun _ _ _ _ _ _ us hl => match us, hl with | [_, _], _ => rfl) un2_len fun cdv A outer s H E hr => len2 fun one_0 other_0 => VT.at (ρ' := [some one_0, some other_0, none, none, none]) (VT.ret (VE.ty call_tuple_of okTuple z_tuple boot_tuple (VA.cons_xp (VN.ve (VN.comp nd (own := [("row", 2)]) (VI.any_p (VE.var 0)) (by rfl) (fun _ _ _ _ _ => (VG.name 2 nd)) (fun _ _ _ _ _ _ _ => VT_.nil) (fun _ _ _ _ _ => len1 fun row_1 => VE.at (ρ' := [some one_0, some other_0, some row_1, none, none]) (VE.ty call_tuple_of okTuple z_tuple boot_tuple (VA.cons_xp (VN.ve (VN.comp nd (own := [("j", 3)]) (VI.range1_p z_range (VA.consC VE.int VA.nil)) (by rfl) (fun _ _ _ _ _ => (VG.name 3 nd)) (fun _ _ _ _ _ _ _ => VT_.nil) (fun _ _ _ _ _ => len1 fun j_2 => VE.at (ρ' := [some one_0, some other_0, some row_1, some j_2, none]) (VE.bi (cr_sumD rfl) okSum z_sum boot_sum (VA.cons_xp (VN.ve (VN.comp nd (own := [("k", 4)]) (VI.range1_p z_range (VA.consC VE.int VA.nil)) (by rfl) (fun _ _ _ _ _ => (VG.name 4 nd)) (fun _ _ _ _ _ _ _ => VT_.nil) (fun _ _ _ _ _ => len1 fun k_3 => VE.at (ρ' := [some one_0, some other_0, some row_1, some j_2, some k_3]) (VE.op opMul okMul (VE.ix_pp  (VE.var 2) (VE.var 4)) (VE.ix_xp  (VE.ix_pp  (VE.var 1) (VE.var 4)) (VE.var 3)))))) VA.nil))))) VA.nil))))) VA.nil)))

abbrev s_law_state : Stmt := topS 6
theorem sc_law_state : FnScope ["script", "seed", "cell"] ["script"] (defScope s_law_state) := ⟨rfl, rfl, rfl, by decide +kernel, rfl, by decide +kernel, by decide +kernel⟩
abbrev s_law_draw : Stmt := topS 7
theorem sc_law_draw : FnScope ["state", "many", "cells", "value", "mixed"] ["state", "many"] (defScope s_law_draw) := ⟨rfl, rfl, rfl, by decide +kernel, rfl, by decide +kernel, by decide +kernel⟩
section
variable {P : Program} {w : World} {K : PySem.W.Frag} {mg : Str → Option Value} {base : Heap}
theorem ok_law_state {f : Addr} {fd : FuncData} (F : Fun K "_law_state" "_law_state" s_law_state f fd) (z_abs : mg "abs" = none) (z_int : mg "int" = none) : FnOk P w K mg base CX0 1 f fd ["script"] (spState K) :=
  have nd := sc_law_state.nd
  F.ok sc_law_state (fun vs H Q E h => by obtain ⟨a, ns, rfl, _⟩ := h; rfl) fun cdv A outer s H vs Q E hr h => by
    obtain ⟨a, ns, rfl, hs, hz, q⟩ := h
    refine ⟨_, pss_cons (ps_set (i := 1) nd rfl (by first | exact Or.inl rfl | exact Or.inr rfl) pe_int)
      (pss_cons (ps_for PassesOwn.never rfl (pi_list (pv 0)) (pg_name (i := 2) nd rfl (by first | exact Or.inl rfl | exact Or.inr rfl))
        (pss_one (ps_set (i := 1) nd rfl (by first | exact Or.inl rfl | exact Or.inr rfl) (pe_op op_mod (pe_callTy call_int1 (by rfl) z_int boot_int (pa_cons (pe_op op_add (pe_op op_mul (pv 1) pe_int) (pv 2)) pa_nil)) pe_int))))
      (pss_one (ps_ret (pe_lst (pa_cons (pe_lc (own := [("cell", 2)]) (g := gName 2) (tt := tYes) rfl nd (pi_list (pv 0)) (blkOk_by (by rfl)) (fun _ _ _ _ _ => pg_name (i := 2) nd rfl (Or.inl rfl)) (fun _ _ _ _ _ => pts_nil) (fun _ _ _ _ _ => pe_callB call_abs (by rfl) z_abs boot_abs (pa_cons (pv 2) pa_nil))) (pa_cons (pe_op op_add (pv 1) pe_int) pa_nil)))))), ?_⟩
    exact state_run hs hz q
theorem ok_law_draw {f : Addr} {fd : FuncData} (F : Fun K "_law_draw" "_law_draw" s_law_draw f fd) (h0 : mg "_law_draw" = some (.ref f)) (z_len : mg "len" = none) (z_int : mg "int" = none) : FC P w K mg base 1 "_law_draw" drawA :=
  have nd := sc_law_draw.nd
  ⟨f, fd, ["state", "many"], F.ok sc_law_draw (fun vs H Q E h => by obtain ⟨T, A, n, xs, z, rfl, _⟩ := drawA_pre h; rfl) (fun cdv A outer s H vs Q E hr h => by
    obtain ⟨T, A, n, xs, z, rfl, hn, hn2, hz, hxs, hne, hs, hc, q⟩ := drawA_pre h
    refine ⟨_, pss_cons (ps_set (i := 2) nd rfl (.inl rfl) (pe_ix ix_list (pv 0) pe_int (fun _ _ => rfl)))
      (pss_cons (ps_while PassesOwn.never (pw_and (pt_cmp (pc_gt (pe_callB call_len (by rfl) z_len boot_len (pa_cons (pv 2) pa_nil)) pe_int)) (pw_and1 (pt_cmp (pc_eqI (pe_ix ix_list (pv 2) pe_int (fun _ _ => rfl)) pe_int)))).pt
        (pss_one (ps_expr (pe_bm PySem.F.plainAttrs_list PySem.F.slot_list_pop PySem.F.type_list_pop mt_popAt (pv 2) (pa_cons pe_int pa_nil)))))
      (pss_cons (ps_if (pt_cmp (pc_gt (pe_callB call_len (by rfl) z_len boot_len (pa_cons (pv 2) pa_nil)) pe_int))
        (pss_cons (ps_set (i := 3) nd rfl (.inl rfl) (pe_ix ix_list (pv 2) pe_int (fun _ _ => rfl)))
        (pss_cons (ps_asg (pe_op opDiv (pv 3) (pv 1)) (pg_sub (pv 2) pe_int set_list (by intro _; rfl)))
        (pss_one (ps_ret (pe_op op_mod (pe_callTy call_int1 (by rfl) z_int boot_int (pa_cons (pv 3) pa_nil)) (pv 1)))))) pss_nil)
      (pss_cons (ps_set (i := 4) nd rfl (.inl rfl) (pe_op op_mod (pe_callTy call_int1 (by rfl) z_int boot_int (pa_cons (pe_op op_add (pe_op op_mul (pe_ix ix_list (pv 0) pe_int (fun _ _ => rfl)) pe_int) pe_int) pa_nil)) pe_int))
      (pss_cons (ps_asg (pv 4) (pg_sub (pv 0) pe_int set_list (by intro _; rfl)))
      (pss_one (ps_ret (pe_op op_mod (pe_callTy call_int1 (by rfl) z_int boot_int (pa_cons (pe_op opDiv (pv 4) pe_int) pa_nil)) (pv 1)))))))), ?_⟩
    exact drawA_run hn hn2 hz hxs hne hs hc q), h0, F.kp, F.binds fun _ _ _ _ _ _ us hl => match us, hl with | [_, _], _ => rfl⟩
end


abbrev s_law_change : Stmt := topS 17
theorem sc_law_change : FnScope ["state", "many", "here", "k", "step"] ["state", "many"] (defScope s_law_change) := ⟨rfl, rfl, rfl, by decide +kernel, rfl, by decide +kernel, by decide +kernel⟩
def m_law_change : List D → PP D := un2 fun state_0 many_0 => (((PM.lift (rng1L [many_0])) >>= fun ps => forB (fun (s_1 : D) k_2 => (((drawA [state_0, (.int 5)]) >>= fun q => PM.lift (dIx (.list [(.tuple [(.tuple [(.int 1), (.int 1)]), (.tuple [(.int 0), (.int 1)])]), (.tuple [(.tuple [(.int 1), (.int 0)]), (.tuple [(.int 1), (.int 1)])]), (.tuple [(.tuple [(.int 0), (.int 1)]), (.tuple [(.int 1), (.int 0)])]), (.tuple [(.tuple [(.int 1), (.int 0)]), (.tuple [(.int 0), (.int (-1))])]), (.tuple [(.tuple [(.int 1), (.int (-1))]), (.tuple [(.int 0), (.int 1)])])]) q)) >>= fun step_3 => ((PM.lift (m_law_times [step_3, s_1])) >>= fun here_4 => pure here_4))) (.tuple [(.tuple [(.int 1), (.int 0)]), (.tuple [(.int 0), (.int 1)])]) ps) >>= fun (s_1 : D) => (pure s_1))
theorem ok_law_change {P : Program} {w : World} {K : PySem.W.Frag} {mg : Str → Option Value} {base : Heap} {f : Addr} {fd : FuncData} (F : Fun K "_law_change" "_law_change" s_law_change f fd) (h0 : mg "_law_change" = some (.ref f)) (z_range : mg "range" = none) (c_law_draw : FC P w K mg base 1 "_law_draw" drawA) (c_law_times : FC P w K mg base 1 "_law_times" m_law_times) : FC P w K mg base 2 "_law_change" m_law_change :=
  have nd := sc_law_change.nd
  FC.mk' [] F sc_law_change h0 (fun _ _ _ _ _ _ us hl => match us, hl with | [_, _], _ => rfl) un2_len fun cdv A outer s H E hr => len2 fun state_0 many_0 => VT.at (ρ' := [some state_0, some many_0, none, none, none]) (VT.consV (SB.asg (E := (fun a => [some state_0, some many_0, some a, none, none])) (i := 2) (VH.plain (VE.tupC (VA.consC (VE.tupC (VA.consC VE.int (VA.consC VE.int VA.nil))) (VA.consC (VE.tupC (VA.consC VE.int (VA.consC VE.int VA.nil))) VA.nil)))) (fun _ => rfl) nd) (VT.cons (E := (fun (s_1 : D) => [some state_0, some many_0, some s_1, none, none])) (SB.for (pt := (.n 3)) (E := (fun (s_1 : D) => [some state_0, some many_0, some s_1, none, none])) (a0 := (.tuple [(.tuple [(.int 1), (.int 0)]), (.tuple [(.int 0), (.int 1)])])) (VIH.range1_p z_range (VA.consC (VE.var 1) VA.nil)) (VG.name 3 nd) turn1 (.cs (.cs (.cs (.cs (.cs .nil))))) (fun s_1 => len1 fun k_2 => (VB.at (ρ' := [some state_0, some many_0, some s_1, some k_2, none]) (VB.cons (SB.asg (E := (fun step_3 => [some state_0, some many_0, some s_1, some k_2, some step_3])) (i := 4) (VH.plain (VE.ix_px  (VE.lstC (VA.consC (VE.tupC (VA.consC (VE.tupC (VA.consC VE.int (VA.consC VE.int VA.nil))) (VA.consC (VE.tupC (VA.consC VE.int (VA.consC VE.int VA.nil))) VA.nil))) (VA.consC (VE.tupC (VA.consC (VE.tupC (VA.consC VE.int (VA.consC VE.int VA.nil))) (VA.consC (VE.tupC (VA.consC VE.int (VA.consC VE.int VA.nil))) VA.nil))) (VA.consC (VE.tupC (VA.consC (VE.tupC (VA.consC VE.int (VA.consC VE.int VA.nil))) (VA.consC (VE.tupC (VA.consC VE.int (VA.consC VE.int VA.nil))) VA.nil))) (VA.consC (VE.tupC (VA.consC (VE.tupC (VA.consC VE.int (VA.consC VE.int VA.nil))) (VA.consC (VE.tupC (VA.consC VE.int (VA.consC VE.negc VA.nil))) VA.nil))) (VA.consC (VE.tupC (VA.consC (VE.tupC (VA.consC VE.int (VA.consC VE.negc VA.nil))) (VA.consC (VE.tupC (VA.consC VE.int (VA.consC VE.int VA.nil))) VA.nil))) VA.nil)))))) (VE.callP_p (C := drawA) (ds := [state_0, (.int 5)]) (FC.mono c_law_draw (by decide : 1 ≤ 1)) hr (VA.consC (VE.var 0) (VA.consC VE.int VA.nil))))) (fun _ => rfl) nd) fun step_3 => (VB.cons (SB.asg (E := (fun here_4 => [some state_0, some many_0, some here_4, some k_2, some step_3])) (i := 2) (VH.plain (VE.call_p (FC.mono c_law_times (by decide : 1 ≤ 1)) hr (VA.consC (VE.var 4) (VA.consC (VE.var 2) VA.nil)))) (fun _ => rfl) nd) fun here_4 => (VB.nil (a := here_4) (.cs (.cs (.cs (.cn (.cn .nil))))))))))) fun s_1 => (VT.ret (VE.var 2))))

abbrev s_law_worth : Stmt := topS 23
theorem sc_law_worth : FnScope ["form", "x", "y"] ["form", "x", "y"] (defScope s_law_worth) := ⟨rfl, rfl, rfl, by decide +kernel, rfl, by decide +kernel, by decide +kernel⟩
def m_law_worth : List D → Option D := un3 fun form_0 x_0 y_0 => (((((PM.lift (dIx form_0 (.int 0))) >>= fun p => PM.lift (dMul p x_0)) >>= fun p => PM.lift (dMul p x_0)) >>= fun p => ((((PM.lift (dIx form_0 (.int 1))) >>= fun q => PM.lift (dMul (.int 2) q)) >>= fun p => PM.lift (dMul p x_0)) >>= fun p => PM.lift (dMul p y_0)) >>= fun q => PM.lift (dAdd p q)) >>= fun p => (((PM.lift (dIx form_0 (.int 2))) >>= fun p => PM.lift (dMul p y_0)) >>= fun p => PM.lift (dMul p y_0)) >>= fun q => PM.lift (dAdd p q))
theorem ok_law_worth {P : Program} {w : World} {K : PySem.W.Frag} {mg : Str → Option Value} {base : Heap} {f : Addr} {fd : FuncData} (F : Fun K "_law_worth" "_law_worth" s_law_worth f fd) (h0 : mg "_law_worth" = some (.ref f))   : FC P w K mg base 1 "_law_worth" m_law_worth :=
  have nd := sc_law_worth.nd
  FC.mk' [] F sc_law_worth h0 (fun _ _ _ _ _ _ us hl => match us, hl with | [_, _, _], _ => rfl) un3_len fun cdv A outer s H E hr => len3 fun form_0 x_0 y_0 => VT.at (ρ' := [some form_0, some x_0, some y_0]) (VT.ret (VE.op opAdd okAdd (VE.op opAdd okAdd (VE.op_xp opMul okMul (VE.op_xp opMul okMul (VE.ix_pp  (VE.var 0) VE.int) (VE.var 1)) (VE.var 1)) (VE.op_xp opMul okMul (VE.op_xp opMul okMul (VE.op_px opMul okMul VE.int (VE.ix_pp  (VE.var 0) VE.int)) (VE.var 1)) (VE.var 2))) (VE.op_xp opMul okMul (VE.op_xp opMul okMul (VE.ix_pp  (VE.var 0) VE.int) (VE.var 2)) (VE.var 2))))

abbrev s_law_led : Stmt := topS 24
theorem sc_law_led : FnScope ["form", "part", "a", "b", "c", "d", "e", "f", "g"] ["form", "part"] (defScope s_law_led) := ⟨rfl, rfl, rfl, by decide +kernel, rfl, by decide +kernel, by decide +kernel⟩
def m_law_led : List D → Option D := un2 fun form_0 part_0 => (((pure part_0) >>= fun p => PM.lift (Pt.flat (.t [(.t [(.n 2), (.n 3)]), (.t [(.n 4), (.n 5)])]) p)) >>= un4 fun a_1 b_2 c_3 d_4 => (((pure form_0) >>= fun p => PM.lift (Pt.flat (.t [(.n 6), (.n 7), (.n 8)]) p)) >>= un3 fun e_5 f_6 g_7 => (((PM.lift (m_law_worth [form_0, a_1, c_3])) >>= fun a => (((((PM.lift (dMul a_1 b_2)) >>= fun p => PM.lift (dMul p e_5)) >>= fun p => (((PM.lift (dMul a_1 d_4)) >>= fun p => (PM.lift (dMul b_2 c_3)) >>= fun q => PM.lift (dAdd p q)) >>= fun p => PM.lift (dMul p f_6)) >>= fun q => PM.lift (dAdd p q)) >>= fun p => ((PM.lift (dMul c_3 d_4)) >>= fun p => PM.lift (dMul p g_7)) >>= fun q => PM.lift (dAdd p q)) >>= fun a => ((PM.lift (m_law_worth [form_0, b_2, d_4])) >>= fun a => pure (a :: [])) >>= fun l => pure (a :: l)) >>= fun l => pure (a :: l)) >>= fun l => pure (.tuple l))))
theorem ok_law_led {P : Program} {w : World} {K : PySem.W.Frag} {mg : Str → Option Value} {base : Heap} {f : Addr} {fd : FuncData} (F : Fun K "_law_led" "_law_led" s_law_led f fd) (h0 : mg "_law_led" = some (.ref f))  (c_law_worth : FC P w K mg base 1 "_law_worth" m_law_worth) : FC P w K mg base 2 "_law_led" m_law_led :=
  have nd := sc_law_led.nd
  FC.mk' [] F sc_law_led h0 (fun _ _ _ _ _ _ us hl => match us, hl with | [_, _], _ => rfl) un2_len fun cdv A outer s H E hr => len2 fun form_0 part_0 => VT.at (ρ' := [some form_0, some part_0, none, none, none, none, none, none, none]) (VT.consP (SB.asgP (pt := (.t [(.t [(.n 2), (.n 3)]), (.t [(.n 4), (.n 5)])])) (VH.plain (VE.var 1)) (VG.tup (VGs.cons (VG.tup (VGs.cons (VG.name 2 nd) (VGs.cons (VG.name 3 nd) VGs.nil))) (VGs.cons (VG.tup (VGs.cons (VG.name 4 nd) (VGs.cons (VG.name 5 nd) VGs.nil))) VGs.nil)))) flat_ln (len4 fun a_1 b_2 c_3 d_4 => VT.at (ρ' := [some form_0, some part_0, some a_1, some b_2, some c_3, some d_4, none, none, none]) (VT.consP (SB.asgP (pt := (.t [(.n 6), (.n 7), (.n 8)])) (VH.plain (VE.var 0)) (VG.tup (VGs.cons (VG.name 6 nd) (VGs.cons (VG.name 7 nd) (VGs.cons (VG.name 8 nd) VGs.nil))))) flat_ln (len3 fun e_5 f_6 g_7 => VT.at (ρ' := [some form_0, some part_0, some a_1, some b_2, some c_3, some d_4, some e_5, some f_6, some g_7]) (VT.ret (VE.tup (VA.cons (VE.call_p (FC.mono c_law_worth (by decide : 1 ≤ 1)) hr (VA.consC (VE.var 0) (VA.consC (VE.var 2) (VA.consC (VE.var 4) VA.nil)))) (VA.cons (VE.op opAdd okAdd (VE.op opAdd okAdd (VE.op_xp opMul okMul (VE.op_pp opMul okMul (VE.var 2) (VE.var 3)) (VE.var 6)) (VE.op_xp opMul okMul (VE.op opAdd okAdd (VE.op_pp opMul okMul (VE.var 2) (VE.var 5)) (VE.op_pp opMul okMul (VE.var 3) (VE.var 4))) (VE.var 7))) (VE.op_xp opMul okMul (VE.op_pp opMul okMul (VE.var 4) (VE.var 5)) (VE.var 8))) (VA.cons_xp (VE.call_p (FC.mono c_law_worth (by decide : 1 ≤ 1)) hr (VA.consC (VE.var 0) (VA.consC (VE.var 3) (VA.consC (VE.var 5) VA.nil)))) VA.nil)))))))))

abbrev s_is_least : Stmt := topS 1
theorem sc_is_least : FnScope ["form", "e", "f", "g"] ["form"] (defScope s_is_least) := ⟨rfl, rfl, rfl, by decide +kernel, rfl, by decide +kernel, by decide +kernel⟩
def m_is_least : List D → Option D := un1 fun form_0 => (((pure form_0) >>= fun p => PM.lift (Pt.flat (.t [(.n 1), (.n 2), (.n 3)]) p)) >>= un3 fun e_1 f_2 g_3 => ((pure (.int 0)) >>= fun p => (PM.lift (dMul (.int 2) f_2)) >>= fun q => PM.lift ((dLe p q).bind dBool) >>= fun k => if k = true then (pure e_1) >>= fun r => PM.lift ((dLe q r).bind dBool) >>= fun k2 => if k2 = true then (pure g_3) >>= fun s => PM.lift (dLe r s) else pure (.bool false) else pure (.bool false)))
theorem ok_is_least {P : Program} {w : World} {K : PySem.W.Frag} {mg : Str → Option Value} {base : Heap} {f : Addr} {fd : FuncData} (F : Fun K "is_least" "is_least" s_is_least f fd) (h0 : mg "is_least" = some (.ref f))   : FC P w K mg base 1 "is_least" m_is_least :=
  have nd := sc_is_least.nd
  FC.mk' [] F sc_is_least h0 (fun _ _ _ _ _ _ us hl => match us, hl with | [_], _ => rfl) un1_len fun cdv A outer s H E hr => len1 fun form_0 => VT.at (ρ' := [some form_0, none, none, none]) (VT.consP (SB.asgP (pt := (.t [(.n 1), (.n 2), (.n 3)])) (VH.plain (VE.var 0)) (VG.tup (VGs.cons (VG.name 1 nd) (VGs.cons (VG.name 2 nd) (VGs.cons (VG.name 3 nd) VGs.nil))))) flat_ln (len3 fun e_1 f_2 g_3 => VT.at (ρ' := [some form_0, some e_1, some f_2, some g_3]) (VT.ret (VE.chain3 (opLeP hr.units) (opLeP hr.units) (opLeP hr.units) okLe okLe okLe VE.int (VE.op_pp opMul okMul VE.int (VE.var 2)) (VE.var 1) (VE.var 3)))))

abbrev s_least_form : Stmt := topS 2
theorem sc_least_form : FnScope ["form", "e", "f", "g", "many"] ["form"] (defScope s_least_form) := ⟨rfl, rfl, rfl, by decide +kernel, rfl, by decide +kernel, by decide +kernel⟩
def m_least_form : List D → Option D := un1 fun form_0 => (((pure form_0) >>= fun p => PM.lift (Pt.flat (.t [(.n 1), (.n 2), (.n 3)]) p)) >>= un3 fun e_1 f_2 g_3 => ((whO (fun (s_4 : D × D × D) => (PM.lift (dTruth (.bool true)))) (fun (s_4 : D × D × D) => ((((PM.lift (dMul (.int 2) s_4.2.1)) >>= fun p => PM.lift (dAdd p s_4.1)) >>= fun p => (PM.lift (dMul (.int 2) s_4.1)) >>= fun q => PM.lift (dDiv p q)) >>= fun many_5 => ((((PM.lift (dMul many_5 s_4.1)) >>= fun q => PM.lift (dSub s_4.2.1 q)) >>= fun a => (((((PM.lift (dMul (.int 2) many_5)) >>= fun p => PM.lift (dMul p s_4.2.1)) >>= fun q => PM.lift (dSub s_4.2.2 q)) >>= fun p => ((PM.lift (dMul many_5 many_5)) >>= fun p => PM.lift (dMul p s_4.1)) >>= fun q => PM.lift (dAdd p q)) >>= fun a => pure (a :: [])) >>= fun l => pure (a :: l)) >>= un2 fun f_6 g_7 => ((PM.lift ((dLe s_4.1 g_7).bind dBool)) >>= fun c => if c = true then (((((PM.lift ((f1 dAbs) [f_6])) >>= fun a => pure (a :: [g_7])) >>= fun l => pure (s_4.1 :: l)) >>= fun l => pure (.tuple l)) >>= fun v => pure (.rt v)) else pure (.nx (g_7, f_6, s_4.1)))))) 100000000 (e_1, f_2, g_3)) >>= thenT fun (s_4 : D × D × D) => fail))
theorem ok_least_form {P : Program} {w : World} {K : PySem.W.Frag} {mg : Str → Option Value} {base : Heap} {f : Addr} {fd : FuncData} (F : Fun K "least_form" "least_form" s_least_form f fd) (h0 : mg "least_form" = some (.ref f)) (z_abs : mg "abs" = none)  : FC P w K mg base 1 "least_form" m_least_form :=
  have nd := sc_least_form.nd
  FC.mk' [] F sc_least_form h0 (fun _ _ _ _ _ _ us hl => match us, hl with | [_], _ => rfl) un1_len fun cdv A outer s H E hr => len1 fun form_0 => VT.at (ρ' := [some form_0, none, none, none, none]) (VT.consP (SB.asgP (pt := (.t [(.n 1), (.n 2), (.n 3)])) (VH.plain (VE.var 0)) (VG.tup (VGs.cons (VG.name 1 nd) (VGs.cons (VG.name 2 nd) (VGs.cons (VG.name 3 nd) VGs.nil))))) flat_ln (len3 fun e_1 f_2 g_3 => VT.at (ρ' := [some form_0, some e_1, some f_2, some g_3, none]) (VT.consO (E := (fun (s_4 : D × D × D) => [some form_0, some s_4.1, some s_4.2.1, some s_4.2.2, none])) (SO.wh (E := (fun (s_4 : D × D × D) => [some form_0, some s_4.1, some s_4.2.1, some s_4.2.2, none])) (a0 := (e_1, f_2, g_3)) (fu := 100000000) (fun s_4 => (VP.tru_p VE.bl)) (fun s_4 => (VO.cons (SB.asg (E := (fun many_5 => [some form_0, some s_4.1, some s_4.2.1, some s_4.2.2, some many_5])) (i := 4) (VH.plain (VE.op opDiv okDiv (VE.op_xp opAdd okAdd (VE.op_pp opMul okMul VE.int (VE.var 2)) (VE.var 1)) (VE.op_pp opMul okMul VE.int (VE.var 1)))) (fun _ => rfl) nd) fun many_5 => (VO.consA (E := (fun l => rPuts [some form_0, some s_4.1, some s_4.2.1, some s_4.2.2, some many_5] [2, 3] l)) (fun h => SB.par2 (i := 2) (j := 3) h (fun _ _ => rfl) nd) (VA.cons (VE.op_px op_sub okSub (VE.var 2) (VE.op_pp opMul okMul (VE.var 4) (VE.var 1))) (VA.cons_xp (VE.op opAdd okAdd (VE.op_px op_sub okSub (VE.var 3) (VE.op_xp opMul okMul (VE.op_pp opMul okMul VE.int (VE.var 4)) (VE.var 2))) (VE.op_xp opMul okMul (VE.op_pp opMul okMul (VE.var 4) (VE.var 4)) (VE.var 1))) VA.nil)) (len2 fun f_6 g_7 => VO.at (ρ' := [some form_0, some s_4.1, some f_6, some g_7, some many_5]) (VO.ifE (VP.cmp_pp (opLeP hr.units) okLe (VE.var 1) (VE.var 3) (nomark _)) (VO.ret (VE.tup (VA.cons_px (VE.var 1) (VA.cons_xp (VE.bi_p call_abs okAbs z_abs boot_abs (VA.consC (VE.var 2) VA.nil)) (VA.consC (VE.var 3) VA.nil))))) outN_rt (VO.consL (E := (fun l => rPuts [some form_0, some s_4.1, some f_6, some g_7, some many_5] [1, 3] l)) (SB.par2 (i := 1) (j := 3) (VA.consC (VE.var 3) (VA.consC (VE.var 1) VA.nil)) (fun _ _ => rfl) nd) (VO.at (ρ' := [some form_0, some g_7, some f_6, some s_4.1, some many_5]) (VO.nil (a := (g_7, f_6, s_4.1)) (.cs (.cs (.cs (.cs (.cn .nil))))))))))))) (.cs (.cs (.cs (.cs (.cs .nil)))))) fun s_4 => VT.dead)))

abbrev s_net_sort : Stmt := topS 3
theorem sc_net_sort : FnScope ["form", "e", "f", "g"] ["form"] (defScope s_net_sort) := ⟨rfl, rfl, rfl, by decide +kernel, rfl, by decide +kernel, by decide +kernel⟩
def m_net_sort : List D → Option D := un1 fun form_0 => (((PM.lift (m_least_form [form_0])) >>= fun p => PM.lift (Pt.flat (.t [(.n 1), (.n 2), (.n 3)]) p)) >>= un3 fun e_1 f_2 g_3 => ((PM.lift ((dEq f_2 (.int 0)).bind dBool)) >>= fun c => if c = true then ((PM.lift ((dEq e_1 g_3).bind dBool)) >>= fun k => if k = true then (pure (.str "square")) else (pure (.str "long"))) else ((PM.lift ((dEq e_1 g_3).bind dBool)) >>= fun c => if c = true then (((PM.lift (dMul (.int 2) f_2)) >>= fun p => PM.lift ((dEq p e_1).bind dBool)) >>= fun k => if k = true then (pure (.str "six")) else (pure (.str "rhomb"))) else (((PM.lift (dMul (.int 2) f_2)) >>= fun p => PM.lift ((dEq p e_1).bind dBool)) >>= fun k => if k = true then (pure (.str "rhomb")) else (pure (.str "slant"))))))
theorem ok_net_sort {P : Program} {w : World} {K : PySem.W.Frag} {mg : Str → Option Value} {base : Heap} {f : Addr} {fd : FuncData} (F : Fun K "net_sort" "net_sort" s_net_sort f fd) (h0 : mg "net_sort" = some (.ref f))  (c_least_form : FC P w K mg base 1 "least_form" m_least_form) : FC P w K mg base 2 "net_sort" m_net_sort :=
  have nd := sc_net_sort.nd
  FC.mk' [] F sc_net_sort h0 (fun _ _ _ _ _ _ us hl => match us, hl with | [_], _ => rfl) un1_len fun cdv A outer s H E hr => len1 fun form_0 => VT.at (ρ' := [some form_0, none, none, none]) (VT.consP (SB.asgP (pt := (.t [(.n 1), (.n 2), (.n 3)])) (VH.plain (VE.call_p (FC.mono c_least_form (by decide : 1 ≤ 1)) hr (VA.consC (VE.var 0) VA.nil))) (VG.tup (VGs.cons (VG.name 1 nd) (VGs.cons (VG.name 2 nd) (VGs.cons (VG.name 3 nd) VGs.nil))))) flat_ln (len3 fun e_1 f_2 g_3 => VT.at (ρ' := [some form_0, some e_1, some f_2, some g_3]) (VT.ifE (VP.cmp_pp (opEqP hr.units) okEq (VE.var 2) VE.int (nomark _)) (VT.ret (VE.ifx (VP.cmp_pp (opEqP hr.units) okEq (VE.var 1) (VE.var 3) (nomark _)) VE.str VE.str)) (VT.ifE (VP.cmp_pp (opEqP hr.units) okEq (VE.var 1) (VE.var 3) (nomark _)) (VT.ret (VE.ifx (VP.cmp_xp (opEqP hr.units) okEq (VE.op_pp opMul okMul VE.int (VE.var 2)) (VE.var 1) (nomark _)) VE.str VE.str)) (VT.ret (VE.ifx (VP.cmp_xp (opEqP hr.units) okEq (VE.op_pp opMul okMul VE.int (VE.var 2)) (VE.var 1) (nomark _)) VE.str VE.str))))))

abbrev s_count_changes : Stmt := topS 4
theorem sc_count_changes : FnScope ["form"] ["form"] (defScope s_count_changes) := ⟨rfl, rfl, rfl, by decide +kernel, rfl, by decide +kernel, by decide +kernel⟩
def m_count_changes : List D → Option D := un1 fun form_0 => (((pure (.int 8)) >>= fun a => ((pure (.int 12)) >>= fun a => ((pure (.int 4)) >>= fun a => ((pure (.int 4)) >>= fun a => ((pure (.int 2)) >>= fun a => (pure []) >>= fun l => pure (a :: l)) >>= fun l => pure (a :: l)) >>= fun l => pure (a :: l)) >>= fun l => pure (a :: l)) >>= fun l => pure (a :: l)) >>= fun l => (PM.lift (m_net_sort [form_0])) >>= fun k => PM.lift (dPick [(.inr "square"), (.inr "six"), (.inr "long"), (.inr "rhomb"), (.inr "slant")] l k))
theorem ok_count_changes {P : Program} {w : World} {K : PySem.W.Frag} {mg : Str → Option Value} {base : Heap} {f : Addr} {fd : FuncData} (F : Fun K "count_changes" "count_changes" s_count_changes f fd) (h0 : mg "count_changes" = some (.ref f))  (c_net_sort : FC P w K mg base 2 "net_sort" m_net_sort) : FC P w K mg base 3 "count_changes" m_count_changes :=
  have nd := sc_count_changes.nd
  FC.mk' [] F sc_count_changes h0 (fun _ _ _ _ _ _ us hl => match us, hl with | [_], _ => rfl) un1_len fun cdv A outer s H E hr => len1 fun form_0 => VT.at (ρ' := [some form_0]) (VT.ret (VE.dpick hr.units (VD.cons (kk := (.inr "square")) pe_str VE.int (VD.cons (kk := (.inr "six")) pe_str VE.int (VD.cons (kk := (.inr "long")) pe_str VE.int (VD.cons (kk := (.inr "rhomb")) pe_str VE.int (VD.cons (kk := (.inr "slant")) pe_str VE.int VD.nil))))) (VE.call_p (FC.mono c_net_sort (by decide : 2 ≤ 2)) hr (VA.consC (VE.var 0) VA.nil)) (fun e => nomatch e) (Nat.le_of_ble_eq_true rfl)))

abbrev s_law : Stmt := topS 25
theorem sc_law : FnScope ["script", "state", "turn", "g", "e", "f", "form", "change", "other", "said", "kept", "a", "b", "c", "d", "due"] ["script"] (defScope s_law) := ⟨rfl, rfl, rfl, by decide +kernel, rfl, by decide +kernel, by decide +kernel⟩
def m_law : PP D := (((PM.lift (rng1L [(.int 3)])) >>= fun ps => forO (fun (s_1 : Unit) turn_2 => (((drawA [tokA, (.int 40)]) >>= fun q => PM.lift (dAdd (.int 1) q)) >>= fun g_3 => (((((((drawA [tokA, g_3]) >>= fun q => PM.lift (dAdd (.int 1) q)) >>= fun a => pure (a :: [])) >>= fun l => pure (g_3 :: l)) >>= fun l => pure (.list l)) >>= fun p => (drawA [tokA, (.int 2)]) >>= fun q => PM.lift (dIx p q)) >>= fun e_4 => ((((((PM.lift (dDiv e_4 (.int 2))) >>= fun a => ((((((PM.lift (dDiv e_4 (.int 2))) >>= fun p => PM.lift (dAdd p (.int 1))) >>= fun a => pure (a :: [])) >>= fun l => pure (tokA :: l)) >>= fun l => drawA l) >>= fun a => pure (a :: [])) >>= fun l => pure (a :: l)) >>= fun l => pure ((.int 0) :: l)) >>= fun l => pure (.list l)) >>= fun p => (drawA [tokA, (.int 3)]) >>= fun q => PM.lift (dIx p q)) >>= fun f_5 => (((PM.lift (m_is_least [(.tuple [e_4, f_5, g_3])])) >>= fun p => PM.lift ((dIsNotB p (.bool true)).bind dBool)) >>= fun c => if c = true then ((pure (.bool false)) >>= fun v => pure (.rt v)) else (((((drawA [tokA, (.int 9)]) >>= fun a => pure (a :: [])) >>= fun l => pure (tokA :: l)) >>= fun l => m_law_change l) >>= fun change_6 => ((PM.lift (m_law_led [(.tuple [e_4, f_5, g_3]), change_6])) >>= fun other_7 => ((((PM.lift (m_least_form [other_7])) >>= fun p => PM.lift ((dNe p (.tuple [e_4, f_5, g_3])).bind dBool)) >>= fun c => if c = true then pure true else ((PM.lift (m_least_form [(.tuple [e_4, f_5, g_3])])) >>= fun p => PM.lift ((dNe p (.tuple [e_4, f_5, g_3])).bind dBool))) >>= fun c => if c = true then ((pure (.bool false)) >>= fun v => pure (.rt v)) else ((PM.lift (m_is_least [other_7])) >>= fun said_8 => (((((PM.lift (plainB PyData.isBool said_8)) >>= fun p => PM.lift (dTruth p)) >>= fun c => pure (!c)) >>= fun c => if c = true then pure true else ((((PM.lift (dIx other_7 (.int 1))) >>= fun p => PM.lift (dGe p (.int 0))) >>= fun p => PM.lift (dBool p) >>= fun k => if k = true then ((((PM.lift (dIx other_7 (.int 1))) >>= fun q => PM.lift (dMul (.int 2) q)) >>= fun p => (PM.lift (dIx other_7 (.int 0))) >>= fun q => PM.lift (dLe p q)) >>= fun p => PM.lift (dBool p) >>= fun k => if k = true then ((PM.lift (dIx other_7 (.int 0))) >>= fun p => (PM.lift (dIx other_7 (.int 2))) >>= fun q => PM.lift (dLe p q)) else pure (.bool false)) else pure (.bool false)) >>= fun q => PM.lift ((dNe said_8 q).bind dBool))) >>= fun c => if c = true then ((pure (.bool false)) >>= fun v => pure (.rt v)) else (((PM.lift (rng2L [(.int (-2)), (.int 3)])) >>= fun ps => forB (fun (s_9 : D) a_10 => (((PM.lift (rng2L [(.int (-2)), (.int 3)])) >>= fun ps => forB (fun (s_11 : D) b_12 => (((PM.lift (rng2L [(.int (-2)), (.int 3)])) >>= fun ps => forB (fun (s_13 : D) c_14 => (((PM.lift (rng2L [(.int (-2)), (.int 3)])) >>= fun ps => forB (fun (s_15 : D) d_16 => (((((((PM.lift (dMul a_10 d_16)) >>= fun p => (PM.lift (dMul b_12 c_14)) >>= fun q => PM.lift (dSub p q)) >>= fun p => PM.lift ((dIn p (.list [(.int 1), (.int (-1))])).bind dBool)) >>= fun c => if c = true then ((PM.lift (m_law_led [(.tuple [e_4, f_5, g_3]), (.tuple [(.tuple [a_10, b_12]), (.tuple [c_14, d_16])])])) >>= fun p => PM.lift ((dEq p (.tuple [e_4, f_5, g_3])).bind dBool)) else pure false) >>= fun c => if c = true then ((PM.lift (dAdd s_15 (.int 1))) >>= fun kept_18 => pure kept_18) else pure s_15) : PP (D)) >>= fun s_17 => pure s_17)) s_13 ps) >>= fun (s_15 : D) => pure s_15)) s_11 ps) >>= fun (s_13 : D) => pure s_13)) s_9 ps) >>= fun (s_11 : D) => pure s_11)) (.int 0) ps) >>= fun (s_9 : D) => (((PM.lift (m_count_changes [other_7])) >>= fun p => PM.lift ((dNe p s_9).bind dBool)) >>= fun c => if c = true then ((pure (.bool false)) >>= fun v => pure (.rt v)) else ((((PM.lift ((dEq f_5 (.int 0)).bind dBool)) >>= fun c => if c = true then (((PM.lift ((dEq e_4 g_3).bind dBool)) >>= fun k => if k = true then (pure (.str "square")) else (pure (.str "long"))) >>= fun due_20 => pure due_20) else (((((PM.lift (dMul (.int 2) f_5)) >>= fun p => PM.lift ((dEq p e_4).bind dBool)) >>= fun c => if c = true then (((PM.lift ((dEq e_4 g_3).bind dBool)) >>= fun k => if k = true then (pure (.str "six")) else (pure (.str "rhomb"))) >>= fun due_22 => pure due_22) else (((PM.lift ((dEq e_4 g_3).bind dBool)) >>= fun k => if k = true then (pure (.str "rhomb")) else (pure (.str "slant"))) >>= fun due_23 => pure due_23)) : PP (D)) >>= fun s_21 => pure s_21)) : PP (D)) >>= fun s_19 => ((((PM.lift (m_net_sort [other_7])) >>= fun p => PM.lift ((dNe p s_19).bind dBool)) >>= fun c => if c = true then pure true else ((((pure (.int 8)) >>= fun a => ((pure (.int 12)) >>= fun a => ((pure (.int 4)) >>= fun a => ((pure (.int 4)) >>= fun a => ((pure (.int 2)) >>= fun a => (pure []) >>= fun l => pure (a :: l)) >>= fun l => pure (a :: l)) >>= fun l => pure (a :: l)) >>= fun l => pure (a :: l)) >>= fun l => pure (a :: l)) >>= fun l => (pure s_19) >>= fun k => PM.lift (dPick [(.inr "square"), (.inr "six"), (.inr "long"), (.inr "rhomb"), (.inr "slant")] l k)) >>= fun p => PM.lift ((dNe p s_9).bind dBool))) >>= fun c => if c = true then ((pure (.bool false)) >>= fun v => pure (.rt v)) else pure (.nx ()))))))))))))))) () ps) >>= thenT fun (s_1 : Unit) => (((PM.lift (m_least_form [(.tuple [(.int 5), (.int 2), (.int 1)])])) >>= fun p => PM.lift (dEq p (.tuple [(.int 1), (.int 0), (.int 1)]))) >>= fun p => PM.lift (dBool p) >>= fun k => if k = true then (((PM.lift (m_net_sort [(.tuple [(.int 2), (.int 1), (.int 2)])])) >>= fun p => PM.lift (dEq p (.str "six"))) >>= fun p => PM.lift (dBool p) >>= fun k => if k = true then ((PM.lift (m_net_sort [(.tuple [(.int 1), (.int 0), (.int 7)])])) >>= fun p => PM.lift (dEq p (.str "long"))) else pure (.bool false)) else pure (.bool false)))
theorem ok_law {P : Program} {w : World} {K : PySem.W.Frag} {mg : Str → Option Value} {base : Heap} {f fS : Addr} {fd fdS : FuncData} (F : Fun K "law" "law" s_law f fd) (FS : Fun K "_law_state" "_law_state" s_law_state fS fdS) (hS : mg "_law_state" = some (.ref fS)) (z0_abs : mg "abs" = none) (z0_int : mg "int" = none) (z_bool : mg "bool" = none) (z_isinstance : mg "isinstance" = none) (z_range : mg "range" = none) (c_law_change : FC P w K mg base 2 "_law_change" m_law_change) (c_law_draw : FC P w K mg base 1 "_law_draw" drawA) (c_law_led : FC P w K mg base 2 "_law_led" m_law_led) (c_count_changes : FC P w K mg base 3 "count_changes" m_count_changes) (c_is_least : FC P w K mg base 1 "is_least" m_is_least) (c_least_form : FC P w K mg base 1 "least_form" m_least_form) (c_net_sort : FC P w K mg base 2 "net_sort" m_net_sort) (hx : PM.run m_law fun p => p = .bool true) : FnOk P w K mg base CX0 4 f fd ["script"] (spLawA K) :=
  have nd := sc_law.nd
  have GS : FnOk P w K mg base CX0 3 fS fdS ["script"] (spState K) := (ok_law_state FS z0_abs z0_int).mono (by decide)
  have bS := FS.binds (ps := ["script"]) fun _ _ _ _ _ _ us hl => match us, hl with | [_], _ => rfl
  F.ok sc_law spLawA_len fun cdv A outer s H vs Q E hr h => by
    obtain ⟨a, ns, rfl, hs, hl, q⟩ := h
    have body : VT (XF P w K mg base ["script", "state", "turn", "g", "e", "f", "form", "change", "other", "said", "kept", "a", "b", "c", "d", "due"] "law" (defScope s_law) f cdv A outer s H E) [] [none, some tokA, none, none, none, none, none, none, none, none, none, none, none, none, none, none] (defBody s_law).tail m_law :=
      (VT.consO (E := (fun (s_1 : Unit) => [none, some tokA, none, none, none, none, none, none, none, none, none, none, none, none, none, none])) (SO.for (pt := (.n 2)) (E := (fun (s_1 : Unit) => [none, some tokA, none, none, none, none, none, none, none, none, none, none, none, none, none, none])) (a0 := ()) (VIH.range1_p z_range (VA.consC VE.int VA.nil)) (VG.name 2 nd) turn1 (.cs (.cs (.cs (.cs (.cs (.cs (.cs (.cs (.cs (.cs (.cs (.cs (.cs (.cs (.cs (.cs .nil)))))))))))))))) (fun s_1 => len1 fun turn_2 => (VO.at (ρ' := [none, some tokA, some turn_2, none, none, none, none, none, none, none, none, none, none, none, none, none]) (VO.cons (SB.asg (E := (fun g_3 => [none, some tokA, some turn_2, some g_3, none, none, none, none, none, none, none, none, none, none, none, none])) (i := 3) (VH.plain (VE.op_px opAdd okAdd VE.int (VE.callP_p (C := drawA) (ds := [tokA, (.int 40)]) (FC.mono c_law_draw (by decide : 1 ≤ 3)) hr (VA.consC (VE.var 1) (VA.consC VE.int VA.nil))))) (fun _ => rfl) nd) fun g_3 => (VO.cons (SB.asg (E := (fun e_4 => [none, some tokA, some turn_2, some g_3, some e_4, none, none, none, none, none, none, none, none, none, none, none])) (i := 4) (VH.plain (VE.ix  (VE.lst (VA.cons_px (VE.var 3) (VA.cons_xp (VE.op_px opAdd okAdd VE.int (VE.callP_p (C := drawA) (ds := [tokA, g_3]) (FC.mono c_law_draw (by decide : 1 ≤ 3)) hr (VA.consC (VE.var 1) (VA.consC (VE.var 3) VA.nil)))) VA.nil))) (VE.callP_p (C := drawA) (ds := [tokA, (.int 2)]) (FC.mono c_law_draw (by decide : 1 ≤ 3)) hr (VA.consC (VE.var 1) (VA.consC VE.int VA.nil))))) (fun _ => rfl) nd) fun e_4 => (VO.cons (SB.asg (E := (fun f_5 => [none, some tokA, some turn_2, some g_3, some e_4, some f_5, none, none, none, none, none, none, none, none, none, none])) (i := 5) (VH.plain (VE.ix  (VE.lst (VA.cons_px VE.int (VA.cons (VE.op_pp opDiv okDiv (VE.var 4) VE.int) (VA.cons_xp (VE.callP (C := drawA) (FC.mono c_law_draw (by decide : 1 ≤ 3)) hr (VA.cons_px (VE.var 1) (VA.cons_xp (VE.op_xp opAdd okAdd (VE.op_pp opDiv okDiv (VE.var 4) VE.int) VE.int) VA.nil))) VA.nil)))) (VE.callP_p (C := drawA) (ds := [tokA, (.int 3)]) (FC.mono c_law_draw (by decide : 1 ≤ 3)) hr (VA.consC (VE.var 1) (VA.consC VE.int VA.nil))))) (fun _ => rfl) nd) fun f_5 => (VO.consV (SB.asg (E := (fun a => [none, some tokA, some turn_2, some g_3, some e_4, some f_5, some a, none, none, none, none, none, none, none, none, none])) (i := 6) (VH.plain (VE.tupC (VA.consC (VE.var 4) (VA.consC (VE.var 5) (VA.consC (VE.var 3) VA.nil))))) (fun _ => rfl) nd) (VO.ifE (VP.cmp_xp op_notBl okIsNotB (VE.call_p (FC.mono c_is_least (by decide : 1 ≤ 3)) hr (VA.consC (VE.var 6) VA.nil)) VE.bl (nomark _)) (VO.ret VE.bl) outN_rt (VO.cons (SB.asg (E := (fun change_6 => [none, some tokA, some turn_2, some g_3, some e_4, some f_5, some (.tuple [e_4, f_5, g_3]), some change_6, none, none, none, none, none, none, none, none])) (i := 7) (VH.plain (VE.callP (C := m_law_change) (FC.mono c_law_change (by decide : 2 ≤ 3)) hr (VA.cons_px (VE.var 1) (VA.cons_xp (VE.callP_p (C := drawA) (ds := [tokA, (.int 9)]) (FC.mono c_law_draw (by decide : 1 ≤ 3)) hr (VA.consC (VE.var 1) (VA.consC VE.int VA.nil))) VA.nil)))) (fun _ => rfl) nd) fun change_6 => (VO.cons (SB.asg (E := (fun other_7 => [none, some tokA, some turn_2, some g_3, some e_4, some f_5, some (.tuple [e_4, f_5, g_3]), some change_6, some other_7, none, none, none, none, none, none, none])) (i := 8) (VH.plain (VE.call_p (FC.mono c_law_led (by decide : 2 ≤ 3)) hr (VA.consC (VE.var 6) (VA.consC (VE.var 7) VA.nil)))) (fun _ => rfl) nd) fun other_7 => (VO.ifE (VP.w (VW.or (VP.cmp_xp (opNeP hr.units) okNe (VE.call_p (FC.mono c_least_form (by decide : 1 ≤ 3)) hr (VA.consC (VE.var 8) VA.nil)) (VE.var 6) (nomark _)) (VW.or1 (VP.cmp_xp (opNeP hr.units) okNe (VE.call_p (FC.mono c_least_form (by decide : 1 ≤ 3)) hr (VA.consC (VE.var 6) VA.nil)) (VE.var 6) (nomark _))))) (VO.ret VE.bl) outN_rt (VO.cons (SB.asg (E := (fun said_8 => [none, some tokA, some turn_2, some g_3, some e_4, some f_5, some (.tuple [e_4, f_5, g_3]), some change_6, some other_7, some said_8, none, none, none, none, none, none])) (i := 9) (VH.plain (VE.call_p (FC.mono c_is_least (by decide : 1 ≤ 3)) hr (VA.consC (VE.var 8) VA.nil))) (fun _ => rfl) nd) fun said_8 => (VO.ifE (VP.w (VW.or (VP.not (VP.tru (VE.isi_p cr_isBool z_isinstance z_bool boot_bool (VE.var 9)))) (VW.or1 (VP.cmp_px (opNeP hr.units) okNe (VE.var 9) (VE.and (VE.cmp_xp (opGeP hr.units) okGe (VE.ix_pp  (VE.var 8) VE.int) VE.int (nomark _)) (VE.and (VE.cmp (opLeP hr.units) okLe (VE.op_px opMul okMul VE.int (VE.ix_pp  (VE.var 8) VE.int)) (VE.ix_pp  (VE.var 8) VE.int) (nomark _)) (VE.one (VE.cmp (opLeP hr.units) okLe (VE.ix_pp  (VE.var 8) VE.int) (VE.ix_pp  (VE.var 8) VE.int) (nomark _))))) (nomark _))))) (VO.ret VE.bl) outN_rt (VO.consV (SB.asg (E := (fun a => [none, some tokA, some turn_2, some g_3, some e_4, some f_5, some (.tuple [e_4, f_5, g_3]), some change_6, some other_7, some said_8, some a, none, none, none, none, none])) (i := 10) (VH.plain VE.int) (fun _ => rfl) nd) (VO.cons (E := (fun (s_9 : D) => [none, some tokA, some turn_2, some g_3, some e_4, some f_5, some (.tuple [e_4, f_5, g_3]), some change_6, some other_7, some said_8, some s_9, none, none, none, none, none])) (SB.for (pt := (.n 11)) (E := (fun (s_9 : D) => [none, some tokA, some turn_2, some g_3, some e_4, some f_5, some (.tuple [e_4, f_5, g_3]), some change_6, some other_7, some said_8, some s_9, none, none, none, none, none])) (a0 := (.int 0)) (VIH.range2_p z_range (VA.consC VE.negc (VA.consC VE.int VA.nil))) (VG.name 11 nd) turn1 (.cs (.cs (.cs (.cs (.cs (.cs (.cs (.cs (.cs (.cs (.cs (.cs (.cs (.cs (.cs (.cs .nil)))))))))))))))) (fun s_9 => len1 fun a_10 => (VB.at (ρ' := [none, some tokA, some turn_2, some g_3, some e_4, some f_5, some (.tuple [e_4, f_5, g_3]), some change_6, some other_7, some said_8, some s_9, some a_10, none, none, none, none]) (VB.cons (E := (fun (s_11 : D) => [none, some tokA, some turn_2, some g_3, some e_4, some f_5, some (.tuple [e_4, f_5, g_3]), some change_6, some other_7, some said_8, some s_11, some a_10, none, none, none, none])) (SB.for (pt := (.n 12)) (E := (fun (s_11 : D) => [none, some tokA, some turn_2, some g_3, some e_4, some f_5, some (.tuple [e_4, f_5, g_3]), some change_6, some other_7, some said_8, some s_11, some a_10, none, none, none, none])) (a0 := s_9) (VIH.range2_p z_range (VA.consC VE.negc (VA.consC VE.int VA.nil))) (VG.name 12 nd) turn1 (.cs (.cs (.cs (.cs (.cs (.cs (.cs (.cs (.cs (.cs (.cs (.cs (.cs (.cs (.cs (.cs .nil)))))))))))))))) (fun s_11 => len1 fun b_12 => (VB.at (ρ' := [none, some tokA, some turn_2, some g_3, some e_4, some f_5, some (.tuple [e_4, f_5, g_3]), some change_6, some other_7, some said_8, some s_11, some a_10, some b_12, none, none, none]) (VB.cons (E := (fun (s_13 : D) => [none, some tokA, some turn_2, some g_3, some e_4, some f_5, some (.tuple [e_4, f_5, g_3]), some change_6, some other_7, some said_8, some s_13, some a_10, some b_12, none, none, none])) (SB.for (pt := (.n 13)) (E := (fun (s_13 : D) => [none, some tokA, some turn_2, some g_3, some e_4, some f_5, some (.tuple [e_4, f_5, g_3]), some change_6, some other_7, some said_8, some s_13, some a_10, some b_12, none, none, none])) (a0 := s_11) (VIH.range2_p z_range (VA.consC VE.negc (VA.consC VE.int VA.nil))) (VG.name 13 nd) turn1 (.cs (.cs (.cs (.cs (.cs (.cs (.cs (.cs (.cs (.cs (.cs (.cs (.cs (.cs (.cs (.cs .nil)))))))))))))))) (fun s_13 => len1 fun c_14 => (VB.at (ρ' := [none, some tokA, some turn_2, some g_3, some e_4, some f_5, some (.tuple [e_4, f_5, g_3]), some change_6, some other_7, some said_8, some s_13, some a_10, some b_12, some c_14, none, none]) (VB.cons (E := (fun (s_15 : D) => [none, some tokA, some turn_2, some g_3, some e_4, some f_5, some (.tuple [e_4, f_5, g_3]), some change_6, some other_7, some said_8, some s_15, some a_10, some b_12, some c_14, none, none])) (SB.for (pt := (.n 14)) (E := (fun (s_15 : D) => [none, some tokA, some turn_2, some g_3, some e_4, some f_5, some (.tuple [e_4, f_5, g_3]), some change_6, some other_7, some said_8, some s_15, some a_10, some b_12, some c_14, none, none])) (a0 := s_13) (VIH.range2_p z_range (VA.consC VE.negc (VA.consC VE.int VA.nil))) (VG.name 14 nd) turn1 (.cs (.cs (.cs (.cs (.cs (.cs (.cs (.cs (.cs (.cs (.cs (.cs (.cs (.cs (.cs (.cs .nil)))))))))))))))) (fun s_15 => len1 fun d_16 => (VB.at (ρ' := [none, some tokA, some turn_2, some g_3, some e_4, some f_5, some (.tuple [e_4, f_5, g_3]), some change_6, some other_7, some said_8, some s_15, some a_10, some b_12, some c_14, some d_16, none]) (VB.cons (E := (fun (s_17 : D) => [none, some tokA, some turn_2, some g_3, some e_4, some f_5, some (.tuple [e_4, f_5, g_3]), some change_6, some other_7, some said_8, some s_17, some a_10, some b_12, some c_14, some d_16, none])) (SB.ite (VP.w (VW.and (VP.cmp_xp (opInP hr.units) okIn (VE.op op_sub okSub (VE.op_pp opMul okMul (VE.var 11) (VE.var 14)) (VE.op_pp opMul okMul (VE.var 12) (VE.var 13))) (VE.lstC (VA.consC VE.int (VA.consC VE.negc VA.nil))) (by rfl)) (VW.and1 (VP.cmp_xp (opEqP hr.units) okEq (VE.call_p (FC.mono c_law_led (by decide : 2 ≤ 3)) hr (VA.consC (VE.var 6) (VA.consC (VE.tupC (VA.consC (VE.tupC (VA.consC (VE.var 11) (VA.consC (VE.var 12) VA.nil))) (VA.consC (VE.tupC (VA.consC (VE.var 13) (VA.consC (VE.var 14) VA.nil))) VA.nil))) VA.nil))) (VE.var 6) (nomark _))))) (VB.cons (SB.asg (E := (fun kept_18 => [none, some tokA, some turn_2, some g_3, some e_4, some f_5, some (.tuple [e_4, f_5, g_3]), some change_6, some other_7, some said_8, some kept_18, some a_10, some b_12, some c_14, some d_16, none])) (i := 10) (VH.plain (VE.op_pp opAdd okAdd (VE.var 10) VE.int)) (fun _ => rfl) nd) fun kept_18 => (VB.nil (a := kept_18) (.cs (.cs (.cs (.cs (.cs (.cs (.cs (.cs (.cs (.cs (.cs (.cs (.cs (.cs (.cs (.cs .nil)))))))))))))))))) (VB.nil (a := s_15) (.cs (.cs (.cs (.cs (.cs (.cs (.cs (.cs (.cs (.cs (.cs (.cs (.cs (.cs (.cs (.cs .nil)))))))))))))))))) fun s_17 => (VB.nil (a := s_17) (.cs (.cs (.cs (.cs (.cs (.cs (.cs (.cs (.cs (.cs (.cs (.cs (.cs (.cs (.cn (.cs .nil))))))))))))))))))))) fun s_15 => (VB.nil (a := s_15) (.cs (.cs (.cs (.cs (.cs (.cs (.cs (.cs (.cs (.cs (.cs (.cs (.cs (.cn (.cs (.cs .nil))))))))))))))))))))) fun s_13 => (VB.nil (a := s_13) (.cs (.cs (.cs (.cs (.cs (.cs (.cs (.cs (.cs (.cs (.cs (.cs (.cn (.cs (.cs (.cs .nil))))))))))))))))))))) fun s_11 => (VB.nil (a := s_11) (.cs (.cs (.cs (.cs (.cs (.cs (.cs (.cs (.cs (.cs (.cs (.cn (.cs (.cs (.cs (.cs .nil))))))))))))))))))))) fun s_9 => (VO.ifE (VP.cmp_xp (opNeP hr.units) okNe (VE.call_p (FC.mono c_count_changes (by decide : 3 ≤ 3)) hr (VA.consC (VE.var 8) VA.nil)) (VE.var 10) (nomark _)) (VO.ret VE.bl) outN_rt (VO.cons (E := (fun (s_19 : D) => [none, some tokA, some turn_2, some g_3, some e_4, some f_5, some (.tuple [e_4, f_5, g_3]), some change_6, some other_7, some said_8, some s_9, none, none, none, none, some s_19])) (SB.ite (VP.cmp_pp (opEqP hr.units) okEq (VE.var 5) VE.int (nomark _)) (VB.cons (SB.asg (E := (fun due_20 => [none, some tokA, some turn_2, some g_3, some e_4, some f_5, some (.tuple [e_4, f_5, g_3]), some change_6, some other_7, some said_8, some s_9, none, none, none, none, some due_20])) (i := 15) (VH.plain (VE.ifx (VP.cmp_pp (opEqP hr.units) okEq (VE.var 4) (VE.var 3) (nomark _)) VE.str VE.str)) (fun _ => rfl) nd) fun due_20 => (VB.nil (a := due_20) (.cs (.cs (.cs (.cs (.cs (.cs (.cs (.cs (.cs (.cs (.cs (.cs (.cs (.cs (.cs (.cs .nil)))))))))))))))))) (VB.cons (E := (fun (s_21 : D) => [none, some tokA, some turn_2, some g_3, some e_4, some f_5, some (.tuple [e_4, f_5, g_3]), some change_6, some other_7, some said_8, some s_9, none, none, none, none, some s_21])) (SB.ite (VP.cmp_xp (opEqP hr.units) okEq (VE.op_pp opMul okMul VE.int (VE.var 5)) (VE.var 4) (nomark _)) (VB.cons (SB.asg (E := (fun due_22 => [none, some tokA, some turn_2, some g_3, some e_4, some f_5, some (.tuple [e_4, f_5, g_3]), some change_6, some other_7, some said_8, some s_9, none, none, none, none, some due_22])) (i := 15) (VH.plain (VE.ifx (VP.cmp_pp (opEqP hr.units) okEq (VE.var 4) (VE.var 3) (nomark _)) VE.str VE.str)) (fun _ => rfl) nd) fun due_22 => (VB.nil (a := due_22) (.cs (.cs (.cs (.cs (.cs (.cs (.cs (.cs (.cs (.cs (.cs (.cs (.cs (.cs (.cs (.cs .nil)))))))))))))))))) (VB.cons (SB.asg (E := (fun due_23 => [none, some tokA, some turn_2, some g_3, some e_4, some f_5, some (.tuple [e_4, f_5, g_3]), some change_6, some other_7, some said_8, some s_9, none, none, none, none, some due_23])) (i := 15) (VH.plain (VE.ifx (VP.cmp_pp (opEqP hr.units) okEq (VE.var 4) (VE.var 3) (nomark _)) VE.str VE.str)) (fun _ => rfl) nd) fun due_23 => (VB.nil (a := due_23) (.cs (.cs (.cs (.cs (.cs (.cs (.cs (.cs (.cs (.cs (.cs (.cs (.cs (.cs (.cs (.cs .nil))))))))))))))))))) fun s_21 => (VB.nil (a := s_21) (.cs (.cs (.cs (.cs (.cs (.cs (.cs (.cs (.cs (.cs (.cs (.cs (.cs (.cs (.cs (.cs .nil))))))))))))))))))) fun s_19 => (VO.ifE (VP.w (VW.or (VP.cmp_xp (opNeP hr.units) okNe (VE.call_p (FC.mono c_net_sort (by decide : 2 ≤ 3)) hr (VA.consC (VE.var 8) VA.nil)) (VE.var 15) (nomark _)) (VW.or1 (VP.cmp_xp (opNeP hr.units) okNe (VE.dpick hr.units (VD.cons (kk := (.inr "square")) pe_str VE.int (VD.cons (kk := (.inr "six")) pe_str VE.int (VD.cons (kk := (.inr "long")) pe_str VE.int (VD.cons (kk := (.inr "rhomb")) pe_str VE.int (VD.cons (kk := (.inr "slant")) pe_str VE.int VD.nil))))) (VE.var 15) (fun e => nomatch e) (Nat.le_of_ble_eq_true rfl)) (VE.var 10) (nomark _))))) (VO.ret VE.bl) outN_rt (VO.nil (a := ()) (.cs (.cs (.cn (.cn (.cn (.cn (.cn (.cn (.cn (.cn (.cn (.cs (.cs (.cs (.cs (.cn .nil))))))))))))))))))))))))))))))))))) fun s_1 => (VT.ret (VE.and (VE.cmp_xp (opEqP hr.units) okEq (VE.call_p (FC.mono c_least_form (by decide : 1 ≤ 3)) hr (VA.consC (VE.tupC (VA.consC VE.int (VA.consC VE.int (VA.consC VE.int VA.nil)))) VA.nil)) (VE.tupC (VA.consC VE.int (VA.consC VE.int (VA.consC VE.int VA.nil)))) (nomark _)) (VE.and (VE.cmp_xp (opEqP hr.units) okEq (VE.call_p (FC.mono c_net_sort (by decide : 2 ≤ 3)) hr (VA.consC (VE.tupC (VA.consC VE.int (VA.consC VE.int (VA.consC VE.int VA.nil)))) VA.nil)) VE.str (nomark _)) (VE.one (VE.cmp_xp (opEqP hr.units) okEq (VE.call_p (FC.mono c_net_sort (by decide : 2 ≤ 3)) hr (VA.consC (VE.tupC (VA.consC VE.int (VA.consC VE.int (VA.consC VE.int VA.nil)))) VA.nil)) VE.str (nomark _)))))))
    refine ⟨_, pss_cons (ps_set (i := 1) nd rfl (by first | exact Or.inl rfl | exact Or.inr rfl) (pe_call GS hr (by rfl) hS FS.kp bS .nil pass0 (pa_cons (pv 0) pa_nil))) body, ?_⟩
    exact ⟨_, rfl, a, ns, rfl, hs, hl, fun H' p c xs z _ hne hz hxs hp hc _ _ => law_startA (n := 14) rfl hne hz hxs hp hc rfl rfl hx q⟩


end Qv.k16
end
set_option maxHeartbeats 4000000
namespace Qv.k16
/-! ## Forms -/
def fw (e f g x y : Int) : Int := e * x * x + 2 * f * x * y + g * y * y
def fm (e f g a b c d : Int) : Int := a * b * e + (a * d + b * c) * f + c * d * g

theorem sq_pos {x : Int} (h : x ≠ 0) : 1 ≤ x * x := by
  rcases Int.lt_or_gt_of_ne h with h | h
  · have := Int.mul_pos_of_neg_of_neg h h; omega
  · have := Int.mul_pos h h; omega
theorem sq_nn (x : Int) : 0 ≤ x * x := by
  by_cases h : x = 0
  · subst h; omega
  · have := sq_pos h; omega
/-- on nonnegative parts -/
theorem low_nn {e f g x y : Int} (he : 0 < e) (hf : 2 * f ≤ e) (hf' : -e ≤ 2 * f) (hg : e ≤ g) (hx : 0 ≤ x) (hy : 0 < y) : g ≤ fw e f g x y := by
  have h1 : 0 ≤ x * y := Int.mul_nonneg hx (by omega)
  have h2 : 0 ≤ (2 * f + e) * (x * y) := Int.mul_nonneg (by omega) h1
  have h3 : 1 ≤ y * y := sq_pos (by omega)
  have e1 : fw e f g x y = (2 * f + e) * (x * y) + e * (x * x - x * y + y * y) + (g - e) * (y * y) := by unfold fw; grind
  have h4 : 1 ≤ x * x - x * y + y * y := by
    have a : 4 * (x * x - x * y + y * y) = (2 * x - y) * (2 * x - y) + 3 * (y * y) := by grind
    have := sq_nn (2 * x - y)
    omega
  have h5 : e * 1 ≤ e * (x * x - x * y + y * y) := Int.mul_le_mul_of_nonneg_left h4 (by omega)
  have h6 : (g - e) * 1 ≤ (g - e) * (y * y) := Int.mul_le_mul_of_nonneg_left h3 (by omega)
  omega
theorem fw_neg {e f g x y : Int} : fw e f g (-x) y = fw e (-f) g x y := by unfold fw; grind
theorem fw_neg2 {e f g x y : Int} : fw e f g x (-y) = fw e (-f) g x y := by unfold fw; grind
theorem low_g {e f g x y : Int} (he : 0 < e) (hf : 2 * f ≤ e) (hf' : -e ≤ 2 * f) (hg : e ≤ g) (hy : y ≠ 0) : g ≤ fw e f g x y := by
  rcases Int.lt_or_gt_of_ne hy with h | h
  · have e1 : fw e f g x y = fw e f g (-x) (-y) := by unfold fw; grind
    rw [e1]
    by_cases hx : 0 ≤ -x
    · exact low_nn he hf hf' hg hx (by omega)
    · rw [fw_neg]
      exact low_nn he (by omega) (by omega) hg (by omega) (by omega)
  · by_cases hx : 0 ≤ x
    · exact low_nn he hf hf' hg hx (by omega)
    · have e1 : fw e f g x y = fw e (-f) g (-x) y := by unfold fw; grind
      rw [e1]
      exact low_nn he (by omega) (by omega) hg (by omega) (by omega)
theorem low_e {e f g x y : Int} (he : 0 < e) (hf : 2 * f ≤ e) (hf' : -e ≤ 2 * f) (hg : e ≤ g) (h : x ≠ 0 ∨ y ≠ 0) : e ≤ fw e f g x y := by
  by_cases hy : y = 0
  · subst hy
    have hx : x ≠ 0 := by omega
    have e1 : fw e f g x 0 = e * (x * x) := by unfold fw; grind
    have := Int.mul_le_mul_of_nonneg_left (sq_pos hx) (show 0 ≤ e by omega)
    omega
  · have := low_g (x := x) he hf hf' hg hy
    omega
/-- one way -/
theorem one_way {e f g a b c d : Int} (he : 0 < e) (hf : 2 * f ≤ e) (hf' : -e ≤ 2 * f) (hg : e ≤ g) (hd : a * d - b * c = 1 ∨ a * d - b * c = -1)
    (hE : fw e f g a c ≤ fw e f g b d) : e ≤ fw e f g a c ∧ g ≤ fw e f g b d := by
  constructor
  · refine low_e he hf hf' hg ?_
    by_cases h : a = 0
    · refine .inr fun h2 => ?_
      subst h h2
      simp at hd
    · exact .inl h
  · by_cases h : d = 0
    · have hc : c ≠ 0 := by
        rintro rfl
        subst h
        simp at hd
      exact Int.le_trans (low_g he hf hf' hg hc) hE
    · exact low_g he hf hf' hg h
theorem back {e f g a b c d : Int} (hd : a * d - b * c = 1 ∨ a * d - b * c = -1) :
    fw (fw e f g a c) (fm e f g a b c d) (fw e f g b d) d (-c) = e ∧ fw (fw e f g a c) (fm e f g a b c d) (fw e f g b d) (-b) a = g ∧
    (fw e f g a c) * (fw e f g b d) - fm e f g a b c d * fm e f g a b c d = e * g - f * f := by
  have h : (a * d - b * c) * (a * d - b * c) = 1 := by rcases hd with h | h <;> rw [h] <;> rfl
  refine ⟨?_, ?_, ?_⟩
  · have : fw (fw e f g a c) (fm e f g a b c d) (fw e f g b d) d (-c) = e * ((a * d - b * c) * (a * d - b * c)) := by unfold fw fm; grind
    rw [this, h]; omega
  · have : fw (fw e f g a c) (fm e f g a b c d) (fw e f g b d) (-b) a = g * ((a * d - b * c) * (a * d - b * c)) := by unfold fw fm; grind
    rw [this, h]; omega
  · have : (fw e f g a c) * (fw e f g b d) - fm e f g a b c d * fm e f g a b c d = (e * g - f * f) * ((a * d - b * c) * (a * d - b * c)) := by unfold fw fm; grind
    rw [this, h]; omega
theorem uniq {e f g a b c d : Int} (he : 0 < e) (hf : 2 * f ≤ e) (hf' : 0 ≤ f) (hg : e ≤ g) (hd : a * d - b * c = 1 ∨ a * d - b * c = -1)
    (h0 : 0 < fw e f g a c) (h1 : 2 * fm e f g a b c d ≤ fw e f g a c) (h2 : -fw e f g a c ≤ 2 * fm e f g a b c d) (h3 : fw e f g a c ≤ fw e f g b d) :
    fw e f g a c = e ∧ ((fm e f g a b c d).natAbs : Int) = f ∧ fw e f g b d = g := by
  obtain ⟨p1, p2⟩ := one_way he hf (by omega) hg hd h3
  obtain ⟨b1, b2, b3⟩ := back (e := e) (f := f) (g := g) hd
  generalize fw e f g a c = E at *
  generalize fm e f g a b c d = F at *
  generalize fw e f g b d = G at *
  have hd' : d * a - (-b) * (-c) = 1 ∨ d * a - (-b) * (-c) = -1 := by
    have : d * a - (-b) * (-c) = a * d - b * c := by grind
    rw [this]; exact hd
  have q := one_way (e := E) (f := F) (g := G) (a := d) (b := -b) (c := -c) (d := a) h0 h1 h2 h3 hd' (by rw [b1, b2]; exact hg)
  rw [b1, b2] at q
  have hE : E = e := by omega
  have hG : G = g := by omega
  subst hE hG
  refine ⟨rfl, ?_, rfl⟩
  have h4 : F * F = f * f := by omega
  have h5 : (F - f) * (F + f) = 0 := by
    have : (F - f) * (F + f) = F * F - f * f := by grind
    omega
  rcases Int.mul_eq_zero.mp h5 with h | h <;> omega
/-! ## the changes that keep a form -/
abbrev Bx (a : Int) : Prop := a = -2 ∨ a = -1 ∨ a = 0 ∨ a = 1 ∨ a = 2
def eqs (e f g a b c d : Int) : Prop := fw e f g a c = e ∧ fm e f g a b c d = f ∧ fw e f g b d = g
instance : Decidable (eqs e f g a b c d) := by unfold eqs; infer_instance
theorem c1 {e a b c d : Int} (he : 0 < e) (ha : Bx a) (hb : Bx b) (hc : Bx c) (hd : Bx d) (h : a * d - b * c = 1 ∨ a * d - b * c = -1) : eqs e 0 e a b c d ↔ eqs 1 0 1 a b c d := by
  unfold eqs fw fm
  rcases ha with rfl | rfl | rfl | rfl | rfl <;> rcases hb with rfl | rfl | rfl | rfl | rfl <;> rcases hc with rfl | rfl | rfl | rfl | rfl <;> rcases hd with rfl | rfl | rfl | rfl | rfl <;> first | (exfalso; revert h; decide) | omega
theorem c2 {e g a b c d : Int} (he : 0 < e) (hg : e < g) (ha : Bx a) (hb : Bx b) (hc : Bx c) (hd : Bx d) (h : a * d - b * c = 1 ∨ a * d - b * c = -1) : eqs e 0 g a b c d ↔ eqs 1 0 2 a b c d := by
  unfold eqs fw fm
  rcases ha with rfl | rfl | rfl | rfl | rfl <;> rcases hb with rfl | rfl | rfl | rfl | rfl <;> rcases hc with rfl | rfl | rfl | rfl | rfl <;> rcases hd with rfl | rfl | rfl | rfl | rfl <;> first | (exfalso; revert h; decide) | omega
theorem c3 {f a b c d : Int} (he : 0 < f) (ha : Bx a) (hb : Bx b) (hc : Bx c) (hd : Bx d) (h : a * d - b * c = 1 ∨ a * d - b * c = -1) : eqs (2 * f) f (2 * f) a b c d ↔ eqs 2 1 2 a b c d := by
  unfold eqs fw fm
  rcases ha with rfl | rfl | rfl | rfl | rfl <;> rcases hb with rfl | rfl | rfl | rfl | rfl <;> rcases hc with rfl | rfl | rfl | rfl | rfl <;> rcases hd with rfl | rfl | rfl | rfl | rfl <;> first | (exfalso; revert h; decide) | omega
theorem c4 {f g a b c d : Int} (he : 0 < f) (hg : 2 * f < g) (ha : Bx a) (hb : Bx b) (hc : Bx c) (hd : Bx d) (h : a * d - b * c = 1 ∨ a * d - b * c = -1) : eqs (2 * f) f g a b c d ↔ eqs 2 1 3 a b c d := by
  unfold eqs fw fm
  rcases ha with rfl | rfl | rfl | rfl | rfl <;> rcases hb with rfl | rfl | rfl | rfl | rfl <;> rcases hc with rfl | rfl | rfl | rfl | rfl <;> rcases hd with rfl | rfl | rfl | rfl | rfl <;> first | (exfalso; revert h; decide) | omega
theorem c5 {e f a b c d : Int} (he : 0 < f) (hf : 2 * f < e) (ha : Bx a) (hb : Bx b) (hc : Bx c) (hd : Bx d) (h : a * d - b * c = 1 ∨ a * d - b * c = -1) : eqs e f e a b c d ↔ eqs 3 1 3 a b c d := by
  unfold eqs fw fm
  rcases ha with rfl | rfl | rfl | rfl | rfl <;> rcases hb with rfl | rfl | rfl | rfl | rfl <;> rcases hc with rfl | rfl | rfl | rfl | rfl <;> rcases hd with rfl | rfl | rfl | rfl | rfl <;> first | (exfalso; revert h; decide) | omega
theorem c6 {e f g a b c d : Int} (he : 0 < f) (hf : 2 * f < e) (hg : e < g) (ha : Bx a) (hb : Bx b) (hc : Bx c) (hd : Bx d) (h : a * d - b * c = 1 ∨ a * d - b * c = -1) : eqs e f g a b c d ↔ eqs 3 1 4 a b c d := by
  unfold eqs fw fm
  rcases ha with rfl | rfl | rfl | rfl | rfl <;> rcases hb with rfl | rfl | rfl | rfl | rfl <;> rcases hc with rfl | rfl | rfl | rfl | rfl <;> rcases hd with rfl | rfl | rfl | rfl | rfl <;> first | (exfalso; revert h; decide) | omega
def cnd (e f g a b c d : Int) : Bool := (decide (a * d - b * c = 1) || decide (a * d - b * c = -1)) && decide (eqs e f g a b c d)
theorem cnd_cg {e f g e' f' g' a b c d : Int} (h : a * d - b * c = 1 ∨ a * d - b * c = -1 → (eqs e f g a b c d ↔ eqs e' f' g' a b c d)) : cnd e f g a b c d = cnd e' f' g' a b c d := by
  unfold cnd
  by_cases h1 : a * d - b * c = 1 ∨ a * d - b * c = -1
  · rw [show decide (eqs e f g a b c d) = decide (eqs e' f' g' a b c d) from decide_eq_decide.mpr (h h1)]
  · have h2 : (decide (a * d - b * c = 1) || decide (a * d - b * c = -1)) = false := by
      rw [Bool.or_eq_false_iff, decide_eq_false_iff_not, decide_eq_false_iff_not]; omega
    rw [h2]; rfl
def bx : List Int := [-2, -1, 0, 1, 2]
theorem bx_mem {a : Int} (h : a ∈ bx) : Bx a := by simpa [bx] using h
def kept (e f g : Int) : Int := (bx.map fun a => (bx.map fun b => (bx.map fun c => (bx.map fun d => if cnd e f g a b c d then (1 : Int) else 0).sum).sum).sum).sum
theorem kept_cg {e f g e' f' g' : Int} (h : ∀ a b c d, Bx a → Bx b → Bx c → Bx d → cnd e f g a b c d = cnd e' f' g' a b c d) : kept e f g = kept e' f' g' := by
  unfold kept
  refine congrArg _ (List.map_congr_left fun a ha => congrArg _ (List.map_congr_left fun b hb => congrArg _ (List.map_congr_left fun c hc => congrArg _ (List.map_congr_left fun d hd => ?_))))
  rw [h a b c d (bx_mem ha) (bx_mem hb) (bx_mem hc) (bx_mem hd)]
/-- z: f = 0, s: e = g, w: 2 f = e -/
def num (z s w : Bool) : Int := if z then (if s then 8 else 4) else if w then (if s then 12 else 4) else if s then 4 else 2
theorem kept_eq {e f g : Int} (he : 0 < e) (hf : 2 * f ≤ e) (hf' : 0 ≤ f) (hg : e ≤ g) : kept e f g = num (decide (f = 0)) (decide (e = g)) (decide (2 * f = e)) := by
  by_cases z : f = 0
  · subst z
    by_cases s : e = g
    · subst s
      rw [kept_cg fun a b c d h1 h2 h3 h4 => cnd_cg (c1 he h1 h2 h3 h4), decide_eq_true rfl, decide_eq_true rfl]
      exact (show kept 1 0 1 = 8 by decide +kernel)
    · rw [kept_cg fun a b c d h1 h2 h3 h4 => cnd_cg (c2 he (by omega) h1 h2 h3 h4), decide_eq_true rfl, decide_eq_false s]
      exact (show kept 1 0 2 = 4 by decide +kernel)
  · rw [decide_eq_false z]
    by_cases w : 2 * f = e
    · subst w
      rw [decide_eq_true (show 2 * f = 2 * f from rfl)]
      by_cases s : 2 * f = g
      · subst s
        rw [kept_cg fun a b c d h1 h2 h3 h4 => cnd_cg (c3 (by omega) h1 h2 h3 h4), decide_eq_true rfl]
        exact (show kept 2 1 2 = 12 by decide +kernel)
      · rw [kept_cg fun a b c d h1 h2 h3 h4 => cnd_cg (c4 (by omega) (by omega) h1 h2 h3 h4), decide_eq_false s]
        exact (show kept 2 1 3 = 4 by decide +kernel)
    · rw [decide_eq_false w]
      by_cases s : e = g
      · subst s
        rw [kept_cg fun a b c d h1 h2 h3 h4 => cnd_cg (c5 (by omega) (by omega) h1 h2 h3 h4), decide_eq_true rfl]
        exact (show kept 3 1 3 = 4 by decide +kernel)
      · rw [kept_cg fun a b c d h1 h2 h3 h4 => cnd_cg (c6 (by omega) (by omega) (by omega) h1 h2 h3 h4), decide_eq_false s]
        exact (show kept 3 1 4 = 2 by decide +kernel)
end Qv.k16

set_option maxHeartbeats 4000000
namespace Qv.k16
open PySem PySem.Spec PyProof.Rows L2
/-! ### bounds -/
theorem mb {x y X Y : Int} (hx : -X ≤ x ∧ x ≤ X) (hy : -Y ≤ y ∧ y ≤ Y) : -(X * Y) ≤ x * y ∧ x * y ≤ X * Y := by
  have h1 : 0 ≤ (X - x) * (Y + y) := Int.mul_nonneg (by omega) (by omega)
  have h2 : 0 ≤ (X + x) * (Y - y) := Int.mul_nonneg (by omega) (by omega)
  have h3 : 0 ≤ (X - x) * (Y - y) := Int.mul_nonneg (by omega) (by omega)
  have h4 : 0 ≤ (X + x) * (Y + y) := Int.mul_nonneg (by omega) (by omega)
  have e1 : (X - x) * (Y + y) = X * Y + X * y - x * Y - x * y := by grind
  have e2 : (X + x) * (Y - y) = X * Y - X * y + x * Y - x * y := by grind
  have e3 : (X - x) * (Y - y) = X * Y - X * y - x * Y + x * y := by grind
  have e4 : (X + x) * (Y + y) = X * Y + X * y + x * Y + x * y := by grind
  generalize X * Y = p at *
  generalize x * y = q at *
  generalize X * y = r at *
  generalize x * Y = s at *
  omega
abbrev B8 (x : Int) : Prop := -256 ≤ x ∧ x ≤ 256
theorem fw_bd {e f g x y : Int} (he : 0 < e) (hf : 2 * f ≤ e) (hf' : 0 ≤ f) (hg : e ≤ g) (hg' : g ≤ 40) (hx : B8 x) (hy : B8 y) : -8000000 ≤ fw e f g x y ∧ fw e f g x y ≤ 8000000 := by
  have h1 := mb (show -40 ≤ e ∧ e ≤ 40 by omega) (mb hx hx)
  have h2 := mb (show -20 ≤ f ∧ f ≤ 20 by omega) (mb hx hy)
  have h3 := mb (show -40 ≤ g ∧ g ≤ 40 by omega) (mb hy hy)
  have : fw e f g x y = e * (x * x) + 2 * (f * (x * y)) + g * (y * y) := by unfold fw; grind
  omega
theorem fm_bd {e f g a b c d : Int} (he : 0 < e) (hf : 2 * f ≤ e) (hf' : 0 ≤ f) (hg : e ≤ g) (hg' : g ≤ 40) (ha : B8 a) (hb : B8 b) (hc : B8 c) (hd : B8 d) : -8000000 ≤ fm e f g a b c d ∧ fm e f g a b c d ≤ 8000000 := by
  have h1 := mb (show -40 ≤ e ∧ e ≤ 40 by omega) (mb ha hb)
  have h2 := mb (show -20 ≤ f ∧ f ≤ 20 by omega) (mb ha hd)
  have h4 := mb (show -20 ≤ f ∧ f ≤ 20 by omega) (mb hb hc)
  have h3 := mb (show -40 ≤ g ∧ g ≤ 40 by omega) (mb hc hd)
  have : fm e f g a b c d = e * (a * b) + f * (a * d) + f * (b * c) + g * (c * d) := by unfold fm; grind
  omega
/-! ### the law's own -/
abbrev T3 (e f g : Int) : D := .tuple [.int e, .int f, .int g]
abbrev M4 (a b c d : Int) : D := .tuple [.tuple [.int a, .int b], .tuple [.int c, .int d]]
theorem worth_eq {e f g x y : Int} (hx : B8 x) (hy : B8 y) : m_law_worth [.tuple [.int e, .int f, .int g], .int x, .int y] = some (.int (fw e f g x y)) := by
  have mx : ∀ i : Int, dMul (.int i) (.int x) = some (.int (i * x)) := fun i => dMul_r (by omega)
  have my : ∀ i : Int, dMul (.int i) (.int y) = some (.int (i * y)) := fun i => dMul_r (by omega)
  have m2 : ∀ i : Int, dMul (.int 2) (.int i) = some (.int (2 * i)) := fun i => dMul_l (by omega)
  simp only [m_law_worth, un1_c, un2_c, un3_c, un4_c, un5_c, o_pure, o_bind, o_some, o_lift, flat_n, flat_tt, flat_tl, flats_nil, flats_cons, List.append_nil, List.cons_append, List.nil_append, dIx_t, dIx_l, at0, at1, at2, at3, dAdd_ii, dSub_ii, dNeg_i, dLt_ii, dLe_ii, dGt_ii, dGe_ii, dEq_i2, dNe_i2, dNe_bb, dEq_bb, dTruth_b, dBool_b, dInt_i, dLen_l, dLen_t, dTuple_l, dTuple_t, dIter_l, dIter_t, if_true, Bool.false_eq_true, if_false, Bool.not_true, Bool.not_false, mx, my, m2]
  rfl
theorem led_eq {e f g a b c d : Int} (ha : B8 a) (hb : B8 b) (hc : B8 c) (hd : B8 d) (he : -100 ≤ e ∧ e ≤ 100) (hf : -100 ≤ f ∧ f ≤ 100) (hg : -100 ≤ g ∧ g ≤ 100) :
    m_law_led [.tuple [.int e, .int f, .int g], .tuple [.tuple [.int a, .int b], .tuple [.int c, .int d]]] = some (.tuple [.int (fw e f g a c), .int (fm e f g a b c d), .int (fw e f g b d)]) := by
  have mb : ∀ i : Int, dMul (.int i) (.int b) = some (.int (i * b)) := fun i => dMul_r (by omega)
  have mc : ∀ i : Int, dMul (.int i) (.int c) = some (.int (i * c)) := fun i => dMul_r (by omega)
  have md : ∀ i : Int, dMul (.int i) (.int d) = some (.int (i * d)) := fun i => dMul_r (by omega)
  have me : ∀ i : Int, dMul (.int i) (.int e) = some (.int (i * e)) := fun i => dMul_r (by omega)
  have mf : ∀ i : Int, dMul (.int i) (.int f) = some (.int (i * f)) := fun i => dMul_r (by omega)
  have mg : ∀ i : Int, dMul (.int i) (.int g) = some (.int (i * g)) := fun i => dMul_r (by omega)
  have w1 := worth_eq (e := e) (f := f) (g := g) ha hc
  have w2 := worth_eq (e := e) (f := f) (g := g) hb hd
  simp only [m_law_led, un1_c, un2_c, un3_c, un4_c, un5_c, o_pure, o_bind, o_some, o_lift, flat_n, flat_tt, flat_tl, flats_nil, flats_cons, List.append_nil, List.cons_append, List.nil_append, dIx_t, dIx_l, at0, at1, at2, at3, dAdd_ii, dSub_ii, dNeg_i, dLt_ii, dLe_ii, dGt_ii, dGe_ii, dEq_i2, dNe_i2, dNe_bb, dEq_bb, dTruth_b, dBool_b, dInt_i, dLen_l, dLen_t, dTuple_l, dTuple_t, dIter_l, dIter_t, if_true, Bool.false_eq_true, if_false, Bool.not_true, Bool.not_false, w1, w2, mb, mc, md, me, mf, mg]
  rfl
theorem isl_eq {e f g : Int} : m_is_least [.tuple [.int e, .int f, .int g]] = some (.bool (decide (0 ≤ 2 * f) && (decide (2 * f ≤ e) && decide (e ≤ g)))) := by
  have m2 : ∀ i : Int, dMul (.int 2) (.int i) = some (.int (2 * i)) := fun i => dMul_l (by omega)
  simp only [m_is_least, un1_c, un2_c, un3_c, un4_c, un5_c, o_pure, o_bind, o_some, o_lift, flat_n, flat_tt, flat_tl, flats_nil, flats_cons, List.append_nil, List.cons_append, List.nil_append, dIx_t, dIx_l, at0, at1, at2, at3, dAdd_ii, dSub_ii, dNeg_i, dLt_ii, dLe_ii, dGt_ii, dGe_ii, dEq_i2, dNe_i2, dNe_bb, dEq_bb, dTruth_b, dBool_b, dInt_i, dLen_l, dLen_t, dTuple_l, dTuple_t, dIter_l, dIter_t, if_true, Bool.false_eq_true, if_false, Bool.not_true, Bool.not_false, m2]
  cases decide (0 ≤ 2 * f) <;> cases decide (2 * f ≤ e) <;> rfl
/-! ### least_form -/
theorem whO_rt {α : Type} {cc : α → Option Bool} {ff : α → Option (Out α)} {v : D} (I : Nat → α → Prop) (hc : ∀ n s, I n s → cc s = some true)
    (hf : ∀ n s, I n s → ff s = some (.rt v) ∨ ∃ s' n', n = n' + 1 ∧ ff s = some (.nx s') ∧ I n' s') : ∀ (fuel n : Nat) (s : α), n < fuel → I n s → whO cc ff fuel s = some (.rt v) := by
  intro fuel
  induction fuel with
  | zero => intro n s h; omega
  | succ m ih =>
    intro n s h hi
    rw [whO, hc n s hi]
    rcases hf n s hi with e | ⟨s', n', en, e, hi'⟩
    · simp only [o_bind, o_some, if_true, e]; rfl
    · simp only [o_bind, o_some, if_true, e]
      exact ih n' s' (by omega) hi'
def In (e f g : Int) (n : Nat) (s : D × D × D) : Prop := ∃ a b c d : Int, (a * d - b * c = 1 ∨ a * d - b * c = -1) ∧
  s = (.int (fw e f g a c), .int (fm e f g a b c d), .int (fw e f g b d)) ∧ (0 < fw e f g a c ∧ fw e f g a c ≤ (n : Int)) ∧ n ≤ 10000000 ∧
  (-10000000 ≤ fm e f g a b c d ∧ fm e f g a b c d ≤ 10000000)
theorem fw_pos {e f g a c b d : Int} (he : 0 < e) (hf : 2 * f ≤ e) (hf' : 0 ≤ f) (hg : e ≤ g) (hd : a * d - b * c = 1 ∨ a * d - b * c = -1) : 0 < fw e f g a c := by
  have : e ≤ fw e f g a c := low_e he hf (by omega) hg (by
    by_cases h : a = 0
    · refine .inr fun h2 => ?_
      subst h h2
      simp at hd
    · exact .inl h)
  omega
theorem round_bd {x m : Int} (h : 0 < m) : -m ≤ 2 * (x - ((2 * x + m).fdiv (2 * m)) * m) ∧ 2 * (x - ((2 * x + m).fdiv (2 * m)) * m) < m := by
  have h1 : (2 * x + m).fdiv (2 * m) * (2 * m) + (2 * x + m).fmod (2 * m) = 2 * x + m := by
    have := Int.mul_fdiv_add_fmod (2 * x + m) (2 * m)
    rw [Int.mul_comm]; exact this
  have h2 := Int.fmod_nonneg_of_pos (2 * x + m) (show 0 < 2 * m by omega)
  have h3 := Int.fmod_lt_of_pos (2 * x + m) (show 0 < 2 * m by omega)
  generalize (2 * x + m).fdiv (2 * m) = q at *
  generalize (2 * x + m).fmod (2 * m) = r at *
  have : q * (2 * m) = 2 * (q * m) := by grind
  omega
theorem q_bd {x m : Int} (h : 0 < m) (hm : m ≤ 10000000) (hx : -10000000 ≤ x ∧ x ≤ 10000000) : -100000000 ≤ (2 * x + m).fdiv (2 * m) ∧ (2 * x + m).fdiv (2 * m) ≤ 100000000 := by
  have h1 : (2 * x + m).fdiv (2 * m) * (2 * m) + (2 * x + m).fmod (2 * m) = 2 * x + m := by
    have := Int.mul_fdiv_add_fmod (2 * x + m) (2 * m)
    rw [Int.mul_comm]; exact this
  have h2 := Int.fmod_nonneg_of_pos (2 * x + m) (show 0 < 2 * m by omega)
  have h3 := Int.fmod_lt_of_pos (2 * x + m) (show 0 < 2 * m by omega)
  generalize (2 * x + m).fdiv (2 * m) = q at *
  generalize (2 * x + m).fmod (2 * m) = r at *
  constructor
  · by_cases h : -100000000 ≤ q
    · exact h
    · have : (-q - 1) * 1 ≤ (-q - 1) * m := Int.mul_le_mul_of_nonneg_left (by omega) (by omega)
      have e1 : (-q - 1) * m = -(q * m) - m := by grind
      have e2 : q * (2 * m) = 2 * (q * m) := by grind
      omega
  · by_cases h : q ≤ 100000000
    · exact h
    · have : q * 1 ≤ q * m := Int.mul_le_mul_of_nonneg_left (by omega) (by omega)
      have e2 : q * (2 * m) = 2 * (q * m) := by grind
      omega
theorem dAbs_i {i : Int} : f1 dAbs [.int i] = some (.int (if i < 0 then -i else i)) := id rfl
theorem least_eq {e f g a b c d : Int} (he : 0 < e) (hf : 2 * f ≤ e) (hf' : 0 ≤ f) (hg : e ≤ g) (hg' : g ≤ 40) (hd : a * d - b * c = 1 ∨ a * d - b * c = -1)
    (ha : B8 a) (hb : B8 b) (hc : B8 c) (hdd : B8 d) :
    m_least_form [.tuple [.int (fw e f g a c), .int (fm e f g a b c d), .int (fw e f g b d)]] = some (.tuple [.int e, .int f, .int g]) := by
  have b1 := fw_bd he hf hf' hg hg' ha hc
  have b2 := fm_bd he hf hf' hg hg' ha hb hc hdd
  have p1 := fw_pos he hf hf' hg hd
  have m2 : ∀ i : Int, dMul (.int 2) (.int i) = some (.int (2 * i)) := fun i => dMul_l (by omega)
  simp only [m_least_form, un1_c, un2_c, un3_c, un4_c, un5_c, o_pure, o_bind, o_some, o_lift, flat_n, flat_tt, flat_tl, flats_nil, flats_cons, List.append_nil, List.cons_append, List.nil_append, dIx_t, dIx_l, at0, at1, at2, at3, dAdd_ii, dSub_ii, dNeg_i, dLt_ii, dLe_ii, dGt_ii, dGe_ii, dEq_i2, dNe_i2, dNe_bb, dEq_bb, dTruth_b, dBool_b, dInt_i, dLen_l, dLen_t, dTuple_l, dTuple_t, dIter_l, dIter_t, if_true, Bool.false_eq_true, if_false, Bool.not_true, Bool.not_false]
  have hw : ∀ (cc : D × D × D → Option Bool) (ff : D × D × D → Option (Out (D × D × D))), (∀ s, cc s = some true) →
      (∀ n s, In e f g n s → ff s = some (.rt (T3 e f g)) ∨ ∃ s' n', n = n' + 1 ∧ ff s = some (.nx s') ∧ In e f g n' s') →
      whO cc ff 100000000 (.int (fw e f g a c), .int (fm e f g a b c d), .int (fw e f g b d)) = some (.rt (T3 e f g)) := fun cc ff h1 h2 =>
    whO_rt (In e f g) (fun _ s _ => h1 s) h2 100000000 (fw e f g a c).toNat _ (by omega) ⟨a, b, c, d, hd, rfl, by omega, by omega, by omega⟩
  rw [hw _ _ (fun s => rfl) (fun n s hs => ?_)]
  · rfl
  · obtain ⟨a, b, c, d, hd, rfl, ⟨h0, h1⟩, h2, h3⟩ := hs
    have qb := q_bd h0 (by omega) h3
    have rb := round_bd (x := fm e f g a b c d) h0
    have me : ∀ i : Int, dMul (.int i) (.int (fw e f g a c)) = some (.int (i * fw e f g a c)) := fun i => dMul_r (by omega)
    have mf : ∀ i : Int, dMul (.int i) (.int (fm e f g a b c d)) = some (.int (i * fm e f g a b c d)) := fun i => dMul_r (by omega)
    have dd : ∀ i : Int, dDiv (.int i) (.int (2 * fw e f g a c)) = some (.int (i.fdiv (2 * fw e f g a c))) := fun i => dDiv_s (by omega) (by omega)
    simp only [un1_c, un2_c, un3_c, un4_c, un5_c, o_pure, o_bind, o_some, o_lift, flat_n, flat_tt, flat_tl, flats_nil, flats_cons, List.append_nil, List.cons_append, List.nil_append, dIx_t, dIx_l, at0, at1, at2, at3, dAdd_ii, dSub_ii, dNeg_i, dLt_ii, dLe_ii, dGt_ii, dGe_ii, dEq_i2, dNe_i2, dNe_bb, dEq_bb, dTruth_b, dBool_b, dInt_i, dLen_l, dLen_t, dTuple_l, dTuple_t, dIter_l, dIter_t, if_true, Bool.false_eq_true, if_false, Bool.not_true, Bool.not_false, m2, me, mf, dd]
    generalize (2 * fm e f g a b c d + fw e f g a c).fdiv (2 * fw e f g a c) = q at *
    have mq : ∀ i : Int, dMul (.int i) (.int q) = some (.int (i * q)) := fun i => dMul_r (by omega)
    have e1 : fm e f g a b c d - q * fw e f g a c = fm e f g a (b - q * a) c (d - q * c) := by unfold fm fw; grind
    have e2 : fw e f g b d - 2 * q * fm e f g a b c d + q * q * fw e f g a c = fw e f g (b - q * a) (d - q * c) := by unfold fm fw; grind
    have hd' : a * (d - q * c) - (b - q * a) * c = 1 ∨ a * (d - q * c) - (b - q * a) * c = -1 := by
      have : a * (d - q * c) - (b - q * a) * c = a * d - b * c := by grind
      rw [this]; exact hd
    simp only [mq, me, un1_c, un2_c, un3_c, un4_c, un5_c, o_pure, o_bind, o_some, o_lift, flat_n, flat_tt, flat_tl, flats_nil, flats_cons, List.append_nil, List.cons_append, List.nil_append, dIx_t, dIx_l, at0, at1, at2, at3, dAdd_ii, dSub_ii, dNeg_i, dLt_ii, dLe_ii, dGt_ii, dGe_ii, dEq_i2, dNe_i2, dNe_bb, dEq_bb, dTruth_b, dBool_b, dInt_i, dLen_l, dLen_t, dTuple_l, dTuple_t, dIter_l, dIter_t, if_true, Bool.false_eq_true, if_false, Bool.not_true, Bool.not_false, e1, e2]
    rw [e1] at rb
    generalize b - q * a = b' at *
    generalize d - q * c = d' at *
    by_cases hle : fw e f g a c ≤ fw e f g b' d'
    · refine .inl ?_
      obtain ⟨u1, u2, u3⟩ := uniq he hf hf' hg hd' h0 (by omega) (by omega) hle
      simp only [decide_eq_true hle, un1_c, un2_c, un3_c, un4_c, un5_c, o_pure, o_bind, o_some, o_lift, flat_n, flat_tt, flat_tl, flats_nil, flats_cons, List.append_nil, List.cons_append, List.nil_append, dIx_t, dIx_l, at0, at1, at2, at3, dAdd_ii, dSub_ii, dNeg_i, dLt_ii, dLe_ii, dGt_ii, dGe_ii, dEq_i2, dNe_i2, dNe_bb, dEq_bb, dTruth_b, dBool_b, dInt_i, dLen_l, dLen_t, dTuple_l, dTuple_t, dIter_l, dIter_t, if_true, Bool.false_eq_true, if_false, Bool.not_true, Bool.not_false, dAbs_i]
      have : (if fm e f g a b' c d' < 0 then -fm e f g a b' c d' else fm e f g a b' c d') = f := by split <;> omega
      rw [this, u1, u3]
    · refine .inr ?_
      have hd2 : b' * c - a * d' = 1 ∨ b' * c - a * d' = -1 := by omega
      have hd3 : d' * a - c * b' = 1 ∨ d' * a - c * b' = -1 := by
        have : d' * a - c * b' = a * d' - b' * c := by grind
        rw [this]; exact hd'
      have ps : 0 < fw e f g b' d' := fw_pos (b := a) (d := c) he hf hf' hg hd2
      have es : fm e f g b' a d' c = fm e f g a b' c d' := by unfold fm; grind
      simp only [decide_eq_false hle, un1_c, un2_c, un3_c, un4_c, un5_c, o_pure, o_bind, o_some, o_lift, flat_n, flat_tt, flat_tl, flats_nil, flats_cons, List.append_nil, List.cons_append, List.nil_append, dIx_t, dIx_l, at0, at1, at2, at3, dAdd_ii, dSub_ii, dNeg_i, dLt_ii, dLe_ii, dGt_ii, dGe_ii, dEq_i2, dNe_i2, dNe_bb, dEq_bb, dTruth_b, dBool_b, dInt_i, dLen_l, dLen_t, dTuple_l, dTuple_t, dIter_l, dIter_t, if_true, Bool.false_eq_true, if_false, Bool.not_true, Bool.not_false]
      obtain ⟨n', rfl⟩ : ∃ n', n = n' + 1 := ⟨n - 1, by omega⟩
      refine ⟨_, n', rfl, rfl, b', a, d', c, hd2, ?_, ⟨ps, by omega⟩, by omega, by omega⟩
      rw [es]
/-! ### changes -/
theorem dIx_run {xs : List D} {d : Int} (d0 : 0 ≤ d) (d1 : d < xs.length) : ∃ x ∈ xs, dIx (.list xs) (.int d) = some x := by
  have e : atI xs d = some (xs[d.toNat]'(by omega)) := by
    have := atI_nat (xs := xs) (j := d.toNat) (List.getElem?_eq_getElem (by omega))
    rwa [Int.toNat_of_nonneg d0] at this
  exact ⟨_, List.getElem_mem (by omega), e⟩
theorem t1 {a b c d : Int} : m_law_times [M4 1 1 0 1, M4 a b c d] = some (M4 (1 * a + (1 * c + 0)) (1 * b + (1 * d + 0)) (0 * a + (1 * c + 0)) (0 * b + (1 * d + 0))) := rfl
theorem t2 {a b c d : Int} : m_law_times [M4 1 0 1 1, M4 a b c d] = some (M4 (1 * a + (0 * c + 0)) (1 * b + (0 * d + 0)) (1 * a + (1 * c + 0)) (1 * b + (1 * d + 0))) := rfl
theorem t3 {a b c d : Int} : m_law_times [M4 0 1 1 0, M4 a b c d] = some (M4 (0 * a + (1 * c + 0)) (0 * b + (1 * d + 0)) (1 * a + (0 * c + 0)) (1 * b + (0 * d + 0))) := rfl
theorem t4 {a b c d : Int} : m_law_times [M4 1 0 0 (-1), M4 a b c d] = some (M4 (1 * a + (0 * c + 0)) (1 * b + (0 * d + 0)) (0 * a + ((-1) * c + 0)) (0 * b + ((-1) * d + 0))) := rfl
theorem t5 {a b c d : Int} : m_law_times [M4 1 (-1) 0 1, M4 a b c d] = some (M4 (1 * a + ((-1) * c + 0)) (1 * b + ((-1) * d + 0)) (0 * a + (1 * c + 0)) (0 * b + (1 * d + 0))) := rfl
theorem step_ok {p q r s a b c d : Int} {B : Int} (hp : (p, q, r, s) ∈ [((1 : Int), (1 : Int), (0 : Int), (1 : Int)), (1, 0, 1, 1), (0, 1, 1, 0), (1, 0, 0, -1), (1, -1, 0, 1)]) (hd : a * d - b * c = 1 ∨ a * d - b * c = -1)
    (ha : -B ≤ a ∧ a ≤ B) (hb : -B ≤ b ∧ b ≤ B) (hc : -B ≤ c ∧ c ≤ B) (hdd : -B ≤ d ∧ d ≤ B) : ∃ a' b' c' d' : Int, m_law_times [M4 p q r s, M4 a b c d] = some (M4 a' b' c' d') ∧
      (a' * d' - b' * c' = 1 ∨ a' * d' - b' * c' = -1) ∧ (-(2 * B) ≤ a' ∧ a' ≤ 2 * B) ∧ (-(2 * B) ≤ b' ∧ b' ≤ 2 * B) ∧ (-(2 * B) ≤ c' ∧ c' ≤ 2 * B) ∧ (-(2 * B) ≤ d' ∧ d' ≤ 2 * B) := by
  simp only [List.mem_cons, List.not_mem_nil, or_false, Prod.mk.injEq] at hp
  rcases hp with ⟨rfl, rfl, rfl, rfl⟩ | ⟨rfl, rfl, rfl, rfl⟩ | ⟨rfl, rfl, rfl, rfl⟩ | ⟨rfl, rfl, rfl, rfl⟩ | ⟨rfl, rfl, rfl, rfl⟩
  · refine ⟨_, _, _, _, t1, ?_, by omega, by omega, by omega, by omega⟩
    have : (1 * a + (1 * c + 0)) * (0 * b + (1 * d + 0)) - (1 * b + (1 * d + 0)) * (0 * a + (1 * c + 0)) = a * d - b * c := by grind
    rw [this]; exact hd
  · refine ⟨_, _, _, _, t2, ?_, by omega, by omega, by omega, by omega⟩
    have : (1 * a + (0 * c + 0)) * (1 * b + (1 * d + 0)) - (1 * b + (0 * d + 0)) * (1 * a + (1 * c + 0)) = a * d - b * c := by grind
    rw [this]; exact hd
  · refine ⟨_, _, _, _, t3, ?_, by omega, by omega, by omega, by omega⟩
    have : (0 * a + (1 * c + 0)) * (1 * b + (0 * d + 0)) - (0 * b + (1 * d + 0)) * (1 * a + (0 * c + 0)) = -(a * d - b * c) := by grind
    rw [this]; omega
  · refine ⟨_, _, _, _, t4, ?_, by omega, by omega, by omega, by omega⟩
    have : (1 * a + (0 * c + 0)) * (0 * b + ((-1) * d + 0)) - (1 * b + (0 * d + 0)) * (0 * a + ((-1) * c + 0)) = -(a * d - b * c) := by grind
    rw [this]; omega
  · refine ⟨_, _, _, _, t5, ?_, by omega, by omega, by omega, by omega⟩
    have : (1 * a + ((-1) * c + 0)) * (0 * b + (1 * d + 0)) - (1 * b + ((-1) * d + 0)) * (0 * a + (1 * c + 0)) = a * d - b * c := by grind
    rw [this]; exact hd
theorem pow_le8 : ∀ k : Nat, k ≤ 8 → 1 ≤ ((2 ^ k : Nat) : Int) ∧ ((2 ^ k : Nat) : Int) ≤ 256 := by decide
theorem change_run {k : Int} {K : D → Prop} (h0 : 0 ≤ k) (h1 : k ≤ 8) (h : ∀ a b c d : Int, (a * d - b * c = 1 ∨ a * d - b * c = -1) → B8 a → B8 b → B8 c → B8 d → K (M4 a b c d)) : PM.run (m_law_change [tokA, .int k]) K := by
  simp only [m_law_change, un2_c, PM.run_bind, PM.run_pure]
  refine run_l (a := rgL 0 k.toNat) (rng1 (by omega) (by omega)) ?_
  refine run_forB (fun s xs => ∃ (a b c d : Int) (n : Nat), s = M4 a b c d ∧ n + xs.length ≤ 8 ∧ (a * d - b * c = 1 ∨ a * d - b * c = -1) ∧ (-((2 ^ n : Nat) : Int) ≤ a ∧ a ≤ ((2 ^ n : Nat) : Int)) ∧ (-((2 ^ n : Nat) : Int) ≤ b ∧ b ≤ ((2 ^ n : Nat) : Int)) ∧ (-((2 ^ n : Nat) : Int) ≤ c ∧ c ≤ ((2 ^ n : Nat) : Int)) ∧ (-((2 ^ n : Nat) : Int) ≤ d ∧ d ≤ ((2 ^ n : Nat) : Int))) ⟨1, 0, 0, 1, 0, rfl, by rw [rgL_len]; omega, by decide, by decide, by decide, by decide, by decide⟩ (fun s x xs hs => ?_) fun s hs => ?_
  · obtain ⟨a, b, c, d, n, rfl, hn, hd, ha, hb, hc, hdd⟩ := hs
    simp only [PM.run_bind, PM.run_pure]
    refine run_dA (by decide) (by decide) fun e e0 e1 => ?_
    obtain ⟨y, hy, ey⟩ := dIx_run (xs := [M4 1 1 0 1, M4 1 0 1 1, M4 0 1 1 0, M4 1 0 0 (-1), M4 1 (-1) 0 1]) e0 e1
    rw [ey, run_ls]
    obtain ⟨p, q, r, s, rfl, hp⟩ : ∃ p q r s : Int, y = M4 p q r s ∧ (p, q, r, s) ∈ [((1 : Int), (1 : Int), (0 : Int), (1 : Int)), (1, 0, 1, 1), (0, 1, 1, 0), (1, 0, 0, -1), (1, -1, 0, 1)] := by
      simp only [List.mem_cons, List.not_mem_nil, or_false] at hy
      rcases hy with rfl | rfl | rfl | rfl | rfl
      · exact ⟨_, _, _, _, rfl, by decide⟩
      · exact ⟨_, _, _, _, rfl, by decide⟩
      · exact ⟨_, _, _, _, rfl, by decide⟩
      · exact ⟨_, _, _, _, rfl, by decide⟩
      · exact ⟨_, _, _, _, rfl, by decide⟩
    obtain ⟨a', b', c', d', et, hd', ha', hb', hc', hdd'⟩ := step_ok hp hd ha hb hc hdd
    rw [et, run_ls]
    rw [List.length_cons] at hn
    have e2 : ((2 ^ (n + 1) : Nat) : Int) = 2 * ((2 ^ n : Nat) : Int) := by rw [Nat.pow_succ]; omega
    refine ⟨a', b', c', d', n + 1, rfl, by omega, hd', ?_, ?_, ?_, ?_⟩ <;> (rw [e2]; assumption)
  · obtain ⟨a, b, c, d, n, rfl, hn, hd, ha, hb, hc, hdd⟩ := hs
    have := pow_le8 n (by simpa using hn)
    exact h a b c d hd (by unfold B8; omega) (by unfold B8; omega) (by unfold B8; omega) (by unfold B8; omega)
/-! ### counting -/
theorem sure_cnt {m : Type → Type} [PM m] {f : D → D → m D} {n : D → Int} : ∀ (xs : List D) (s : Int), (∀ s : Int, ∀ x ∈ xs, Sure (f (.int s) x) (.int (s + n x))) → Sure (forB f (.int s) xs) (.int (s + (xs.map n).sum))
  | [], s, _ => by
    have : s + (([] : List D).map n).sum = s := by simp
    rw [this]; exact sure_p
  | x :: xs, s, h => by
    have e : s + ((x :: xs).map n).sum = (s + n x) + (xs.map n).sum := by rw [List.map_cons, List.sum_cons]; omega
    rw [e]
    exact sure_b (h s x List.mem_cons_self) (sure_cnt xs _ fun s y hy => h s y (List.mem_cons_of_mem _ hy))
theorem bx_rg : rgL (-2) 5 = bx.map PyData.int := rfl
theorem dIn_one {x : Int} : dIn (.int x) (.list [.int 1, .int (-1)]) = some (.bool (decide (x = 1) || decide (x = -1))) := by
  have h : dIn (.int x) (.list [.int 1, .int (-1)]) = some (.bool ([PyData.int 1, .int (-1)].any fun z => PyData.eqv z (.int x))) := rfl
  rw [h]
  have e1 : ∀ i : Int, PyData.eqv (.int i) (.int x) = decide (x = i) := fun i => by
    rw [Bool.eq_iff_iff, decide_eq_true_eq]
    simp only [PyData.eqv, beq_iff_eq]
    exact eq_comm
  simp only [List.any_cons, List.any_nil, e1, Bool.or_false]
theorem eqv_t3 {a b c p q r : Int} : PyData.eqv (.tuple [.int a, .int b, .int c]) (.tuple [.int p, .int q, .int r]) = (decide (a = p) && (decide (b = q) && decide (c = r))) := by
  rw [Bool.eq_iff_iff]
  simp [PyData.eqv, PyData.eqvAll]
theorem dEq_t3 {a b c p q r : Int} : dEq (.tuple [.int a, .int b, .int c]) (.tuple [.int p, .int q, .int r]) = some (.bool (decide (a = p) && (decide (b = q) && decide (c = r)))) := by
  rw [dEq_t (by simp [cmpOk, PyData.plain, PyData.plainAll, PyData.depth, PyData.depthAll]), eqv_t3]
theorem dNe_t3 {a b c p q r : Int} : dNe (.tuple [.int a, .int b, .int c]) (.tuple [.int p, .int q, .int r]) = some (.bool (!(decide (a = p) && (decide (b = q) && decide (c = r))))) := by
  rw [dNe_t (by simp [cmpOk, PyData.plain, PyData.plainAll, PyData.depth, PyData.depthAll]), eqv_t3]
theorem cnd_b {e f g a b c d : Int} : cnd e f g a b c d = ((decide (a * d - b * c = 1) || decide (a * d - b * c = -1)) && (decide (fw e f g a c = e) && (decide (fm e f g a b c d = f) && decide (fw e f g b d = g)))) := by
  unfold cnd
  rw [Bool.eq_iff_iff]
  simp only [Bool.and_eq_true, decide_eq_true_eq (p := _ = _)]
  exact and_congr Iff.rfl ⟨fun h => of_decide_eq_true h, fun h => decide_eq_true h⟩
/-! ### sorts -/
def nm (z s w : Bool) : D := .str (if z then (if s then "square" else "long") else if w then (if s then "six" else "rhomb") else if s then "rhomb" else "slant")
theorem sort_eq {E F G e f g : Int} (h : m_least_form [.tuple [.int E, .int F, .int G]] = some (.tuple [.int e, .int f, .int g])) : m_net_sort [.tuple [.int E, .int F, .int G]] = some (nm (decide (f = 0)) (decide (e = g)) (decide (2 * f = e))) := by
  have m2 : ∀ i : Int, dMul (.int 2) (.int i) = some (.int (2 * i)) := fun i => dMul_l (by omega)
  simp only [m_net_sort, un1_c, o_lift, o_bind, h, o_some, un1_c, un2_c, un3_c, un4_c, un5_c, o_pure, o_bind, o_some, o_lift, flat_n, flat_tt, flat_tl, flats_nil, flats_cons, List.append_nil, List.cons_append, List.nil_append, dIx_t, dIx_l, at0, at1, at2, at3, dAdd_ii, dSub_ii, dNeg_i, dLt_ii, dLe_ii, dGt_ii, dGe_ii, dEq_i2, dNe_i2, dNe_bb, dEq_bb, dTruth_b, dBool_b, dInt_i, dLen_l, dLen_t, dTuple_l, dTuple_t, dIter_l, dIter_t, if_true, Bool.false_eq_true, if_false, Bool.not_true, Bool.not_false, m2]
  cases decide (f = 0) <;> cases decide (e = g) <;> cases decide (2 * f = e) <;> rfl
theorem pick_eq {z s w : Bool} : dPick [(.inr "square"), (.inr "six"), (.inr "long"), (.inr "rhomb"), (.inr "slant")] [.int 8, .int 12, .int 4, .int 4, .int 2] (nm z s w) = some (.int (num z s w)) := by
  cases z <;> cases s <;> cases w <;> refine isS_eq ?_ <;> decide +kernel
theorem count_eq {E F G e f g : Int} (h : m_least_form [.tuple [.int E, .int F, .int G]] = some (.tuple [.int e, .int f, .int g])) : m_count_changes [.tuple [.int E, .int F, .int G]] = some (.int (num (decide (f = 0)) (decide (e = g)) (decide (2 * f = e)))) := by
  simp only [m_count_changes, un1_c, un2_c, un3_c, un4_c, un5_c, o_pure, o_bind, o_some, o_lift, flat_n, flat_tt, flat_tl, flats_nil, flats_cons, List.append_nil, List.cons_append, List.nil_append, dIx_t, dIx_l, at0, at1, at2, at3, dAdd_ii, dSub_ii, dNeg_i, dLt_ii, dLe_ii, dGt_ii, dGe_ii, dEq_i2, dNe_i2, dNe_bb, dEq_bb, dTruth_b, dBool_b, dInt_i, dLen_l, dLen_t, dTuple_l, dTuple_t, dIter_l, dIter_t, if_true, Bool.false_eq_true, if_false, Bool.not_true, Bool.not_false, sort_eq h, pick_eq]
theorem nm_str {z s w : Bool} : dNe (nm z s w) (nm z s w) = some (.bool false) := by cases z <;> cases s <;> cases w <;> rfl
theorem cut {P Q : Prop} (p : P) (h : P → Q) : Q := h p
theorem law_true : PM.run m_law fun p => p = PyData.bool true := by
  unfold m_law
  rw [PM.run_bind, PM.run_bind]
  refine run_l (a := rgL 0 3) rfl ?_
  refine run_forO (fun _ _ => True) trivial (fun _ k _ _ => ?_) fun s _ => ?_
  · simp only [PM.run_bind, PM.run_pure]
    refine run_dA (by omega) (by omega) fun g0 hg0 hg1 => ?_
    rw [dAdd_ii, run_ls]
    have hg : 1 ≤ 1 + g0 ∧ 1 + g0 ≤ 40 := by omega
    generalize 1 + g0 = g at hg ⊢
    refine run_dA (by omega) (by omega) fun e0 he0 he1 => ?_
    rw [dAdd_ii, run_ls]
    refine run_dA (by omega) (by omega) fun p hp0 hp1 => ?_
    obtain ⟨ed, hed, ee⟩ := dIx_run (xs := [.int g, .int (1 + e0)]) hp0 hp1
    rw [ee, run_ls]
    obtain ⟨e, rfl, he⟩ : ∃ e : Int, ed = .int e ∧ (1 ≤ e ∧ e ≤ g) := by
      simp only [List.mem_cons, List.not_mem_nil, or_false] at hed
      rcases hed with rfl | rfl
      · exact ⟨_, rfl, by omega⟩
      · exact ⟨_, rfl, by omega⟩
    have d2 : dDiv (.int e) (.int 2) = some (.int (e.fdiv 2)) := dDiv_s (by decide) (by decide)
    have h2 : 0 ≤ e.fdiv 2 ∧ 2 * e.fdiv 2 ≤ e := by
      rw [Int.fdiv_eq_ediv_of_nonneg _ (by decide)]; omega
    simp only [d2, run_ls, dAdd_ii]
    generalize e.fdiv 2 = h at h2 ⊢
    refine run_dA (by omega) (by omega) fun f0 hf0 hf1 => ?_
    refine run_dA (by omega) (by omega) fun q hq0 hq1 => ?_
    obtain ⟨fd, hfd, fe⟩ := dIx_run (xs := [.int 0, .int h, .int f0]) hq0 hq1
    rw [fe, run_ls]
    obtain ⟨f, rfl, hf⟩ : ∃ f : Int, fd = .int f ∧ (0 ≤ f ∧ 2 * f ≤ e) := by
      simp only [List.mem_cons, List.not_mem_nil, or_false] at hfd
      rcases hfd with rfl | rfl | rfl
      · exact ⟨_, rfl, by omega⟩
      · exact ⟨_, rfl, by omega⟩
      · exact ⟨_, rfl, by omega⟩
    have i1 : decide (0 ≤ 2 * f) = true := decide_eq_true (by omega)
    have i2 : decide (2 * f ≤ e) = true := decide_eq_true hf.2
    have i3 : decide (e ≤ g) = true := decide_eq_true he.2
    rw [isl_eq, i1, i2, i3, run_ls]
    have ib : (dIsNotB (.bool (true && (true && true))) (.bool true)).bind dBool = some false := rfl
    simp only [ib, PM.run_bind, PM.run_pure, run_ls, run_if, thenT_nx, thenT_rt, thenO_nx, thenO_rt, Bool.false_eq_true, if_false]
    refine run_dA (by omega) (by omega) fun n hn0 hn1 => ?_
    refine change_run hn0 (by omega) fun a b c d hd ha hb hc hdd => ?_
    have l1 := least_eq (by omega) hf.2 hf.1 he.2 hg.2 hd ha hb hc hdd
    have l2 := least_eq (a := 1) (b := 0) (c := 0) (d := 1) (by omega) hf.2 hf.1 he.2 hg.2 (by decide) (by decide) (by decide) (by decide) (by decide)
    have j1 : fw e f g 1 0 = e := by unfold fw; omega
    have j2 : fm e f g 1 0 0 1 = f := by unfold fm; omega
    have j3 : fw e f g 0 1 = g := by unfold fw; omega
    rw [j1, j2, j3] at l2
    rw [led_eq ha hb hc hdd (by omega) (by omega) (by omega), run_ls, l1, run_ls, dNe_t3]
    have m2 : ∀ i : Int, dMul (.int 2) (.int i) = some (.int (2 * i)) := fun i => dMul_l (by omega)
    have so := sort_eq l1
    have co := count_eq l1
    have il : m_is_least [.tuple [.int (fw e f g a c), .int (fm e f g a b c d), .int (fw e f g b d)]] = _ := isl_eq
    generalize fw e f g a c = E at *
    generalize fm e f g a b c d = F at *
    generalize fw e f g b d = G at *
    have ns : dNe (.tuple [.int e, .int f, .int g]) (.tuple [.int e, .int f, .int g]) = some (.bool false) := by rw [dNe_t3]; simp
    have pb : ∀ u : Bool, plainB PyData.isBool (.bool u) = some (.bool true) := fun u => rfl
    rw [← dNe_t3]
    simp only [ns, l2, il, pb, m2, un1_c, un2_c, un3_c, un4_c, un5_c, o_pure, o_bind, o_some, o_lift, flat_n, flat_tt, flat_tl, flats_nil, flats_cons, List.append_nil, List.cons_append, List.nil_append, dIx_t, dIx_l, at0, at1, at2, at3, dAdd_ii, dSub_ii, dNeg_i, dLt_ii, dLe_ii, dGt_ii, dGe_ii, dEq_i2, dNe_i2, dNe_bb, dEq_bb, dTruth_b, dBool_b, dInt_i, dLen_l, dLen_t, dTuple_l, dTuple_t, dIter_l, dIter_t, if_true, Bool.false_eq_true, if_false, Bool.not_true, Bool.not_false, PM.run_bind, PM.run_pure, run_ls, run_if, thenT_nx, thenT_rt, thenO_nx, thenO_rt]
    have x2 : decide (0 ≤ 2 * F) = decide (0 ≤ F) := decide_eq_decide.mpr (by omega)
    rw [x2]
    apply cut
    case h =>
      intro hR
      generalize decide (0 ≤ F) = x
      generalize decide (2 * F ≤ E) = y
      generalize decide (E ≤ G) = z
      cases x <;> cases y <;> cases z <;> simp only [un1_c, un2_c, un3_c, un4_c, un5_c, o_pure, o_bind, o_some, o_lift, flat_n, flat_tt, flat_tl, flats_nil, flats_cons, List.append_nil, List.cons_append, List.nil_append, dIx_t, dIx_l, at0, at1, at2, at3, dAdd_ii, dSub_ii, dNeg_i, dLt_ii, dLe_ii, dGt_ii, dGe_ii, dEq_i2, dNe_i2, dNe_bb, dEq_bb, dTruth_b, dBool_b, dInt_i, dLen_l, dLen_t, dTuple_l, dTuple_t, dIter_l, dIter_t, if_true, Bool.false_eq_true, if_false, Bool.not_true, Bool.not_false, PM.run_bind, PM.run_pure, run_ls, run_if, thenT_nx, thenT_rt, thenO_nx, thenO_rt, Bool.and_true, Bool.and_false, Bool.true_and, Bool.false_and, bne_self_eq_false] <;> exact hR
    refine run_l (a := rgL (-2) 5) rfl ?_
    refine run_s (sure_cnt (n := fun a => ((rgL (-2) 5).map fun b => ((rgL (-2) 5).map fun c => ((rgL (-2) 5).map fun d => if cnd e f g (iOf a) (iOf b) (iOf c) (iOf d) then (1 : Int) else 0).sum).sum).sum) (rgL (-2) 5) 0 (fun s a ha K hK => ?_)) ?_
    · simp only [PM.run_bind, PM.run_pure]
      refine run_l (a := rgL (-2) 5) rfl ?_
      refine run_s (sure_cnt (n := fun b => ((rgL (-2) 5).map fun c => ((rgL (-2) 5).map fun d => if cnd e f g (iOf a) (iOf b) (iOf c) (iOf d) then (1 : Int) else 0).sum).sum) (rgL (-2) 5) s (fun s b hb K hK => ?_)) hK
      simp only [PM.run_bind, PM.run_pure]
      refine run_l (a := rgL (-2) 5) rfl ?_
      refine run_s (sure_cnt (n := fun c => ((rgL (-2) 5).map fun d => if cnd e f g (iOf a) (iOf b) (iOf c) (iOf d) then (1 : Int) else 0).sum) (rgL (-2) 5) s (fun s c hc K hK => ?_)) hK
      simp only [PM.run_bind, PM.run_pure]
      refine run_l (a := rgL (-2) 5) rfl ?_
      refine run_s (sure_cnt (n := fun d => if cnd e f g (iOf a) (iOf b) (iOf c) (iOf d) then (1 : Int) else 0) (rgL (-2) 5) s (fun s d hd K hK => ?_)) hK
      rw [bx_rg] at ha hb hc hd
      obtain ⟨a, ha', rfl⟩ := List.mem_map.mp ha
      obtain ⟨b, hb', rfl⟩ := List.mem_map.mp hb
      obtain ⟨c, hc', rfl⟩ := List.mem_map.mp hc
      obtain ⟨d, hd', rfl⟩ := List.mem_map.mp hd
      have ba : B8 a := by have := bx_mem ha'; unfold B8; omega
      have bb : B8 b := by have := bx_mem hb'; unfold B8; omega
      have bc : B8 c := by have := bx_mem hc'; unfold B8; omega
      have bd : B8 d := by have := bx_mem hd'; unfold B8; omega
      have m1 : ∀ i : Int, dMul (.int a) (.int i) = some (.int (a * i)) := fun i => dMul_l (by omega)
      have m2 : ∀ i : Int, dMul (.int b) (.int i) = some (.int (b * i)) := fun i => dMul_l (by omega)
      have le := led_eq (e := e) (f := f) (g := g) ba bb bc bd (by omega) (by omega) (by omega)
      simp only [iOf_i] at hK
      rw [cnd_b] at hK
      simp only [m1, m2, dIn_one, le, dEq_t3, un1_c, un2_c, un3_c, un4_c, un5_c, o_pure, o_bind, o_some, o_lift, flat_n, flat_tt, flat_tl, flats_nil, flats_cons, List.append_nil, List.cons_append, List.nil_append, dIx_t, dIx_l, at0, at1, at2, at3, dAdd_ii, dSub_ii, dNeg_i, dLt_ii, dLe_ii, dGt_ii, dGe_ii, dEq_i2, dNe_i2, dNe_bb, dEq_bb, dTruth_b, dBool_b, dInt_i, dLen_l, dLen_t, dTuple_l, dTuple_t, dIter_l, dIter_t, if_true, Bool.false_eq_true, if_false, Bool.not_true, Bool.not_false, PM.run_bind, PM.run_pure, run_ls, run_if, thenT_nx, thenT_rt, thenO_nx, thenO_rt]
      generalize (decide (a * d - b * c = 1) || decide (a * d - b * c = -1)) = u at hK ⊢
      generalize (decide (fw e f g a c = e) && (decide (fm e f g a b c d = f) && decide (fw e f g b d = g))) = v at hK ⊢
      cases u <;> cases v <;> simp only [un1_c, un2_c, un3_c, un4_c, un5_c, o_pure, o_bind, o_some, o_lift, flat_n, flat_tt, flat_tl, flats_nil, flats_cons, List.append_nil, List.cons_append, List.nil_append, dIx_t, dIx_l, at0, at1, at2, at3, dAdd_ii, dSub_ii, dNeg_i, dLt_ii, dLe_ii, dGt_ii, dGe_ii, dEq_i2, dNe_i2, dNe_bb, dEq_bb, dTruth_b, dBool_b, dInt_i, dLen_l, dLen_t, dTuple_l, dTuple_t, dIter_l, dIter_t, if_true, Bool.false_eq_true, if_false, Bool.not_true, Bool.not_false, PM.run_bind, PM.run_pure, run_ls, run_if, thenT_nx, thenT_rt, thenO_nx, thenO_rt, Bool.and_true, Bool.and_false, Bool.true_and, Bool.false_and, Int.add_zero] at hK ⊢ <;> exact hK
    · have hk : (0 : Int) + ((rgL (-2) 5).map fun a => ((rgL (-2) 5).map fun b => ((rgL (-2) 5).map fun c => ((rgL (-2) 5).map fun d => if cnd e f g (iOf a) (iOf b) (iOf c) (iOf d) then (1 : Int) else 0).sum).sum).sum).sum = num (decide (f = 0)) (decide (e = g)) (decide (2 * f = e)) := by
        rw [← kept_eq (by omega) hf.2 hf.1 he.2, Int.zero_add, bx_rg]
        simp only [List.map_map, Function.comp_def, iOf_i]
        rfl
      rw [hk, co, run_ls]
      generalize decide (f = 0) = x at *
      generalize decide (e = g) = y at *
      generalize decide (2 * f = e) = z at *
      have pk := @pick_eq x y z
      have ns2 := @nm_str x y z
      cases x <;> cases y <;> cases z <;> simp only [nm, num, if_true, if_false, Bool.false_eq_true] at so pk ns2 ⊢ <;> simp only [so, pk, ns2, un1_c, un2_c, un3_c, un4_c, un5_c, o_pure, o_bind, o_some, o_lift, flat_n, flat_tt, flat_tl, flats_nil, flats_cons, List.append_nil, List.cons_append, List.nil_append, dIx_t, dIx_l, at0, at1, at2, at3, dAdd_ii, dSub_ii, dNeg_i, dLt_ii, dLe_ii, dGt_ii, dGe_ii, dEq_i2, dNe_i2, dNe_bb, dEq_bb, dTruth_b, dBool_b, dInt_i, dLen_l, dLen_t, dTuple_l, dTuple_t, dIter_l, dIter_t, if_true, Bool.false_eq_true, if_false, Bool.not_true, Bool.not_false, PM.run_bind, PM.run_pure, run_ls, run_if, thenT_nx, thenT_rt, thenO_nx, thenO_rt, eq_self, decide_true] <;> exact ⟨(), trivial, trivial⟩
  · cases s
    refine run_by isT (fun _ => isT_eq) ?_
    decide +kernel
end Qv.k16

set_option maxHeartbeats 4000000
namespace Qv.k16
open PySem PySem.Spec PyProof.Rows L2
theorem all_mk {l : PySem.W.OpenLaw} {w : World} {K : PySem.W.Frag} {h : Heap} {mg : Str → Option Value} {fa : Addr} (hx : PM.run m_law fun p => p = .bool true) (X : K.In h) (G : h.Ns mainGlobals mg) (hfa : mg "law" = some (.ref fa))
    {oa0 ob0 : Option Addr} {os0 : Array (Option Value)} {ov0 kv0 dv0 pv0 cv0 tv0 : Value} {f0 : Addr}
    {oa1 ob1 : Option Addr} {os1 : Array (Option Value)} {ov1 kv1 dv1 pv1 cv1 tv1 : Value} {f1 : Addr}
    {oa2 ob2 : Option Addr} {os2 : Array (Option Value)} {ov2 kv2 dv2 pv2 cv2 tv2 : Value} {f2 : Addr}
    {oa3 ob3 : Option Addr} {os3 : Array (Option Value)} {ov3 kv3 dv3 pv3 cv3 tv3 : Value} {f3 : Addr}
    {oa4 ob4 : Option Addr} {os4 : Array (Option Value)} {ov4 kv4 dv4 pv4 cv4 tv4 : Value} {f4 : Addr}
    {oa5 ob5 : Option Addr} {os5 : Array (Option Value)} {ov5 kv5 dv5 pv5 cv5 tv5 : Value} {f5 : Addr}
    {oa6 ob6 : Option Addr} {os6 : Array (Option Value)} {ov6 kv6 dv6 pv6 cv6 tv6 : Value} {f6 : Addr}
    {oa7 ob7 : Option Addr} {os7 : Array (Option Value)} {ov7 kv7 dv7 pv7 cv7 tv7 : Value} {f7 : Addr}
    {oa8 ob8 : Option Addr} {os8 : Array (Option Value)} {ov8 kv8 dv8 pv8 cv8 tv8 : Value} {f8 : Addr}
    {oa9 ob9 : Option Addr} {os9 : Array (Option Value)} {ov9 kv9 dv9 pv9 cv9 tv9 : Value} {f9 : Addr}
    {oa10 ob10 : Option Addr} {os10 : Array (Option Value)} {ov10 kv10 dv10 pv10 cv10 tv10 : Value} {f10 : Addr}
    (a0 : PySem.W.nsIn K mainGlobals "_law_state" = some (some (.ref f0))) (l0 : K.lookup f0 = some ⟨ov0, oa0, .func (PySem.W.fnOf "_law_state" "_law_state" (defArgs s_law_state) (defBody s_law_state) (defScope s_law_state) .none kv0 dv0 pv0 ob0 cv0 tv0), os0⟩) (c0 : PySem.W.codeIn K cv0 "_law_state" = true) (k0 : PySem.W.keepIn K (.ref f0) = true)
    (a1 : PySem.W.nsIn K mainGlobals "_law_times" = some (some (.ref f1))) (l1 : K.lookup f1 = some ⟨ov1, oa1, .func (PySem.W.fnOf "_law_times" "_law_times" (defArgs s_law_times) (defBody s_law_times) (defScope s_law_times) .none kv1 dv1 pv1 ob1 cv1 tv1), os1⟩) (c1 : PySem.W.codeIn K cv1 "_law_times" = true) (k1 : PySem.W.keepIn K (.ref f1) = true)
    (a2 : PySem.W.nsIn K mainGlobals "_law_draw" = some (some (.ref f2))) (l2 : K.lookup f2 = some ⟨ov2, oa2, .func (PySem.W.fnOf "_law_draw" "_law_draw" (defArgs s_law_draw) (defBody s_law_draw) (defScope s_law_draw) .none kv2 dv2 pv2 ob2 cv2 tv2), os2⟩) (c2 : PySem.W.codeIn K cv2 "_law_draw" = true) (k2 : PySem.W.keepIn K (.ref f2) = true)
    (a3 : PySem.W.nsIn K mainGlobals "_law_change" = some (some (.ref f3))) (l3 : K.lookup f3 = some ⟨ov3, oa3, .func (PySem.W.fnOf "_law_change" "_law_change" (defArgs s_law_change) (defBody s_law_change) (defScope s_law_change) .none kv3 dv3 pv3 ob3 cv3 tv3), os3⟩) (c3 : PySem.W.codeIn K cv3 "_law_change" = true) (k3 : PySem.W.keepIn K (.ref f3) = true)
    (a4 : PySem.W.nsIn K mainGlobals "_law_worth" = some (some (.ref f4))) (l4 : K.lookup f4 = some ⟨ov4, oa4, .func (PySem.W.fnOf "_law_worth" "_law_worth" (defArgs s_law_worth) (defBody s_law_worth) (defScope s_law_worth) .none kv4 dv4 pv4 ob4 cv4 tv4), os4⟩) (c4 : PySem.W.codeIn K cv4 "_law_worth" = true) (k4 : PySem.W.keepIn K (.ref f4) = true)
    (a5 : PySem.W.nsIn K mainGlobals "_law_led" = some (some (.ref f5))) (l5 : K.lookup f5 = some ⟨ov5, oa5, .func (PySem.W.fnOf "_law_led" "_law_led" (defArgs s_law_led) (defBody s_law_led) (defScope s_law_led) .none kv5 dv5 pv5 ob5 cv5 tv5), os5⟩) (c5 : PySem.W.codeIn K cv5 "_law_led" = true) (k5 : PySem.W.keepIn K (.ref f5) = true)
    (a6 : PySem.W.nsIn K mainGlobals "is_least" = some (some (.ref f6))) (l6 : K.lookup f6 = some ⟨ov6, oa6, .func (PySem.W.fnOf "is_least" "is_least" (defArgs s_is_least) (defBody s_is_least) (defScope s_is_least) .none kv6 dv6 pv6 ob6 cv6 tv6), os6⟩) (c6 : PySem.W.codeIn K cv6 "is_least" = true) (k6 : PySem.W.keepIn K (.ref f6) = true)
    (a7 : PySem.W.nsIn K mainGlobals "least_form" = some (some (.ref f7))) (l7 : K.lookup f7 = some ⟨ov7, oa7, .func (PySem.W.fnOf "least_form" "least_form" (defArgs s_least_form) (defBody s_least_form) (defScope s_least_form) .none kv7 dv7 pv7 ob7 cv7 tv7), os7⟩) (c7 : PySem.W.codeIn K cv7 "least_form" = true) (k7 : PySem.W.keepIn K (.ref f7) = true)
    (a8 : PySem.W.nsIn K mainGlobals "net_sort" = some (some (.ref f8))) (l8 : K.lookup f8 = some ⟨ov8, oa8, .func (PySem.W.fnOf "net_sort" "net_sort" (defArgs s_net_sort) (defBody s_net_sort) (defScope s_net_sort) .none kv8 dv8 pv8 ob8 cv8 tv8), os8⟩) (c8 : PySem.W.codeIn K cv8 "net_sort" = true) (k8 : PySem.W.keepIn K (.ref f8) = true)
    (a9 : PySem.W.nsIn K mainGlobals "count_changes" = some (some (.ref f9))) (l9 : K.lookup f9 = some ⟨ov9, oa9, .func (PySem.W.fnOf "count_changes" "count_changes" (defArgs s_count_changes) (defBody s_count_changes) (defScope s_count_changes) .none kv9 dv9 pv9 ob9 cv9 tv9), os9⟩) (c9 : PySem.W.codeIn K cv9 "count_changes" = true) (k9 : PySem.W.keepIn K (.ref f9) = true)
    (a10 : PySem.W.nsIn K mainGlobals "law" = some (some (.ref f10))) (l10 : K.lookup f10 = some ⟨ov10, oa10, .func (PySem.W.fnOf "law" "law" (defArgs s_law) (defBody s_law) (defScope s_law) .none kv10 dv10 pv10 ob10 cv10 tv10), os10⟩) (c10 : PySem.W.codeIn K cv10 "law" = true) (k10 : PySem.W.keepIn K (.ref f10) = true)
    (y_abs : PySem.W.nsIn K mainGlobals "abs" = some none) (y_bool : PySem.W.nsIn K mainGlobals "bool" = some none) (y_int : PySem.W.nsIn K mainGlobals "int" = some none) (y_isinstance : PySem.W.nsIn K mainGlobals "isinstance" = some none) (y_len : PySem.W.nsIn K mainGlobals "len" = some none) (y_range : PySem.W.nsIn K mainGlobals "range" = some none) (y_sum : PySem.W.nsIn K mainGlobals "sum" = some none) (y_tuple : PySem.W.nsIn K mainGlobals "tuple" = some none) :
    ∃ fd : FuncData, (∀ (s : Shared) (v : Value), BindsTo s fd ⟨[v], []⟩ [("script", v)]) ∧ ∀ base : Heap, K.In base → base.Ns mainGlobals mg → FnOk l.prog w K mg base CX0 4 fa fd ["script"] (spLawA K) := by
  have e := hfa.symm.trans (PySem.W.mg_of X G a10)
  cases e
  have F0 := fun_mk (st := s_law_state) l0 c0 k0
  have h0 := PySem.W.mg_of X G a0
  have F1 := fun_mk (st := s_law_times) l1 c1 k1
  have h1 := PySem.W.mg_of X G a1
  have F2 := fun_mk (st := s_law_draw) l2 c2 k2
  have h2 := PySem.W.mg_of X G a2
  have F3 := fun_mk (st := s_law_change) l3 c3 k3
  have h3 := PySem.W.mg_of X G a3
  have F4 := fun_mk (st := s_law_worth) l4 c4 k4
  have h4 := PySem.W.mg_of X G a4
  have F5 := fun_mk (st := s_law_led) l5 c5 k5
  have h5 := PySem.W.mg_of X G a5
  have F6 := fun_mk (st := s_is_least) l6 c6 k6
  have h6 := PySem.W.mg_of X G a6
  have F7 := fun_mk (st := s_least_form) l7 c7 k7
  have h7 := PySem.W.mg_of X G a7
  have F8 := fun_mk (st := s_net_sort) l8 c8 k8
  have h8 := PySem.W.mg_of X G a8
  have F9 := fun_mk (st := s_count_changes) l9 c9 k9
  have h9 := PySem.W.mg_of X G a9
  have F10 := fun_mk (st := s_law) l10 c10 k10
  have h10 := PySem.W.mg_of X G a10
  have z_abs := PySem.W.mg_none_of X G y_abs
  have z_bool := PySem.W.mg_none_of X G y_bool
  have z_int := PySem.W.mg_none_of X G y_int
  have z_isinstance := PySem.W.mg_none_of X G y_isinstance
  have z_len := PySem.W.mg_none_of X G y_len
  have z_range := PySem.W.mg_none_of X G y_range
  have z_sum := PySem.W.mg_none_of X G y_sum
  have z_tuple := PySem.W.mg_none_of X G y_tuple
  refine ⟨PySem.W.fnOf "law" "law" (defArgs s_law) (defBody s_law) (defScope s_law) .none kv10 dv10 pv10 ob10 cv10 tv10, fun s v => .of_eq rfl, fun base _ _ => ?_⟩
  have c_law_times := ok_law_times (P := l.prog) (w := w) (base := base) F1 h1 z_range z_sum z_tuple
  have c_law_draw : FC l.prog w K mg base 1 "_law_draw" drawA := (ok_law_draw F2 h2 z_len z_int)
  have c_law_change := ok_law_change (P := l.prog) (w := w) (base := base) F3 h3 z_range c_law_draw c_law_times
  have c_law_worth := ok_law_worth (P := l.prog) (w := w) (base := base) F4 h4
  have c_law_led := ok_law_led (P := l.prog) (w := w) (base := base) F5 h5 c_law_worth
  have c_is_least := ok_is_least (P := l.prog) (w := w) (base := base) F6 h6
  have c_least_form := ok_least_form (P := l.prog) (w := w) (base := base) F7 h7 z_abs
  have c_net_sort := ok_net_sort (P := l.prog) (w := w) (base := base) F8 h8 c_least_form
  have c_count_changes := ok_count_changes (P := l.prog) (w := w) (base := base) F9 h9 c_net_sort
  exact ok_law F10 F0 h0 z_abs z_int z_bool z_isinstance z_range c_law_change c_law_draw c_law_led c_count_changes c_is_least c_least_form c_net_sort hx
end Qv.k16
open PySem PySem.W PyProof.Rows
set_option maxHeartbeats 0 in
theorem PySem.Challenge.cw_ornamentwright_k16_least_forms_and_sorts_holds : PySem.Challenge.rw_ornamentwright_k16_least_forms_and_sorts.Holds := by
  w_on; o_law; k_head; (case hw => w_witness2)
  k_fill
  refine L2.walk_of (l := PySem.Challenge.rw_ornamentwright_k16_least_forms_and_sorts) (n := 63) (k := 4) (x := "script") (CX := fun _ => L2.CX0) (sp := fun w => Qv.spLawA _) rfl (by decide) rfl ⟨rfl, by decide, by decide⟩ (fun w h Y => PySem.W.kIn_of Y) ?F (fun _ _ a ns hl hO hS => ⟨a, ns, rfl, hS, Nat.le_trans hl (by decide), fun _ => rfl⟩) (fun _ _ _ _ _ h => h)
  case F =>
    intro w mg fa h KX G hmg
    refine' Qv.k16.all_mk Qv.k16.law_true KX G hmg ?a0 ?l0 ?c0 ?k0 ?a1 ?l1 ?c1 ?k1 ?a2 ?l2 ?c2 ?k2 ?a3 ?l3 ?c3 ?k3 ?a4 ?l4 ?c4 ?k4 ?a5 ?l5 ?c5 ?k5 ?a6 ?l6 ?c6 ?k6 ?a7 ?l7 ?c7 ?k7 ?a8 ?l8 ?c8 ?k8 ?a9 ?l9 ?c9 ?k9 ?a10 ?l10 ?c10 ?k10 ?y_abs ?y_bool ?y_int ?y_isinstance ?y_len ?y_range ?y_sum ?y_tuple
    (case a0 => k_is); (case l0 => k_is); (case c0 => k_is); (case k0 => k_is); (case a1 => k_is); (case l1 => k_is); (case c1 => k_is); (case k1 => k_is); (case a2 => k_is); (case l2 => k_is); (case c2 => k_is); (case k2 => k_is); (case a3 => k_is); (case l3 => k_is); (case c3 => k_is); (case k3 => k_is); (case a4 => k_is); (case l4 => k_is); (case c4 => k_is); (case k4 => k_is); (case a5 => k_is); (case l5 => k_is); (case c5 => k_is); (case k5 => k_is); (case a6 => k_is); (case l6 => k_is); (case c6 => k_is); (case k6 => k_is); (case a7 => k_is); (case l7 => k_is); (case c7 => k_is); (case k7 => k_is); (case a8 => k_is); (case l8 => k_is); (case c8 => k_is); (case k8 => k_is); (case a9 => k_is); (case l9 => k_is); (case c9 => k_is); (case k9 => k_is); (case a10 => k_is); (case l10 => k_is); (case c10 => k_is); (case k10 => k_is); (case y_abs => k_is); (case y_bool => k_is); (case y_int => k_is); (case y_isinstance => k_is); (case y_len => k_is); (case y_range => k_is); (case y_sum => k_is); (case y_tuple => k_is)
