import PyProof.Rows.All
import Wide.All
import OpenK.AllK
import Wide.FinOn
import HandS.ForMost
import HandS.Flow
import HandS.Style
import HandS.Deep
import HandS.TupAny
import HandS.TupMul
import HandS.Wide
import HandS.Gcd
import HandS.IsInst
import KE.SortData
import KE.OsSortAny
import KE.DataEq
import KE.DataCmp
import KE.DataMinMax
import KE.DataAny
import KE.DataFind
import KE.DataIsa
import KE.DatumIndex
import KE.KTupSum
import HandS.NoneIn
import KE.KDictKeyed
import HandS.Zip
import KE.GoesMore
import HandS.Conv
import HandS.SetFor
import HandS.TupSets
import PyProof.TupleOfSeq
import HandS.ExcValue
import HandS.Strs
import HandS.DictComp
import KE.KDictSum
import KE.KDictCopyH
import KE.KDictWalk
import KE.GoesNew
import PySem.Challenge.RW_ornamentwright_k88_whole_places_with_eig
set_option Elab.async false
set_option linter.all false
set_option maxRecDepth 100000
namespace Qv
open PySem PySem.Spec PyProof.Rows L2
/-! ## plain values: the library's own data type; a mark for the script's draws -/
abbrev D := PyData
def tokD : D := .dict [(.none, .none)]
def tokA : D := .dict [(.none, .bool false)]
def scrD : D := .dict [(.none, .bool true)]

/-! ## the two monads of the mirrors -/
class PM (m : Type → Type) extends Monad m where
  run : {α : Type} → m α → (α → Prop) → Prop
  lift : {α : Type} → Option α → m α
  run_pure : ∀ {α : Type} (a : α) (K : α → Prop), run (pure a) K ↔ K a
  run_bind : ∀ {α β : Type} (x : m α) (f : α → m β) (K : β → Prop), run (x >>= f) K ↔ run x (fun a => run (f a) K)
  run_lift : ∀ {α : Type} (o : Option α) (K : α → Prop), run (lift o) K ↔ ∃ r, o = some r ∧ K r
  mono : ∀ {α : Type} {x : m α} {K K' : α → Prop}, (∀ a, K a → K' a) → run x K → run x K'
  run_no : ∀ {α : Type} (x : m α), ¬ run x (fun _ => False)
instance : PM Option where
  run := fun x K => ∃ r, x = some r ∧ K r
  lift := fun o => o
  run_pure := fun a K => ⟨fun ⟨_, e, h⟩ => by cases e; exact h, fun h => ⟨a, rfl, h⟩⟩
  run_bind := fun x f K => by
    cases x with
    | none => exact ⟨fun ⟨_, e, _⟩ => (nomatch e), fun ⟨_, e, _⟩ => (nomatch e)⟩
    | some a => exact ⟨fun h => ⟨a, rfl, h⟩, fun ⟨_, e, h⟩ => by cases e; exact h⟩
  run_lift := fun o K => Iff.rfl
  mono := fun h ⟨r, e, k⟩ => ⟨r, e, h r k⟩
  run_no := fun _ ⟨_, _, h⟩ => h
/-- whatever is drawn: what follows is asked of each draw; by computation, or as a proposition -/
structure PP (α : Type) where
  f : (α → Bool) → Bool
  mono : ∀ {K K' : α → Bool}, (∀ a, K a = true → K' a = true) → f K = true → f K' = true
  emp : f (fun _ => false) = false
instance : Monad PP where
  pure := fun a => ⟨fun K => K a, fun h k => h _ k, rfl⟩
  bind := fun x g => ⟨fun K => x.f fun a => (g a).f K, fun h k => x.mono (fun a q => (g a).mono h q) k, by
    have : (fun a => (g a).f fun _ => false) = fun _ => false := funext fun a => (g a).emp
    show (x.f fun a => (g a).f fun _ => false) = false
    rw [this]; exact x.emp⟩
def PP.run {α : Type} (x : PP α) (K : α → Prop) : Prop := ∃ b : α → Bool, (∀ a, b a = true → K a) ∧ x.f b = true
noncomputable def cb {α : Type} (K : α → Prop) (a : α) : Bool := @decide (K a) (Classical.propDecidable _)
theorem cb_t {α : Type} {K : α → Prop} {a : α} : cb K a = true ↔ K a := by unfold cb; exact @decide_eq_true_iff _ (Classical.propDecidable _)
theorem PP.run_iff {α : Type} {x : PP α} {K : α → Prop} : PP.run x K ↔ x.f (cb K) = true :=
  ⟨fun ⟨_, h, e⟩ => x.mono (fun a q => cb_t.mpr (h a q)) e, fun h => ⟨cb K, fun _ => cb_t.mp, h⟩⟩
def PP.lift {α : Type} (o : Option α) : PP α := ⟨fun K => match o with | some r => K r | none => false, fun h k => by cases o with | none => exact k | some r => exact h _ k, by cases o <;> rfl⟩
instance : PM PP where
  run := PP.run
  lift := PP.lift
  run_pure := fun a K => PP.run_iff.trans cb_t
  run_bind := fun x f K => by
    rw [PP.run_iff, PP.run_iff]
    have e : (cb fun a => PP.run (f a) K) = fun a => (f a).f (cb K) := funext fun a => by
      rw [Bool.eq_iff_iff, cb_t, PP.run_iff]
    rw [e]
    exact Iff.rfl
  run_lift := fun o K => by
    rw [PP.run_iff]
    cases o with
    | none => exact ⟨fun h => (nomatch (show false = true from h)), fun ⟨_, e, _⟩ => (nomatch e)⟩
    | some r => exact ⟨fun h => ⟨r, rfl, cb_t.mp h⟩, fun ⟨_, e, h⟩ => by cases e; exact cb_t.mpr h⟩
  mono := fun h ⟨b, k, e⟩ => ⟨b, fun a q => h a (k a q), e⟩
  run_no := fun x ⟨b, k, e⟩ => by
    have : b = fun _ => false := funext fun a => by
      cases q : b a with
      | false => rfl
      | true => exact (k a q).elim
    rw [this, x.emp] at e
    cases e
/-- every number below n -/
def allB (K : Int → Bool) : Nat → Bool
  | 0 => true
  | n + 1 => allB K n && K (n : Int)
theorem allB_iff {K : Int → Bool} : ∀ {n : Nat}, allB K n = true ↔ ∀ d : Int, 0 ≤ d → d < n → K d = true
  | 0 => ⟨fun _ d h h' => by omega, fun _ => rfl⟩
  | n + 1 => by
    rw [allB, Bool.and_eq_true, allB_iff]
    constructor
    · intro ⟨h1, h2⟩ d h h'
      by_cases e : d < n
      · exact h1 d h e
      · have : d = n := by omega
        rw [this]; exact h2
    · exact fun h => ⟨fun d a b => h d a (by omega), h n (by omega) (by omega)⟩
/-- a draw below k -/
def draw (k : Int) : PP D := ⟨fun K => decide (0 < k) && allB (fun d => K (.int d)) k.toNat, fun h q => by
  rw [Bool.and_eq_true] at q ⊢
  exact ⟨q.1, allB_iff.mpr fun d a b => h _ (allB_iff.mp q.2 d a b)⟩, by
  cases h : (decide (0 < k) && allB (fun _ => false) k.toNat) with
  | false => rfl
  | true =>
    rw [Bool.and_eq_true, decide_eq_true_iff, allB_iff] at h
    have := h.2 0 (by omega) (by omega)
    cases this⟩
theorem run_draw {k : Int} {K : D → Prop} : PM.run (draw k) K ↔ 0 < k ∧ ∀ d : Int, 0 ≤ d → d < k → K (.int d) := by
  refine PP.run_iff.trans ?_
  show (decide (0 < k) && allB (fun d => cb K (.int d)) k.toNat) = true ↔ _
  rw [Bool.and_eq_true, decide_eq_true_iff, allB_iff]
  constructor
  · exact fun ⟨h, q⟩ => ⟨h, fun d a b => cb_t.mp (q d a (by omega))⟩
  · exact fun ⟨h, q⟩ => ⟨h, fun d a b => cb_t.mpr (q d a (by omega))⟩
/-- by computation -/
theorem run_by {α : Type} {x : PP α} {K : α → Prop} (b : α → Bool) (h : ∀ a, b a = true → K a) (e : x.f b = true) : PM.run x K := ⟨b, h, e⟩

/-! ## loops of the mirrors -/
inductive Out (α : Type) where
  | nx (a : α) | rt (v : D) | bk (a : α) | ct (a : α)
section
variable {m : Type → Type} [PM m] {α β : Type}
def fail : m α := PM.lift none
def forB (f : α → D → m α) : α → List D → m α
  | s, [] => pure s
  | s, x :: xs => f s x >>= fun s' => forB f s' xs
def forO (f : α → D → m (Out α)) : α → List D → m (Out α)
  | s, [] => pure (.nx s)
  | s, x :: xs => f s x >>= fun o => match o with
    | .nx s' => forO f s' xs
    | .ct s' => forO f s' xs
    | .bk s' => pure (.nx s')
    | .rt v => pure (.rt v)
def whB (c : α → m Bool) (f : α → m α) : Nat → α → m α
  | 0, _ => fail
  | n + 1, s => c s >>= fun b => if b = true then f s >>= whB c f n else pure s
def whO (c : α → m Bool) (f : α → m (Out α)) : Nat → α → m (Out α)
  | 0, _ => fail
  | n + 1, s => c s >>= fun b => if b = true then f s >>= fun o => (match o with
    | .nx s' => whO c f n s'
    | .ct s' => whO c f n s'
    | .bk s' => pure (.nx s')
    | .rt v => pure (.rt v)) else pure (.nx s)
/-- [f x for x in xs], [.. if ..] -/
def mapD (f : D → m D) : List D → m (List D)
  | [] => pure []
  | x :: xs => f x >>= fun y => mapD f xs >>= fun ys => pure (y :: ys)
def cmpD (f : D → m (Option D)) : List D → m (List D)
  | [] => pure []
  | x :: xs => f x >>= fun o => cmpD f xs >>= fun ys => pure (match o with | some y => y :: ys | none => ys)
/-- two clauses -/
def catD (f : D → m (List D)) : List D → m (List D)
  | [] => pure []
  | x :: xs => f x >>= fun y => catD f xs >>= fun ys => pure (y ++ ys)
/-- then: behind a block that may return -/
def thenT (k : α → m D) : Out α → m D
  | .nx a => k a
  | .rt v => pure v
  | .bk _ => fail
  | .ct _ => fail
def thenO (k : α → m (Out β)) : Out α → m (Out β)
  | .nx a => k a
  | .rt v => pure (.rt v)
  | .bk _ => fail
  | .ct _ => fail
def un1 (f : D → m β) : List D → m β | [a] => f a | _ => fail
def un2 (f : D → D → m β) : List D → m β | [a, b] => f a b | _ => fail
def un3 (f : D → D → D → m β) : List D → m β | [a, b, c] => f a b c | _ => fail
def un4 (f : D → D → D → D → m β) : List D → m β | [a, b, c, d] => f a b c d | _ => fail
def un5 (f : D → D → D → D → D → m β) : List D → m β | [a, b, c, d, e] => f a b c d e | _ => fail
def un6 (f : D → D → D → D → D → D → m β) : List D → m β | [a, b, c, d, e, g] => f a b c d e g | _ => fail
end

/-! ## targets -/
inductive Pt where
  | n (i : Nat) | t (ps : List Pt)
mutual
def Pt.flat : Pt → D → Option (List D)
  | .n _, x => some [x]
  | .t ps, .tuple xs => Pt.flats ps xs
  | .t ps, .list xs => Pt.flats ps xs
  | .t _, _ => none
def Pt.flats : List Pt → List D → Option (List D)
  | [], [] => some []
  | p :: ps, x :: xs => (Pt.flat p x).bind fun a => (Pt.flats ps xs).map fun b => a ++ b
  | _, _ => none
end
mutual
def Pt.slots : Pt → List Nat
  | .n i => [i]
  | .t ps => Pt.slotss ps
def Pt.slotss : List Pt → List Nat
  | [] => []
  | p :: ps => Pt.slots p ++ Pt.slotss ps
end

theorem ifs {α : Type} {c : Prop} [Decidable c] {x z : α} (h : (if c then some x else none) = some z) : c ∧ x = z := by
  by_cases q : c
  · rw [if_pos q] at h; exact ⟨q, Option.some.inj h⟩
  · rw [if_neg q] at h; cases h
/-! ## operations -/
mutual
/-- nothing in it may change -/
def noMut : D → Bool
  | .none | .bool _ | .int _ | .str _ => true
  | .tuple xs => noMuts xs
  | .list _ => false
  | .dict _ => false
def noMuts : List D → Bool
  | [] => true
  | x :: xs => noMut x && noMuts xs
end
def imm (d : D) : Option D := if noMut d then some d else none
def immL (d : D) : Option D := match d with | .list xs => if noMuts xs then some d else none | _ => none
def line : Nat := sizeLine
def smallI (i : Int) : Bool := decide (-(2 ^ 64) < i) && decide (i < 2 ^ 64)
def dAdd : D → D → Option D
  | .int i, .int j => some (.int (i + j))
  | .tuple xs, .tuple ys => if xs.length + ys.length ≤ sizeLine then some (.tuple (xs ++ ys)) else none
  | .list xs, .list ys => if xs.length + ys.length ≤ sizeLine then some (.list (xs ++ ys)) else none
  | .str a, .str b => if a.length + b.length ≤ sizeLine then some (.str (a ++ b)) else none
  | _, _ => none
def dSub : D → D → Option D
  | .int i, .int j => some (.int (i - j))
  | _, _ => none
def dMul : D → D → Option D
  | .int i, .int j => if smallI i || smallI j || decide (i.natAbs.log2 + j.natAbs.log2 < 1000000) then some (.int (i * j)) else none
  | .list xs, .int k => if decide (-(2 ^ 63) ≤ k) && decide (k < 2 ^ 63) && decide (xs.length * k.toNat ≤ sizeLine) then some (.list (List.replicate k.toNat xs).flatten) else none
  | .tuple xs, .int k => if !xs.isEmpty && decide (2 ≤ k) && decide (k ≤ 1000) && decide (xs.length ≤ 1000) then some (.tuple (List.replicate k.toNat xs).flatten) else none
  | _, _ => none
def dDiv : D → D → Option D
  | .int i, .int j => if decide (j ≠ 0) && (decide (j.natAbs < 1073741824) || (decide (0 < j) && decide (j.natAbs.log2 < 9000))) then some (.int (i.fdiv j)) else none
  | _, _ => none
def dMod : D → D → Option D
  | .int i, .int j => if decide (j ≠ 0) then some (.int (i.fmod j)) else none
  | _, _ => none
def dNeg : D → Option D
  | .int i => some (.int (-i))
  | _ => none
def dTruth : D → Option Bool
  | .none => some false
  | .bool b => some b
  | .int i => some (i != 0)
  | .str s => if s.length ≤ sizeLine then some ((s.length : Int) != 0) else none
  | .list xs => some (!xs.isEmpty)
  | .tuple xs => some (!xs.isEmpty)
  | .dict _ => none
/-! ## equality, by computation -/
mutual
def eqD : D → D → Bool
  | .none, .none => true
  | .bool a, .bool b => a == b
  | .int i, .int j => decide (i = j)
  | .str x, .str y => decide (x = y)
  | .list xs, .list ys => eqDs xs ys
  | .tuple xs, .tuple ys => eqDs xs ys
  | _, _ => false
def eqDs : List D → List D → Bool
  | [], [] => true
  | x :: xs, y :: ys => eqD x y && eqDs xs ys
  | _, _ => false
end
mutual
theorem eqD_eq : ∀ (a b : D), eqD a b = true → a = b
  | .none, b, h => by cases b <;> first | rfl | simp [eqD] at h
  | .bool x, b, h => by
    cases b with
    | bool y => simp [eqD] at h; rw [h]
    | _ => simp [eqD] at h
  | .int x, b, h => by
    cases b with
    | int y => simp [eqD] at h; rw [h]
    | _ => simp [eqD] at h
  | .str x, b, h => by
    cases b with
    | str y => simp [eqD] at h; rw [h]
    | _ => simp [eqD] at h
  | .list x, b, h => by
    cases b with
    | list y => rw [eqD] at h; rw [eqDs_eq x y h]
    | _ => simp [eqD] at h
  | .tuple x, b, h => by
    cases b with
    | tuple y => rw [eqD] at h; rw [eqDs_eq x y h]
    | _ => simp [eqD] at h
  | .dict x, b, h => by cases b <;> simp [eqD] at h
theorem eqDs_eq : ∀ (a b : List D), eqDs a b = true → a = b
  | [], b, h => by cases b <;> first | rfl | simp [eqDs] at h
  | x :: xs, b, h => by
    cases b with
    | nil => simp [eqDs] at h
    | cons y ys =>
      simp only [eqDs, Bool.and_eq_true] at h
      rw [eqD_eq x y h.1, eqDs_eq xs ys h.2]
end
/-! ## keys: tuples of ints, nested -/
mutual
def nkD : D → Option NestedKey
  | .int i => some (.num i)
  | .tuple ds => (nksD ds).map .tup
  | _ => none
def nksD : List D → Option (List NestedKey)
  | [] => some []
  | d :: ds => (nkD d).bind fun k => (nksD ds).map (k :: ·)
end
/-- a key: a tuple -/
def keyT (d : D) : Option NestedKey := match d with | .tuple _ => (nkD d).bind fun k => if k.depth ≤ 8 then some k else none | _ => none
def dFind (ds : List (D × D)) (k : D) : Option D := (ds.find? fun p => eqD p.1 k).map (·.2)
/-- a key: an int, a text -/
def keyS : D → Option (Sum Int Str)
  | .int i => some (.inl i)
  | .str x => some (.inr x)
  | _ => none
/-- the dict's keys are tuples; are ints or texts (by the first one) -/
def okT : List (D × D) → Bool
  | [] => true
  | (.tuple _, _) :: _ => true
  | _ => false
def okS : List (D × D) → Bool
  | [] => true
  | (.int _, _) :: _ => true
  | (.str _, _) :: _ => true
  | _ => false
/-- may k be asked for -/
def kOk (ds : List (D × D)) (k : D) : Bool := (okT ds && (keyT k).isSome) || (okS ds && (keyS k).isSome)
/-- no mark -/
def okD : List (D × D) → Bool
  | (.none, _) :: _ => false
  | _ => true
def dGet1 : D → D → Option D
  | .dict ds, k => if kOk ds k then some ((dFind ds k).getD .none) else none
  | _, _ => none
def dGet2 : D → D → D → Option D
  | .dict ds, k, x => if kOk ds k then some ((dFind ds k).getD x) else none
  | _, _, _ => none
def dPutL (ds : List (D × D)) (k v : D) : List (D × D) := if ds.any (fun p => eqD p.1 k) then ds.map (fun p => if eqD p.1 k then (p.1, v) else p) else ds ++ [(k, v)]
def dIx : D → D → Option D
  | .list xs, .int i => atI xs i
  | .tuple xs, .int i => atI xs i
  | .str s, .int i => if s.length ≤ sizeLine then (atI s.cps.toList i).map fun c => .str ⟨#[c]⟩ else none
  | .dict ds, k => if kOk ds k then dFind ds k else none
  | _, _ => none
def cutD (xs : List D) (lo hi : Option Int) : List D := (xs.drop (HT.sIx xs.length 0 lo)).take (HT.sIx xs.length xs.length hi - HT.sIx xs.length 0 lo)
def cutT (s : Str) (lo hi : Option Int) : Str := cutS s lo hi
def dPart : Option D → Option (Option Int)
  | none => some none
  | some (.int i) => some (some i)
  | _ => none
def dSlice (x : D) (lo hi : Option Int) : Option D := match x with
  | .list xs => some (.list (cutD xs lo hi))
  | .tuple xs => some (.tuple (cutD xs lo hi))
  | .str s => if s.length ≤ sizeLine then some (.str (cutS s lo hi)) else none
  | _ => none
def dLen : D → Option D
  | .list xs => some (.int xs.length)
  | .tuple xs => some (.int xs.length)
  | .str s => if s.length ≤ sizeLine then some (.int s.length) else none
  | _ => none
/-- of like make: what may be compared -/
inductive Sh where
  | bad | i | b | s | vi | li | nil | cons (a r : Sh) | t (r : Sh) | l (r : Sh)
  deriving DecidableEq
def isInts : List D → Bool
  | [] => true
  | .int _ :: xs => isInts xs
  | _ => false
mutual
def cls : D → Sh
  | .none => .bad
  | .bool _ => .b
  | .int _ => .i
  | .str _ => .s
  | .tuple xs => if isInts xs then .vi else .t (clss xs)
  | .list xs => if isInts xs then .li else .l (clss xs)
  | .dict _ => .bad
def clss : List D → Sh
  | [] => .nil
  | x :: xs => .cons (cls x) (clss xs)
end
/-- no bad make within -/
def Sh.ok : Sh → Bool
  | .bad => false
  | .cons a r => a.ok && r.ok
  | .t r => r.ok
  | .l r => r.ok
  | _ => true
def likes : List D → Bool
  | [] => true
  | x :: xs => (cls x).ok && xs.all fun y => decide (cls y = cls x)
def dEq : D → D → Option D
  | .int i, .int j => some (.bool (i == j))
  | a, b => if a.plain && b.plain && decide (min a.depth b.depth ≤ 60) then some (.bool (PyData.eqv a b)) else none
def dNe : D → D → Option D
  | .int i, .int j => some (.bool (!(i == j)))
  | a, b => if a.plain && b.plain && decide (min a.depth b.depth ≤ 60) then some (.bool (!PyData.eqv a b)) else none
def dIn (x : D) : D → Option D
  | .list ys => if x.plain && PyData.plainAll ys && decide (min (PyData.depthAll ys) x.depth ≤ 60) then some (.bool (ys.any fun z => PyData.eqv z x)) else none
  | .tuple ys => if x.plain && PyData.plainAll ys && decide (min (PyData.depthAll ys) x.depth ≤ 60) then some (.bool (ys.any fun z => PyData.eqv z x)) else none
  | .dict ds => if kOk ds x then some (.bool (dFind ds x).isSome) else none
  | _ => none
def dNotIn (x : D) : D → Option D
  | .list ys => if x.plain && PyData.plainAll ys && decide (min (PyData.depthAll ys) x.depth ≤ 60) then some (.bool (!ys.any fun z => PyData.eqv z x)) else none
  | .tuple ys => if x.plain && PyData.plainAll ys && decide (min (PyData.depthAll ys) x.depth ≤ 60) then some (.bool (!ys.any fun z => PyData.eqv z x)) else none
  | .dict ds => if kOk ds x then some (.bool (!(dFind ds x).isSome)) else none
  | _ => none
def likeD (a b : D) : Bool := (cls a).ok && decide (cls a = cls b) && decide (min a.depth b.depth ≤ 60)
def dLt : D → D → Option D
  | .int i, .int j => some (.bool (decide (i < j)))
  | a, b => if likeD a b then some (.bool (W.dataLt a b)) else none
def dGt : D → D → Option D
  | .int i, .int j => some (.bool (decide (j < i)))
  | a, b => if likeD a b then some (.bool (W.dataLt b a)) else none
def dLe : D → D → Option D
  | .int i, .int j => some (.bool (decide (i ≤ j)))
  | a, b => if likeD a b then some (.bool (!W.dataLt b a)) else none
def dGe : D → D → Option D
  | .int i, .int j => some (.bool (decide (j ≤ i)))
  | a, b => if likeD a b then some (.bool (!W.dataLt a b)) else none
/-- what a for walks -/
def dSeq : D → Option (List D)
  | .list xs => some xs
  | .tuple xs => some xs
  | _ => none
def dMinL : List D → Option D
  | [] => none
  | x :: xs => if likes (x :: xs) && decide (PyData.depthAll (x :: xs) ≤ 60) then some (W.minD x xs) else none
def dMaxL : List D → Option D
  | [] => none
  | x :: xs => if likes (x :: xs) && decide (PyData.depthAll (x :: xs) ≤ 60) then some (W.maxD x xs) else none
def dMin (d : D) : Option D := (dSeq d).bind dMinL
def dMax (d : D) : Option D := (dSeq d).bind dMaxL
def dInts : List D → Option (List Int)
  | [] => some []
  | .int i :: xs => (dInts xs).map (i :: ·)
  | _ => none
def dSum (d : D) : Option D := ((dSeq d).bind dInts).map fun ns => .int ns.sum
def dBools : List D → Option (List Bool)
  | [] => some []
  | .bool b :: xs => (dBools xs).map (b :: ·)
  | _ => none
def dAll (d : D) : Option D := ((dSeq d).bind dBools).map fun bs => .bool (bs.all id)
def dAny (d : D) : Option D := ((dSeq d).bind dBools).map fun bs => .bool (bs.any id)
/-- in order: stable, by insertion -/
def insD (le : D → D → Bool) (x : D) : List D → List D
  | [] => [x]
  | y :: ys => if le x y then x :: y :: ys else y :: insD le x ys
def srtD (le : D → D → Bool) : List D → List D
  | [] => []
  | x :: xs => insD le x (srtD le xs)
def leD (a b : D) : Bool := !W.dataLt b a
def sortOk (xs : List D) : Bool := likes xs && decide (PyData.depthAll xs ≤ 60) && xs.all fun x => match x with
  | .tuple [] => false
  | _ => true
def dSorted (d : D) : Option D := match d with
  | .list xs => if sortOk xs then some (.list (srtD leD xs)) else none
  | .tuple xs => if sortOk xs then some (.list (srtD leD xs)) else none
  | _ => none
def dBool : D → Option Bool
  | .bool b => some b
  | _ => none
def dAbs : D → Option D
  | .int i => some (.int (if i < 0 then -i else i))
  | _ => none
def dInt : D → Option D
  | .int i => some (.int i)
  | .bool b => some (.int (if b then 1 else 0))
  | _ => none
def dMin2 : D → D → Option D
  | .int i, .int j => some (.int (if j < i then j else i))
  | _, _ => none
def dMax2 : D → D → Option D
  | .int i, .int j => some (.int (if j > i then j else i))
  | _, _ => none
def dTuple (d : D) : Option D := (dSeq d).map .tuple
def dList (d : D) : Option D := (dSeq d).map .list
def isInt : D → Bool
  | .bool _ => true
  | .int _ => true
  | _ => false
def isStr : D → Bool
  | .str _ => true
  | _ => false
def isBool : D → Bool
  | .bool _ => true
  | _ => false
def isList : D → Bool
  | .list _ => true
  | _ => false
def isTup : D → Bool
  | .tuple _ => true
  | _ => false
def dGcd : D → D → Option D
  | .int a, .int b => some (.int ((Nat.gcd a.natAbs b.natAbs : Nat) : Int))
  | _, _ => none
def isNone : D → Bool
  | .none => true
  | _ => false
def okR (i : Int) : Bool := decide (-(2 ^ 62) ≤ i) && decide (i < 2 ^ 62)
def rgL (lo : Int) (n : Nat) : List D := (List.range n).map fun (k : Nat) => PyData.int (lo + (k : Int))
def sizeL (l : List D) : Option (List D) := if l.length ≤ sizeLine then some l else none
def rng1L : List D → Option (List D)
  | [.int n] => if okR n then some (rgL 0 n.toNat) else none
  | _ => none
def rng2L : List D → Option (List D)
  | [.int a, .int b] => if okR a && okR b then some (rgL a (b - a).toNat) else none
  | _ => none
end Qv

namespace Qv
open PySem PySem.Spec PyProof.Rows L2
/-! ## what stands for plain data in the heap -/
def Mut : Option HO → Prop
  | some (.lst _) => True
  | some (.dK _) => True
  | some (.dT _) => True
  | some (.frz _ (.lst _)) => True
  | some (.ext _) => True
  | _ => False
/-! ### dicts whose keys are tuples of ints (nested) -/
mutual
def numK : NestedKey → Bool
  | .num _ => true
  | .tup ks => numKs ks
  | _ => false
def numKs : List NestedKey → Bool
  | [] => true
  | k :: ks => numK k && numKs ks
end
mutual
theorem nk_num : ∀ {d : D} {k : NestedKey}, nkD d = some k → numK k = true
  | .int i, k, h => by simp [nkD] at h; subst h; rfl
  | .tuple ds, k, h => by
    simp only [nkD, Option.map_eq_some_iff] at h
    obtain ⟨ks, h, rfl⟩ := h
    rw [numK]; exact nks_num h
  | .none, k, h => by simp [nkD] at h
  | .bool _, k, h => by simp [nkD] at h
  | .str _, k, h => by simp [nkD] at h
  | .list _, k, h => by simp [nkD] at h
  | .dict _, k, h => by simp [nkD] at h
theorem nks_num : ∀ {ds : List D} {ks : List NestedKey}, nksD ds = some ks → numKs ks = true
  | [], ks, h => by simp [nksD] at h; subst h; rfl
  | d :: ds, ks, h => by
    simp only [nksD, Option.bind_eq_some_iff, Option.map_eq_some_iff] at h
    obtain ⟨k, h1, ks', h2, rfl⟩ := h
    rw [numKs, nk_num h1, nks_num h2]; rfl
end
mutual
theorem hash_num (w w' : World) : ∀ {k : NestedKey}, numK k = true → NestedKey.hash w k = NestedKey.hash w' k
  | .num i, _ => by simp [NestedKey.hash]
  | .tup ks, h => by
    rw [numK] at h
    rw [NestedKey.hash, NestedKey.hash, hashes_num w w' h]
  | .none, h => by simp [numK] at h
  | .text _, h => by simp [numK] at h
theorem hashes_num (w w' : World) : ∀ {ks : List NestedKey}, numKs ks = true → NestedKey.hashes w ks = NestedKey.hashes w' ks
  | [], _ => by simp [NestedKey.hashes]
  | k :: ks, h => by
    rw [numKs, Bool.and_eq_true] at h
    rw [NestedKey.hashes, NestedKey.hashes, hash_num w w' h.1, hashes_num w w' h.2]
end
/-- an entry: the key, where the key's tuple stands, the value -/
abbrev En := NestedKey × Addr × V
def entE (w : World) (x : En) (u : Value) : DictEntry := ⟨NestedKey.hash w x.1, .ref x.2.1, u⟩
def DN0 (a : Addr) (xs : List En) (o : Obj) (h : Heap) : Prop :=
  (a == sysModules) = false ∧ xs.length ≤ sizeLine ∧ (xs.map (·.1)).Nodup ∧ (∀ x ∈ xs, numK x.1 = true) ∧
  ∃ us : List Value, Vals (xs.map (·.2.2)) us ∧ h.get? a = some o ∧ ∃ es ep, o.ExactDict ∧ o.data = .dict es ep ∧ ∀ w : World, es.toList = List.zipWith (entE w) xs us
def DN (a : Addr) (xs : List En) (o : Obj) : HO := .ext (DN0 a xs o)
/-- the draws' own objects. kd 0: none; 1: [k, v] and the script; 2: [cells, seed] -/
structure Tk where
  kd : Nat
  s : Addr
  c : Addr
  scr : Addr
  ns : List Int
  fz : Bool
def Tk.S (T : Tk) (a : Addr) : Prop := (T.kd ≠ 0 ∧ a = T.s) ∨ (T.kd = 1 ∧ T.fz = true ∧ a = T.scr) ∨ (T.kd = 2 ∧ a = T.c)
def Tk.ok (T : Tk) (H : Hp) : Prop :=
  (T.kd = 1 → (∃ k v : Int, 0 ≤ k ∧ 0 ≤ v ∧ H T.s = some (.lst [.int k, .int v])) ∧ (T.fz = true → ∃ o, H T.scr = some (.frz o (.lst (T.ns.map V.int))))) ∧
  (T.kd ≠ 0 → T.kd ≠ 1 → T.kd = 2) ∧
  (T.kd = 2 → ∃ (xs : List Int) (z : Int), 0 ≤ z ∧ (∀ x ∈ xs, 0 ≤ x) ∧ T.s ≠ T.c ∧ H T.s = some (.lst [.ref T.c, .int z]) ∧ H T.c = some (.lst (xs.map V.int)))
theorem Tk.keep (T : Tk) {H H' : Hp} (h : T.ok H) (e : ∀ a, T.S a → H' a = H a) : T.ok H' := by
  obtain ⟨h1, h2, h3⟩ := h
  refine ⟨fun q => ?_, h2, fun q => ?_⟩
  · obtain ⟨⟨k, v, k1, k2, k3⟩, k4⟩ := h1 q
    refine ⟨⟨k, v, k1, k2, by rw [e _ (.inl ⟨by omega, rfl⟩)]; exact k3⟩, fun z => ?_⟩
    obtain ⟨o, k5⟩ := k4 z
    exact ⟨o, by rw [e _ (.inr (.inl ⟨q, z, rfl⟩))]; exact k5⟩
  · obtain ⟨xs, z, k1, k2, k3, k4, k5⟩ := h3 q
    exact ⟨xs, z, k1, k2, k3, by rw [e _ (.inl ⟨by omega, rfl⟩)]; exact k4, by rw [e _ (.inr (.inr ⟨q, rfl⟩))]; exact k5⟩
theorem Tk.mu (T : Tk) {H : Hp} {a : Addr} (h : T.ok H) (q : T.S a) : Mut (H a) := by
  obtain ⟨h1, h2, h3⟩ := h
  rcases q with ⟨q, rfl⟩ | ⟨q, z, rfl⟩ | ⟨q, rfl⟩
  · by_cases q1 : T.kd = 1
    · obtain ⟨⟨k, v, k1, k2, k3⟩, k4⟩ := h1 q1
      rw [k3]; trivial
    · obtain ⟨xs, z, k1, k2, k3, k4, k5⟩ := h3 (h2 q q1)
      rw [k4]; trivial
  · obtain ⟨_, k4⟩ := h1 q
    obtain ⟨o, k5⟩ := k4 z
    rw [k5]; trivial
  · obtain ⟨xs, z, k1, k2, k3, k4, k5⟩ := h3 q
    rw [k5]; trivial
/-- no draws -/
def Tk.no : Tk := ⟨0, 0, 0, 0, [], false⟩
/-- a list of the module's own, known to K -/
def KL (K : PySem.W.Frag) (a : Addr) (xs : List V) : Prop := ∃ (o : Obj) (its : Array Value) (n : Nat), K.lookup a = some o ∧ o.cls = .type "list" ∧ o.dict = none ∧ o.data = .seq its n ∧ its.size ≤ sizeLine ∧ Vals xs its.toList
section
variable (K : PySem.W.Frag) (T : Tk) (A : Addr → Prop) (H : Hp)
mutual
inductive Rep : V → D → Prop
  | non : Rep .non .none
  | bl (b : Bool) : Rep (.bl b) (.bool b)
  | int (i : Int) : Rep (.int i) (.int i)
  | str (x : Str) : Rep (.str x) (.str x)
  | lst {a : Addr} {xs : List V} {ds : List D} : ¬ A a → H a = some (.lst xs) → Reps xs ds → Rep (.ref a) (.list ds)
  | tup {a : Addr} {xs : List V} {ds : List D} : SqT K H a xs → Reps xs ds → Rep (.ref a) (.tuple ds)
  | tok : T.kd = 1 → Rep (.ref T.s) tokD
  | tok2 : T.kd = 2 → Rep (.ref T.s) tokA
  | scr : T.kd = 1 → (T.fz = false → KL K T.scr (T.ns.map V.int)) → Rep (.ref T.scr) scrD
  | dic {a : Addr} {xs : List En} {o : Obj} {ds : List (D × D)} : ¬ A a → H a = some (DN a xs o) → RepD xs ds → Rep (.ref a) (.dict ds)
  | dck {a : Addr} {xs : List (Key × V)} {ds : List (D × D)} : ds ≠ [] → ¬ A a → H a = some (.dK xs) → RepK xs ds → Rep (.ref a) (.dict ds)
inductive Reps : List V → List D → Prop
  | nil : Reps [] []
  | cons {v : V} {vs : List V} {d : D} {ds : List D} : Rep v d → Reps vs ds → Reps (v :: vs) (d :: ds)
inductive RepD : List En → List (D × D) → Prop
  | nil : RepD [] []
  | cons {k : NestedKey} {b : Addr} {v : V} {xs : List En} {e d : D} {ds : List (D × D)} : keyT e = some k → Rep (.ref b) e → Rep v d → RepD xs ds → RepD ((k, b, v) :: xs) ((e, d) :: ds)
inductive RepK : List (Key × V) → List (D × D) → Prop
  | nil : RepK [] []
  | cons {k : Key} {v : V} {xs : List (Key × V)} {e d : D} {ds : List (D × D)} : keyS e = some k → Rep v d → RepK xs ds → RepK ((k, v) :: xs) ((e, d) :: ds)
end
end
/-- the addresses A are the owners' own; they may change -/
structure Wd (T : Tk) (A : Addr → Prop) (H : Hp) : Prop where
  ok : T.ok H
  sub : ∀ a, T.S a → A a
  mu : ∀ a, A a → Mut (H a)
/-- all but the draws' objects stays -/
def Step (T : Tk) (H H' : Hp) : Prop := ∀ a o, H a = some o → ¬ T.S a → H' a = some o
/-- all but A stays -/
def StA (A : Addr → Prop) (H H' : Hp) : Prop := ∀ a o, H a = some o → ¬ A a → H' a = some o
section
variable {K : PySem.W.Frag} {T : Tk} {A B : Addr → Prop} {H H' H2 : Hp}
theorem Step.refl : Step T H H := fun _ _ h _ => h
theorem Step.trans (a : Step T H H') (b : Step T H' H2) : Step T H H2 := fun c o h n => b c o (a c o h n) n
theorem StA.refl : StA A H H := fun _ _ h _ => h
theorem StA.trans (a : StA A H H') (b : StA A H' H2) : StA A H H2 := fun c o h n => b c o (a c o h n) n
theorem Step.stA (s : Step T H H') (h : ∀ a, T.S a → A a) : StA A H H' := fun c o e n => s c o e fun q => n (h c q)
theorem StA.weak (s : StA A H H') (h : ∀ a, A a → B a) : StA B H H' := fun c o e n => s c o e fun q => n (h c q)
theorem Wd.step (w : Wd T A H) (s : Step T H H') (ok : T.ok H') : Wd T A H' := ⟨ok, w.sub, fun a ha => by
  by_cases q : T.S a
  · exact T.mu ok q
  · have m := w.mu a ha
    cases e : H a with
    | none => rw [e] at m; exact m.elim
    | some o => rw [s a o e q]; rw [e] at m; exact m⟩
theorem Wd.tup {a : Addr} {xs : List V} (w : Wd T A H) (h : H a = some (.tup xs)) : ¬ A a := fun q => by
  have m := w.mu a q
  rw [h] at m
  exact m
theorem Wd.new {a : Addr} (w : Wd T A H) (h : H a = none) : ¬ A a := fun q => by
  have m := w.mu a q
  rw [h] at m
  exact m
theorem step_new {p : Addr} {o : HO} (h : H p = none) : Step T H (upd H p o) := fun a u e _ => by
  rw [upd_ne (ne_of_none e h)]; exact e
theorem Wd.laid {p : Addr} {o : HO} (w : Wd T A H) (h : H p = none) : Wd T A (upd H p o) := w.step (step_new h) (T.keep w.ok fun a q => upd_ne (fun e => by
  subst e
  have m := w.mu a (w.sub a q)
  rw [h] at m
  exact m))
theorem sqL_keep {a : Addr} {xs : List V} (h : SqL K H a xs) (s : ∀ o, H a = some o → H' a = some o) : SqL K H' a xs := by
  rcases h with (h | ⟨o, h⟩) | h
  · exact .inl (.inl (s _ h))
  · exact .inl (.inr ⟨o, s _ h⟩)
  · exact .inr h
theorem sqT_keep {a : Addr} {xs : List V} (h : SqT K H a xs) (s : ∀ o, H a = some o → H' a = some o) : SqT K H' a xs := by
  rcases h with (h | ⟨o, h⟩) | h
  · exact .inl (.inl (s _ h))
  · exact .inl (.inr ⟨o, s _ h⟩)
  · exact .inr h
/-- what A holds is new or may change -/
def MuN (A : Addr → Prop) (H : Hp) : Prop := ∀ a, A a → H a = none ∨ Mut (H a)
theorem Wd.mun (w : Wd T A H) : MuN A H := fun a q => .inr (w.mu a q)
theorem sqT_stA {a : Addr} {xs : List V} (w : MuN A H) (h : SqT K H a xs) (s : StA A H H') : SqT K H' a xs := by
  rcases h with (h | ⟨o, h⟩) | h
  · refine .inl (.inl (s _ _ h fun q => ?_))
    rcases w a q with e | m
    · rw [h] at e; cases e
    · rw [h] at m; exact m
  · refine .inl (.inr ⟨o, s _ _ h fun q => ?_⟩)
    rcases w a q with e | m
    · rw [h] at e; cases e
    · rw [h] at m; exact m
  · exact .inr h
mutual
theorem Rep.stA (w : MuN A H) (s : StA A H H') : ∀ {v : V} {d : D}, Rep K T A H v d → Rep K T A H' v d
  | _, _, .non => .non
  | _, _, .bl b => .bl b
  | _, _, .int i => .int i
  | _, _, .str x => .str x
  | _, _, .lst n h r => .lst n (s _ _ h n) (Reps.stA w s r)
  | _, _, .tup h r => .tup (sqT_stA w h s) (Reps.stA w s r)
  | _, _, .tok h => .tok h
  | _, _, .tok2 h => .tok2 h
  | _, _, .scr h h' => .scr h h'
  | _, _, .dic n h r => .dic n (s _ _ h n) (RepD.stA w s r)
  | _, _, .dck c n h r => .dck c n (s _ _ h n) (RepK.stA w s r)
theorem Reps.stA (w : MuN A H) (s : StA A H H') : ∀ {vs : List V} {ds : List D}, Reps K T A H vs ds → Reps K T A H' vs ds
  | _, _, .nil => .nil
  | _, _, .cons h r => .cons (Rep.stA w s h) (Reps.stA w s r)
theorem RepD.stA (w : MuN A H) (s : StA A H H') : ∀ {xs : List En} {ds : List (D × D)}, RepD K T A H xs ds → RepD K T A H' xs ds
  | _, _, .nil => .nil
  | _, _, .cons k h q r => .cons k (Rep.stA w s h) (Rep.stA w s q) (RepD.stA w s r)
theorem RepK.stA (w : MuN A H) (s : StA A H H') : ∀ {xs : List (Key × V)} {ds : List (D × D)}, RepK K T A H xs ds → RepK K T A H' xs ds
  | _, _, .nil => .nil
  | _, _, .cons k q r => .cons k (Rep.stA w s q) (RepK.stA w s r)
end
mutual
theorem Rep.weak (s : ∀ a, B a → A a) : ∀ {v : V} {d : D}, Rep K T A H v d → Rep K T B H v d
  | _, _, .non => .non
  | _, _, .bl b => .bl b
  | _, _, .int i => .int i
  | _, _, .str x => .str x
  | _, _, .lst n h r => .lst (fun q => n (s _ q)) h (Reps.weak s r)
  | _, _, .tup h r => .tup h (Reps.weak s r)
  | _, _, .tok h => .tok h
  | _, _, .tok2 h => .tok2 h
  | _, _, .scr h h' => .scr h h'
  | _, _, .dic n h r => .dic (fun q => n (s _ q)) h (RepD.weak s r)
  | _, _, .dck c n h r => .dck c (fun q => n (s _ q)) h (RepK.weak s r)
theorem Reps.weak (s : ∀ a, B a → A a) : ∀ {vs : List V} {ds : List D}, Reps K T A H vs ds → Reps K T B H vs ds
  | _, _, .nil => .nil
  | _, _, .cons h r => .cons (Rep.weak s h) (Reps.weak s r)
theorem RepD.weak (s : ∀ a, B a → A a) : ∀ {xs : List En} {ds : List (D × D)}, RepD K T A H xs ds → RepD K T B H xs ds
  | _, _, .nil => .nil
  | _, _, .cons k h q r => .cons k (Rep.weak s h) (Rep.weak s q) (RepD.weak s r)
theorem RepK.weak (s : ∀ a, B a → A a) : ∀ {xs : List (Key × V)} {ds : List (D × D)}, RepK K T A H xs ds → RepK K T B H xs ds
  | _, _, .nil => .nil
  | _, _, .cons k q r => .cons k (Rep.weak s q) (RepK.weak s r)
end
mutual
/-- new addresses are in nothing that stands -/
theorem Rep.ext (h : ∀ a, B a → A a ∨ H a = none) : ∀ {v : V} {d : D}, Rep K T A H v d → Rep K T B H v d
  | _, _, .non => .non
  | _, _, .bl b => .bl b
  | _, _, .int i => .int i
  | _, _, .str x => .str x
  | _, _, .lst n e r => .lst (fun q => (h _ q).elim n fun z => by rw [e] at z; cases z) e (Reps.ext h r)
  | _, _, .tup e r => .tup e (Reps.ext h r)
  | _, _, .tok h => .tok h
  | _, _, .tok2 h => .tok2 h
  | _, _, .scr h h' => .scr h h'
  | _, _, .dic n e r => .dic (fun q => (h _ q).elim n fun z => by rw [e] at z; cases z) e (RepD.ext h r)
  | _, _, .dck c n e r => .dck c (fun q => (h _ q).elim n fun z => by rw [e] at z; cases z) e (RepK.ext h r)
theorem Reps.ext (h : ∀ a, B a → A a ∨ H a = none) : ∀ {vs : List V} {ds : List D}, Reps K T A H vs ds → Reps K T B H vs ds
  | _, _, .nil => .nil
  | _, _, .cons e r => .cons (Rep.ext h e) (Reps.ext h r)
theorem RepD.ext (h : ∀ a, B a → A a ∨ H a = none) : ∀ {xs : List En} {ds : List (D × D)}, RepD K T A H xs ds → RepD K T B H xs ds
  | _, _, .nil => .nil
  | _, _, .cons k e q r => .cons k (Rep.ext h e) (Rep.ext h q) (RepD.ext h r)
theorem RepK.ext (h : ∀ a, B a → A a ∨ H a = none) : ∀ {xs : List (Key × V)} {ds : List (D × D)}, RepK K T A H xs ds → RepK K T B H xs ds
  | _, _, .nil => .nil
  | _, _, .cons k q r => .cons k (Rep.ext h q) (RepK.ext h r)
end
theorem Rep.step {v : V} {d : D} (w : Wd T A H) (r : Rep K T A H v d) (s : Step T H H') : Rep K T A H' v d := r.stA w.mun (s.stA w.sub)
theorem Reps.step {v : List V} {d : List D} (w : Wd T A H) (r : Reps K T A H v d) (s : Step T H H') : Reps K T A H' v d := r.stA w.mun (s.stA w.sub)
theorem Reps.length : ∀ {vs : List V} {ds : List D}, Reps K T A H vs ds → vs.length = ds.length
  | _, _, .nil => rfl
  | _, _, .cons _ r => by rw [List.length_cons, List.length_cons, Reps.length r]
theorem Reps.append : ∀ {vs us : List V} {ds es : List D}, Reps K T A H vs ds → Reps K T A H us es → Reps K T A H (vs ++ us) (ds ++ es)
  | _, _, _, _, .nil, q => q
  | _, _, _, _, .cons h r, q => .cons h (Reps.append r q)
theorem Reps.get : ∀ {vs : List V} {ds : List D} {i : Nat} {d : D}, Reps K T A H vs ds → ds[i]? = some d → ∃ v, vs[i]? = some v ∧ Rep K T A H v d
  | _, _, _, _, .nil, e => by simp at e
  | _, _, 0, _, .cons h r, e => by simp at e; subst e; exact ⟨_, rfl, h⟩
  | _, _, i + 1, d, .cons h r, e => by
    obtain ⟨v, h1, h2⟩ := Reps.get (i := i) (d := d) r (by simpa using e)
    exact ⟨v, by simpa using h1, h2⟩
theorem Reps.get' : ∀ {vs : List V} {ds : List D} {i : Nat} {v : V}, Reps K T A H vs ds → vs[i]? = some v → ∃ d, ds[i]? = some d ∧ Rep K T A H v d
  | _, _, _, _, .nil, e => by simp at e
  | _, _, 0, _, .cons h r, e => by simp at e; subst e; exact ⟨_, rfl, h⟩
  | _, _, i + 1, v, .cons h r, e => by
    obtain ⟨d, h1, h2⟩ := Reps.get' (i := i) (v := v) r (by simpa using e)
    exact ⟨d, by simpa using h1, h2⟩
theorem Reps.take : ∀ {vs : List V} {ds : List D} (n : Nat), Reps K T A H vs ds → Reps K T A H (vs.take n) (ds.take n)
  | _, _, 0, _ => .nil
  | _, _, _ + 1, .nil => .nil
  | _, _, n + 1, .cons h r => .cons h (Reps.take n r)
theorem Reps.drop : ∀ {vs : List V} {ds : List D} (n : Nat), Reps K T A H vs ds → Reps K T A H (vs.drop n) (ds.drop n)
  | _, _, 0, r => r
  | _, _, _ + 1, .nil => .nil
  | _, _, n + 1, .cons h r => Reps.drop n r
theorem Reps.set : ∀ {vs : List V} {ds : List D} {v : V} {d : D} (n : Nat), Reps K T A H vs ds → Rep K T A H v d → Reps K T A H (vs.set n v) (ds.set n d)
  | _, _, _, _, _, .nil, _ => .nil
  | _, _, _, _, 0, .cons h r, q => .cons q r
  | _, _, _, _, n + 1, .cons h r, q => .cons h (Reps.set n r q)
theorem Reps.reverse : ∀ {vs : List V} {ds : List D}, Reps K T A H vs ds → Reps K T A H vs.reverse ds.reverse
  | _, _, .nil => .nil
  | _, _, .cons h r => by
    rw [List.reverse_cons, List.reverse_cons]
    exact (Reps.reverse r).append (.cons h .nil)
theorem Reps.flat {vs : List V} {ds : List D} (r : Reps K T A H vs ds) : ∀ n : Nat, Reps K T A H (List.replicate n vs).flatten (List.replicate n ds).flatten
  | 0 => .nil
  | n + 1 => by
    rw [List.replicate_succ, List.replicate_succ, List.flatten_cons, List.flatten_cons]
    exact r.append (Reps.flat r n)
mutual
/-- what cannot change avoids everything -/
theorem Rep.imm : ∀ {v : V} {d : D}, Rep K T A H v d → noMut d = true → Rep K T B H v d
  | _, _, .non, _ => .non
  | _, _, .bl b, _ => .bl b
  | _, _, .int i, _ => .int i
  | _, _, .str x, _ => .str x
  | _, _, .lst n h r, e => by simp [noMut] at e
  | _, _, .tup h r, e => .tup h (Reps.imm r (by simpa [noMut] using e))
  | _, _, .tok _, e => by simp [noMut, tokD] at e
  | _, _, .tok2 _, e => by simp [noMut, tokA] at e
  | _, _, .scr _ _, e => by simp [noMut, scrD] at e
  | _, _, .dic _ _ _, e => by simp [noMut] at e
  | _, _, .dck _ _ _ _, e => by simp [noMut] at e
theorem Reps.imm : ∀ {vs : List V} {ds : List D}, Reps K T A H vs ds → noMuts ds = true → Reps K T B H vs ds
  | _, _, .nil, _ => .nil
  | _, _, .cons h r, e => by
    simp only [noMuts, Bool.and_eq_true] at e
    exact .cons (Rep.imm h e.1) (Reps.imm r e.2)
end
end
end Qv

namespace Qv
open PySem PySem.Spec PyProof.Rows L2
/-! ## dicts whose keys are tuples of ints -/
theorem keyT_of {d : D} {k : NestedKey} (h : keyT d = some k) : ∃ ds, d = .tuple ds ∧ nkD d = some k ∧ k.depth ≤ 8 := by
  cases d with
  | tuple ds =>
    obtain ⟨k', h1, h2⟩ := Option.bind_eq_some_iff.mp (show (nkD (.tuple ds)).bind _ = some k from h)
    obtain ⟨h3, h4⟩ := ifs h2
    subst h4
    exact ⟨ds, rfl, h1, h3⟩
  | _ => cases h
mutual
theorem nk_inj : ∀ {d e : D} {k : NestedKey}, nkD d = some k → nkD e = some k → d = e
  | .int i, e, k, h, g => by
    simp only [nkD, Option.some.injEq] at h
    subst h
    cases e with
    | int j => simp only [nkD, Option.some.injEq, NestedKey.num.injEq] at g; rw [g]
    | tuple es => simp [nkD] at g
    | _ => simp [nkD] at g
  | .tuple ds, e, k, h, g => by
    simp only [nkD, Option.map_eq_some_iff] at h
    obtain ⟨ks, h, rfl⟩ := h
    cases e with
    | int j => simp [nkD] at g
    | tuple es =>
      simp only [nkD, Option.map_eq_some_iff, NestedKey.tup.injEq, exists_eq_right] at g
      rw [nks_inj h g]
    | _ => simp [nkD] at g
  | .none, e, k, h, g => by simp [nkD] at h
  | .bool _, e, k, h, g => by simp [nkD] at h
  | .str _, e, k, h, g => by simp [nkD] at h
  | .list _, e, k, h, g => by simp [nkD] at h
  | .dict _, e, k, h, g => by simp [nkD] at h
theorem nks_inj : ∀ {ds es : List D} {ks : List NestedKey}, nksD ds = some ks → nksD es = some ks → ds = es
  | [], es, ks, h, g => by
    simp only [nksD, Option.some.injEq] at h
    subst h
    cases es with
    | nil => rfl
    | cons e es =>
      obtain ⟨k, _, g⟩ := Option.bind_eq_some_iff.mp (show (nkD e).bind _ = some [] from g)
      obtain ⟨_, _, g⟩ := Option.map_eq_some_iff.mp g
      cases g
  | d :: ds, es, ks, h, g => by
    simp only [nksD, Option.bind_eq_some_iff, Option.map_eq_some_iff] at h
    obtain ⟨k, h1, ks', h2, rfl⟩ := h
    cases es with
    | nil => simp [nksD] at g
    | cons e es =>
      simp only [nksD, Option.bind_eq_some_iff, Option.map_eq_some_iff, List.cons.injEq] at g
      obtain ⟨k2, g1, ks2, g2, rfl, rfl⟩ := g
      rw [nk_inj h1 g1, nks_inj h2 g2]
end
mutual
theorem eqD_nk : ∀ {d : D} {k : NestedKey}, nkD d = some k → eqD d d = true
  | .int i, k, h => by simp [eqD]
  | .tuple ds, k, h => by
    simp only [nkD, Option.map_eq_some_iff] at h
    obtain ⟨ks, h, rfl⟩ := h
    simp only [eqD]
    exact eqDs_nk h
  | .none, k, h => by simp [nkD] at h
  | .bool _, k, h => by simp [nkD] at h
  | .str _, k, h => by simp [nkD] at h
  | .list _, k, h => by simp [nkD] at h
  | .dict _, k, h => by simp [nkD] at h
theorem eqDs_nk : ∀ {ds : List D} {ks : List NestedKey}, nksD ds = some ks → eqDs ds ds = true
  | [], ks, h => by simp [eqDs]
  | d :: ds, ks, h => by
    simp only [nksD, Option.bind_eq_some_iff, Option.map_eq_some_iff] at h
    obtain ⟨k, h1, ks', h2, rfl⟩ := h
    simp only [eqDs, eqD_nk h1, eqDs_nk h2, Bool.and_self]
end
theorem eqD_key {d e : D} {k l : NestedKey} (h : nkD d = some k) (g : nkD e = some l) : eqD d e = decide (k = l) := by
  by_cases c : k = l
  · subst c
    rw [nk_inj h g, eqD_nk g, decide_eq_true rfl]
  · rw [decide_eq_false c]
    cases q : eqD d e with
    | false => rfl
    | true =>
      have := eqD_eq _ _ q
      subst this
      rw [h] at g
      exact absurd (Option.some.inj g) c
section
variable {X : Cx} {pins : List (Addr × Obj)} {σ : L2.St} {H : Hp} {s : Shared} {T : Tk} {A : Addr → Prop} {a b : Addr} {xs : List En} {us : List Value} {k : NestedKey}
mutual
theorem rep_nest (I : Inv X pins σ H s) : ∀ {d : D} {k : NestedKey} {v : V} {u : Value}, Rep X.K T A H v d → RelV v u → nkD d = some k → NestedIs s.heap k u
  | .int i, k, v, u, r, rv, h => by
    cases r
    obtain ⟨t, rfl⟩ := rv
    simp only [nkD, Option.some.injEq] at h
    subst h
    exact .int i t
  | .tuple ds, k, v, u, r, rv, h => by
    cases r with
    | tup hs rs =>
      cases rv
      simp only [nkD, Option.map_eq_some_iff] at h
      obtain ⟨ks, h, rfl⟩ := h
      obtain ⟨its, rvs, ⟨o, ho, hc, n, hd⟩, _⟩ := I.tuple hs
      exact .tup ho hc hd (reps_nest I rs rvs h)
  | .none, k, v, u, r, rv, h => by simp [nkD] at h
  | .bool _, k, v, u, r, rv, h => by simp [nkD] at h
  | .str _, k, v, u, r, rv, h => by simp [nkD] at h
  | .list _, k, v, u, r, rv, h => by simp [nkD] at h
  | .dict _, k, v, u, r, rv, h => by simp [nkD] at h
theorem reps_nest (I : Inv X pins σ H s) : ∀ {ds : List D} {ks : List NestedKey} {vs : List V} {us : List Value}, Reps X.K T A H vs ds → Vals vs us → nksD ds = some ks → NestedAll s.heap ks us
  | [], ks, vs, us, r, rv, h => by
    cases r
    cases rv
    simp only [nksD, Option.some.injEq] at h
    subst h
    exact .nil
  | d :: ds, ks, vs, us, r, rv, h => by
    cases r with
    | cons r1 r2 =>
      cases rv with
      | cons q1 q2 =>
        simp only [nksD, Option.bind_eq_some_iff, Option.map_eq_some_iff] at h
        obtain ⟨k, h1, ks', h2, rfl⟩ := h
        exact .cons (rep_nest I r1 q1 h1) (reps_nest I r2 q2 h2)
end
/-- a key's tuple -/
theorem rep_key (I : Inv X pins σ H s) {d : D} {v : V} {u : Value} (r : Rep X.K T A H v d) (rv : RelV v u) (h : keyT d = some k) : ∃ b, v = .ref b ∧ u = .ref b ∧ (nestedKind X.prog X.w).is s.heap k b := by
  obtain ⟨ds, rfl, h1, h2⟩ := keyT_of h
  have n := rep_nest I r rv h1
  cases r with
  | @tup b _ _ _ _ =>
    cases rv
    exact ⟨b, rfl, rfl, n, h2⟩
def zE (xs : List En) (us : List Value) : List (NestedKey × Addr × Value) := List.zipWith (fun x u => (x.1, x.2.1, u)) xs us
theorem zE_keys : ∀ {xs : List En} {us : List Value}, xs.length = us.length → (zE xs us).map (·.1) = xs.map (·.1)
  | [], [], _ => rfl
  | x :: xs, u :: us, h => by
    show x.1 :: (zE xs us).map (·.1) = x.1 :: xs.map (·.1)
    rw [zE_keys (by simpa using h)]
  | [], _ :: _, h => by simp at h
  | _ :: _, [], h => by simp at h
theorem zE_len : ∀ {xs : List En} {us : List Value}, xs.length = us.length → (zE xs us).length = xs.length := fun h => by
  unfold zE; rw [List.length_zipWith, ← h, Nat.min_self]
theorem zE_ent (w : World) : ∀ {xs : List En} {us : List Value}, List.zipWith (entE w) xs us = (zE xs us).map (fun x => (⟨NestedKey.hash w x.1, .ref x.2.1, x.2.2⟩ : DictEntry))
  | [], us => rfl
  | x :: xs, [] => rfl
  | x :: xs, u :: us => by
    show entE w x u :: List.zipWith (entE w) xs us = _ :: (zE xs us).map _
    rw [zE_ent w]
    rfl
theorem repD_mem (I : Inv X pins σ H s) : ∀ {xs : List En} {ds : List (D × D)}, RepD X.K T A H xs ds → ∀ us, ∀ x ∈ zE xs us, (nestedKind X.prog X.w).is s.heap x.1 x.2.1
  | _, _, .nil, us, x, hx => by simp [zE] at hx
  | _, _, .cons hk h q r, us, x, hx => by
    cases us with
    | nil => simp [zE] at hx
    | cons u us =>
      rcases List.mem_cons.mp (show x ∈ (_, _, u) :: zE _ us from hx) with rfl | hx
      · obtain ⟨b', e1, _, n⟩ := rep_key I h (show RelV (.ref _) (.ref _) from rfl) hk
        cases e1
        exact n
      · exact repD_mem I r us x hx
theorem dn_of {o : Obj} {ds : List (D × D)} (I : Inv X pins σ H s) (e : H a = some (DN a xs o)) (r : RepD X.K T A H xs ds) :
    (a == sysModules) = false ∧ xs.length ≤ sizeLine ∧ (∀ x ∈ xs, numK x.1 = true) ∧ ∃ us, Vals (xs.map (·.2.2)) us ∧ s.heap.DictOfH (nestedKind X.prog X.w) a (zE xs us) := by
  obtain ⟨⟨h1, h2, h3, h4, us, rv, h5, es, ep, h6, h7, h8⟩, _⟩ := I.hok a _ e
  have hl : xs.length = us.length := by have := rv.length; simpa using this
  refine ⟨h1, h2, h4, us, rv, o, es, ep, h5, h6, h7, ?_, repD_mem I r us, by rw [zE_keys hl]; exact h3⟩
  rw [h8 X.w, zE_ent]
  rfl
theorem dn_mk {P : Program} {w : World} {h : Heap} (hd : (a == sysModules) = false) (hz : xs.length ≤ sizeLine) (hn : ∀ x ∈ xs, numK x.1 = true) (rv : Vals (xs.map (·.2.2)) us) (x : h.DictOfH (nestedKind P w) a (zE xs us)) : ∃ o, ∀ H : Hp, ObjOk P w H h a (DN a xs o) := by
  obtain ⟨o, es, ep, h5, h6, h7, h8, _, h9⟩ := x
  have hl : xs.length = us.length := by have := rv.length; simpa using this
  refine ⟨o, fun H => ⟨⟨hd, hz, by rw [← zE_keys hl]; exact h9, hn, us, rv, h5, es, ep, h6, h7, fun w' => ?_⟩, ⟨o, h5⟩, ?_⟩⟩
  · rw [zE_ent, h8]
    refine List.map_congr_left fun x hx => ?_
    have : x.1 ∈ xs.map (·.1) := by rw [← zE_keys hl]; exact List.mem_map_of_mem hx
    obtain ⟨y, hy, e⟩ := List.mem_map.mp this
    show (⟨NestedKey.hash w x.1, .ref x.2.1, x.2.2⟩ : DictEntry) = ⟨NestedKey.hash w' x.1, .ref x.2.1, x.2.2⟩
    rw [hash_num w w' (by rw [← e]; exact hn y hy)]
  · rintro h1 h2 ⟨g1, g2, g3, g4, us, rv, g5, g6⟩ k
    exact ⟨g1, g2, g3, g4, us, rv, k o g5, g6⟩
/-! ### the entry of a key -/
def atE (xs : List En) (k : NestedKey) : Option (Addr × V) := (xs.find? fun x => decide (x.1 = k)).map (·.2)
theorem at_zE : ∀ {xs : List En} {us : List Value}, Vals (xs.map (·.2.2)) us → (match atE xs k with | some p => ∃ u, atKey (zE xs us) k = some (p.1, u) ∧ RelV p.2 u | none => atKey (zE xs us) k = none)
  | [], us, r => by cases us <;> rfl
  | x :: xs, us, r => by
    cases r with
    | @cons _ u _ us r1 r2 =>
      by_cases c : x.1 = k
      · have e1 : atE (x :: xs) k = some x.2 := by simp [atE, c]
        have e2 : atKey (zE (x :: xs) (u :: us)) k = some (x.2.1, u) := by simp [atKey, zE, c]
        rw [e1]
        exact ⟨u, e2, r1⟩
      · have e1 : atE (x :: xs) k = atE xs k := by simp [atE, c]
        have e2 : atKey (zE (x :: xs) (u :: us)) k = atKey (zE xs us) k := by simp [atKey, zE, c]
        rw [e1, e2]
        exact at_zE r2
/-! ### the mirror's -/
theorem find_at {d : D} (hk : keyT d = some k) : ∀ {xs : List En} {ds : List (D × D)}, RepD X.K T A H xs ds → (match dFind ds d with | some e => ∃ p, atE xs k = some p ∧ Rep X.K T A H p.2 e | none => atE xs k = none)
  | _, _, .nil => rfl
  | _, _, .cons (k := k2) (b := b) (v := v) (xs := xs) (e := e) (d := d2) (ds := ds) hk2 h q r => by
    have ih := find_at hk r
    obtain ⟨_, _, hk, _⟩ := keyT_of hk
    obtain ⟨_, _, hk2, _⟩ := keyT_of hk2
    have hc := eqD_key hk2 hk
    by_cases c : k2 = k
    · rw [decide_eq_true c] at hc
      have e1 : dFind ((e, d2) :: ds) d = some d2 := by simp [dFind, hc]
      rw [e1]
      exact ⟨(b, v), by simp [atE, c], q⟩
    · rw [decide_eq_false c] at hc
      have e1 : dFind ((e, d2) :: ds) d = dFind ds d := by simp [dFind, hc]
      have e2 : atE ((k2, b, v) :: xs) k = atE xs k := by simp [atE, c]
      rw [e1, e2]
      exact ih
/-! ### storing -/
def putE (xs : List En) (k : NestedKey) (b : Addr) (v : V) : List En := if (atE xs k).isSome then xs.map (fun x => if x.1 = k then (x.1, x.2.1, v) else x) else xs ++ [(k, b, v)]
theorem zE_map {v : V} {u : Value} (rv : RelV v u) : ∀ {xs : List En} {us : List Value}, Vals (xs.map (·.2.2)) us → ∃ us', Vals ((xs.map (fun x => if x.1 = k then (x.1, x.2.1, v) else x)).map (·.2.2)) us' ∧ zE (xs.map (fun x => if x.1 = k then (x.1, x.2.1, v) else x)) us' = (zE xs us).map (putAt k u)
  | [], us, r => by
    cases r
    exact ⟨[], .nil, rfl⟩
  | x :: xs, us, r => by
    cases r with
    | @cons _ w _ us r1 r2 =>
      obtain ⟨us', h1, h2⟩ := zE_map rv r2
      by_cases c : x.1 = k
      · refine ⟨u :: us', ?_, ?_⟩
        · rw [List.map_cons, if_pos c]
          exact .cons rv h1
        · rw [List.map_cons, if_pos c]
          show (x.1, x.2.1, u) :: zE _ us' = putAt k u (x.1, x.2.1, w) :: (zE xs us).map (putAt k u)
          rw [h2, putAt, if_pos c]
      · refine ⟨w :: us', ?_, ?_⟩
        · rw [List.map_cons, if_neg c]
          exact .cons r1 h1
        · rw [List.map_cons, if_neg c]
          show (x.1, x.2.1, w) :: zE _ us' = putAt k u (x.1, x.2.1, w) :: (zE xs us).map (putAt k u)
          rw [h2, putAt, if_neg c]
theorem zE_app {v : V} {u : Value} : ∀ {xs : List En} {us : List Value}, xs.length = us.length → zE (xs ++ [(k, b, v)]) (us ++ [u]) = zE xs us ++ [(k, b, u)]
  | [], [], _ => rfl
  | x :: xs, w :: us, h => by
    show (x.1, x.2.1, w) :: zE (xs ++ _) (us ++ _) = (x.1, x.2.1, w) :: (zE xs us ++ _)
    rw [zE_app (by simpa using h)]
  | [], _ :: _, h => by simp at h
  | _ :: _, [], h => by simp at h
theorem zE_put {v : V} {u : Value} (rv : RelV v u) (r : Vals (xs.map (·.2.2)) us) : ∃ us', Vals ((putE xs k b v).map (·.2.2)) us' ∧ zE (putE xs k b v) us' = storedH (zE xs us) k b u := by
  have h := at_zE (k := k) r
  unfold putE
  cases e : atE xs k with
  | none =>
    rw [e] at h
    rw [storedH_new h]
    refine ⟨us ++ [u], ?_, ?_⟩
    · rw [Option.isSome_none, if_neg Bool.false_ne_true, List.map_append]
      exact r.append (.cons rv .nil)
    · rw [Option.isSome_none, if_neg Bool.false_ne_true]
      exact zE_app (by have := r.length; simpa using this)
  | some p =>
    rw [e] at h
    obtain ⟨w, h1, _⟩ := h
    rw [storedH_old h1, Option.isSome_some, if_pos rfl]
    exact zE_map rv r
theorem putE_mem {v : V} {x : En} (h : x ∈ putE xs k b v) : x.1 = k ∨ ∃ y ∈ xs, y.1 = x.1 := by
  unfold putE at h
  split at h
  · obtain ⟨y, hy, e⟩ := List.mem_map.mp h
    by_cases c : y.1 = k
    · rw [if_pos c] at e; subst e; exact .inl c
    · rw [if_neg c] at e; subst e; exact .inr ⟨y, hy, rfl⟩
  · rcases List.mem_append.mp h with h | h
    · exact .inr ⟨x, h, rfl⟩
    · obtain rfl := List.mem_singleton.mp h
      exact .inl rfl
theorem putE_len {v : V} : (putE xs k b v).length ≤ xs.length + 1 := by
  unfold putE
  split
  · rw [List.length_map]; omega
  · simp
theorem any_find {ds : List (D × D)} {d : D} : ds.any (fun p => eqD p.1 d) = (dFind ds d).isSome := by
  unfold dFind
  rw [Option.isSome_map, Bool.eq_iff_iff, List.find?_isSome, List.any_eq_true]
theorem repD_map {e d : D} {v : V} (hk : keyT e = some k) (rv : Rep X.K T A H v d) : ∀ {xs : List En} {ds : List (D × D)}, RepD X.K T A H xs ds → RepD X.K T A H (xs.map (fun x => if x.1 = k then (x.1, x.2.1, v) else x)) (ds.map (fun p => if eqD p.1 e then (p.1, d) else p))
  | _, _, .nil => .nil
  | _, _, .cons (k := k2) (e := e2) hk2 h q r => by
    have ih := repD_map hk rv r
    have hc := eqD_key (keyT_of hk2).choose_spec.2.1 (keyT_of hk).choose_spec.2.1
    rw [List.map_cons, List.map_cons]
    by_cases c : k2 = k
    · rw [decide_eq_true c] at hc
      rw [if_pos c, if_pos hc]
      exact .cons hk2 h rv ih
    · rw [decide_eq_false c] at hc
      rw [if_neg c, if_neg (by rw [hc]; exact Bool.false_ne_true)]
      exact .cons hk2 h q ih
theorem repD_app {e d : D} {v : V} (hk : keyT e = some k) (rb : Rep X.K T A H (.ref b) e) (rv : Rep X.K T A H v d) : ∀ {xs : List En} {ds : List (D × D)}, RepD X.K T A H xs ds → RepD X.K T A H (xs ++ [(k, b, v)]) (ds ++ [(e, d)])
  | _, _, .nil => .cons hk rb rv .nil
  | _, _, .cons hk2 h q r => .cons hk2 h q (repD_app hk rb rv r)
theorem repD_put {ds : List (D × D)} {e d : D} {v : V} (r : RepD X.K T A H xs ds) (hk : keyT e = some k) (rb : Rep X.K T A H (.ref b) e) (rv : Rep X.K T A H v d) : RepD X.K T A H (putE xs k b v) (dPutL ds e d) := by
  have h := find_at hk r
  unfold putE dPutL
  rw [any_find]
  cases q : dFind ds e with
  | none =>
    rw [q] at h
    rw [h, Option.isSome_none, if_neg Bool.false_ne_true, Option.isSome_none, if_neg Bool.false_ne_true]
    exact repD_app hk rb rv r
  | some y =>
    rw [q] at h
    obtain ⟨p, h1, _⟩ := h
    rw [h1, Option.isSome_some, if_pos rfl, Option.isSome_some, if_pos rfl]
    exact repD_map hk rv r
end
mutual
theorem nk_imm : ∀ {d : D} {k : NestedKey}, nkD d = some k → noMut d = true
  | .int i, k, h => by simp [noMut]
  | .tuple ds, k, h => by
    simp only [nkD, Option.map_eq_some_iff] at h
    obtain ⟨ks, h, rfl⟩ := h
    simp only [noMut]
    exact nks_imm h
  | .none, k, h => by simp [nkD] at h
  | .bool _, k, h => by simp [nkD] at h
  | .str _, k, h => by simp [nkD] at h
  | .list _, k, h => by simp [nkD] at h
  | .dict _, k, h => by simp [nkD] at h
theorem nks_imm : ∀ {ds : List D} {ks : List NestedKey}, nksD ds = some ks → noMuts ds = true
  | [], ks, h => by simp [noMuts]
  | d :: ds, ks, h => by
    simp only [nksD, Option.bind_eq_some_iff, Option.map_eq_some_iff] at h
    obtain ⟨k, h1, ks', h2, rfl⟩ := h
    simp only [noMuts, nk_imm h1, nks_imm h2, Bool.and_self]
end
theorem key_imm {d : D} {k : NestedKey} (h : keyT d = some k) : noMut d = true := by
  obtain ⟨_, _, h, _⟩ := keyT_of h
  exact nk_imm h
theorem keyS_of {d : D} {k : Key} (h : keyS d = some k) : (∃ i, d = .int i ∧ k = .inl i) ∨ ∃ x, d = .str x ∧ k = .inr x := by
  cases d with
  | int i => exact .inl ⟨i, rfl, (Option.some.inj h).symm⟩
  | str x => exact .inr ⟨x, rfl, (Option.some.inj h).symm⟩
  | _ => cases h
theorem eqD_keyS {d e : D} {k l : Key} (h : keyS d = some k) (g : keyS e = some l) : eqD d e = decide (k = l) := by
  rcases keyS_of h with ⟨i, rfl, rfl⟩ | ⟨x, rfl, rfl⟩ <;> rcases keyS_of g with ⟨j, rfl, rfl⟩ | ⟨y, rfl, rfl⟩ <;> simp [eqD]
theorem keyS_imm {d : D} {k : Key} (h : keyS d = some k) : noMut d = true := by
  rcases keyS_of h with ⟨i, rfl, rfl⟩ | ⟨x, rfl, rfl⟩ <;> simp [noMut]
theorem keyS_rep {K : PySem.W.Frag} {T : Tk} {A : Addr → Prop} {H : Hp} {v : V} {d : D} {k : Key} (r : Rep K T A H v d) (h : keyS d = some k) : v = kV k := by
  rcases keyS_of h with ⟨i, rfl, rfl⟩ | ⟨x, rfl, rfl⟩ <;> cases r <;> rfl
section
variable {K : PySem.W.Frag} {T : Tk} {A : Addr → Prop} {H : Hp} {k : Key}
theorem find_atK {d : D} (hk : keyS d = some k) : ∀ {xs : List (Key × V)} {ds : List (D × D)}, RepK K T A H xs ds → (match dFind ds d with | some e => ∃ p, valV xs k = some p ∧ Rep K T A H p e | none => valV xs k = none)
  | _, _, .nil => rfl
  | _, _, .cons (k := k2) (v := v) (xs := xs) (e := e) (d := d2) (ds := ds) hk2 q r => by
    have ih := find_atK hk r
    have hc := eqD_keyS hk2 hk
    by_cases c : k2 = k
    · rw [decide_eq_true c] at hc
      have e1 : dFind ((e, d2) :: ds) d = some d2 := by simp [dFind, hc]
      rw [e1]
      exact ⟨v, valV_pos c, q⟩
    · rw [decide_eq_false c] at hc
      have e1 : dFind ((e, d2) :: ds) d = dFind ds d := by simp [dFind, hc]
      have e2 : valV ((k2, v) :: xs) k = valV xs k := valV_neg c
      rw [e1, e2]
      exact ih
theorem repK_map {e d : D} {v : V} (hk : keyS e = some k) (rv : Rep K T A H v d) : ∀ {xs : List (Key × V)} {ds : List (D × D)}, RepK K T A H xs ds → RepK K T A H (xs.map (fun x => if x.1 = k then (x.1, v) else x)) (ds.map (fun p => if eqD p.1 e then (p.1, d) else p))
  | _, _, .nil => .nil
  | _, _, .cons (k := k2) (e := e2) hk2 q r => by
    have ih := repK_map hk rv r
    have hc := eqD_keyS hk2 hk
    rw [List.map_cons, List.map_cons]
    by_cases c : k2 = k
    · rw [decide_eq_true c] at hc
      rw [if_pos c, if_pos hc]
      exact .cons hk2 rv ih
    · rw [decide_eq_false c] at hc
      rw [if_neg c, if_neg (by rw [hc]; exact Bool.false_ne_true)]
      exact .cons hk2 q ih
theorem repK_app {e d : D} {v : V} (hk : keyS e = some k) (rv : Rep K T A H v d) : ∀ {xs : List (Key × V)} {ds : List (D × D)}, RepK K T A H xs ds → RepK K T A H (xs ++ [(k, v)]) (ds ++ [(e, d)])
  | _, _, .nil => .cons hk rv .nil
  | _, _, .cons hk2 q r => .cons hk2 q (repK_app hk rv r)
theorem repK_put {xs : List (Key × V)} {ds : List (D × D)} {e d : D} {v : V} (r : RepK K T A H xs ds) (hk : keyS e = some k) (rv : Rep K T A H v d) : RepK K T A H (putK xs k v) (dPutL ds e d) := by
  have h := find_atK hk r
  unfold putK dPutL
  rw [any_find, valV_any]
  cases q : dFind ds e with
  | none =>
    rw [q] at h
    rw [h, Option.isSome_none, if_neg Bool.false_ne_true, Option.isSome_none, if_neg Bool.false_ne_true]
    exact repK_app hk rv r
  | some y =>
    rw [q] at h
    obtain ⟨p, h1, _⟩ := h
    rw [h1, Option.isSome_some, if_pos rfl, Option.isSome_some, if_pos rfl]
    exact repK_map hk rv r
theorem repK_len : ∀ {xs : List (Key × V)} {ds : List (D × D)}, RepK K T A H xs ds → xs.length = ds.length
  | _, _, .nil => rfl
  | _, _, .cons _ _ r => by rw [List.length_cons, List.length_cons, repK_len r]
theorem repD_len0 : ∀ {xs : List En} {ds : List (D × D)}, RepD K T A H xs ds → xs.length = ds.length
  | _, _, .nil => rfl
  | _, _, .cons _ _ _ r => by rw [List.length_cons, List.length_cons, repD_len0 r]
theorem repD_okS {xs : List En} {ds : List (D × D)} (r : RepD K T A H xs ds) (h : okS ds = true) : xs = [] ∧ ds = [] := by
  cases r with
  | nil => exact ⟨rfl, rfl⟩
  | cons hk _ _ _ =>
    obtain ⟨es, rfl, _⟩ := keyT_of hk
    cases h
theorem repK_okT {xs : List (Key × V)} {ds : List (D × D)} (r : RepK K T A H xs ds) (h : okT ds = true) : xs = [] ∧ ds = [] := by
  cases r with
  | nil => exact ⟨rfl, rfl⟩
  | cons hk _ _ =>
    rcases keyS_of hk with ⟨i, rfl, rfl⟩ | ⟨x, rfl, rfl⟩ <;> cases h
end
/-- a dict stands at a -/
def DicAt (K : PySem.W.Frag) (T : Tk) (A : Addr → Prop) (H : Hp) (a : Addr) (ds : List (D × D)) : Prop := (∃ xs o, H a = some (DN a xs o) ∧ RepD K T A H xs ds) ∨ ∃ kvs, ds ≠ [] ∧ H a = some (.dK kvs) ∧ RepK K T A H kvs ds
theorem DicAt.mu {K : PySem.W.Frag} {T : Tk} {A : Addr → Prop} {H : Hp} {a : Addr} {ds : List (D × D)} (h : DicAt K T A H a ds) : L2.Mut (H a) := by
  rcases h with ⟨_, _, e, _⟩ | ⟨_, _, e, _⟩ <;> rw [e] <;> trivial
theorem rep_dic {K : PySem.W.Frag} {T : Tk} {A : Addr → Prop} {H : Hp} {v : V} {d : D} {ds : List (D × D)} (r : Rep K T A H v d) (e : d = .dict ds) (h : okD ds = true) : ∃ a, v = .ref a ∧ ¬ A a ∧ DicAt K T A H a ds := by
  cases r with
  | dic n h1 r1 => cases e; exact ⟨_, rfl, n, .inl ⟨_, _, h1, r1⟩⟩
  | dck c n h1 r1 => cases e; exact ⟨_, rfl, n, .inr ⟨_, c, h1, r1⟩⟩
  | tok _ => cases e; cases h
  | tok2 _ => cases e; cases h
  | scr _ _ => cases e; cases h
  | _ => cases e
theorem okT_okD : ∀ {ds : List (D × D)}, okT ds = true → okD ds = true
  | [], _ => rfl
  | (.tuple _, _) :: _, _ => rfl
theorem okS_okD : ∀ {ds : List (D × D)}, okS ds = true → okD ds = true
  | [], _ => rfl
  | (.int _, _) :: _, _ => rfl
  | (.str _, _) :: _, _ => rfl
theorem kOk_of {ds : List (D × D)} {e : D} (h : kOk ds e = true) : (okT ds = true ∧ ∃ k, keyT e = some k) ∨ okS ds = true ∧ ∃ k, keyS e = some k := by
  unfold kOk at h
  rw [Bool.or_eq_true, Bool.and_eq_true, Bool.and_eq_true, Option.isSome_iff_exists, Option.isSome_iff_exists] at h
  exact h
theorem kOk_okD {ds : List (D × D)} {e : D} (h : kOk ds e = true) : okD ds = true := (kOk_of h).elim (fun q => okT_okD q.1) fun q => okS_okD q.1
/-! ### the raw rules -/
section
variable {X : Cx} {pins : List (Addr × Obj)} {σ : L2.St} {H : Hp} {s : Shared} {T : Tk} {A : Addr → Prop} {a : Addr} {ds : List (D × D)}
/-- as a dict with tuple keys -/
theorem dn_any (I : Inv X pins σ H s) (h : DicAt X.K T A H a ds) (ho : okT ds = true) : ∃ xs : List En, RepD X.K T A H xs ds ∧ (a == sysModules) = false ∧ xs.length ≤ sizeLine ∧ (∀ x ∈ xs, numK x.1 = true) ∧ ∃ us, Vals (xs.map (·.2.2)) us ∧ s.heap.DictOfH (nestedKind X.prog X.w) a (zE xs us) := by
  rcases h with ⟨xs, o, e, r⟩ | ⟨kvs, c, e, r⟩
  · exact ⟨xs, r, dn_of I e r⟩
  · exact absurd (repK_okT r ho).2 c
/-- as a dict with int or text keys -/
theorem dk_any (I : Inv X pins σ H s) (h : DicAt X.K T A H a ds) (ho : okS ds = true) : ∃ kvs : List (Key × V), RepK X.K T A H kvs ds ∧ kvs.length ≤ sizeLine ∧ (a == sysModules) = false ∧ ∃ vs, KV kvs vs ∧ s.heap.DictOf (mixKind X.prog X.w) a vs := by
  rcases h with ⟨xs, o, e, r⟩ | ⟨kvs, c, e, r⟩
  · obtain ⟨rfl, rfl⟩ := repD_okS r ho
    obtain ⟨h1, h2, h4, us, rv, o, es, ep, h5, h6, h7, h8, h9, h10⟩ := dn_of I e r
    cases rv
    have e0 : es = #[] := Array.toList_eq_nil_iff.mp h8
    subst e0
    exact ⟨[], .nil, Nat.zero_le _, h1, [], .nil, o, #[], ep, h5, h6, h7, (fun i => by intro h; exact absurd h (by simp)), .nil, .nil⟩
  · obtain ⟨z, hd, vs, rel, dd⟩ := dk_of I.hok e
    exact ⟨kvs, r, z, hd, vs, rel, dd⟩
/-- what a dict is asked for -/
def DnAt (K : PySem.W.Frag) (T : Tk) (A : Addr → Prop) (H : Hp) (a : Addr) (ds : List (D × D)) (y : V) (e : D) : Prop := DicAt K T A H a ds ∧ Rep K T A H y e ∧ kOk ds e = true
end
section
variable {X : Cx}
def rSetD (K : PySem.W.Frag) : V → V → V → Hp → (Hp → Prop) → Prop := fun o i v H Q => ∃ (T : Tk) (A : Addr → Prop) (a : Addr) (ds : List (D × D)) (e : D), o = .ref a ∧ DnAt K T A H a ds i e ∧ ds.length < sizeLine ∧
  (∀ xs k b o, i = .ref b → keyT e = some k → RepD K T A H xs ds → Q (upd H a (DN a (putE xs k b v) o))) ∧ (∀ kvs k, keyS e = some k → RepK K T A H kvs ds → Q (upd H a (.dK (putK kvs k v))))
theorem set_dict (hu : X.A.units + 9 < cLine) : PSet X (rSetD X.K) := by
  intro pins s σ H o i v ov iv u Q I ro ri rv h
  obtain ⟨T, A, a, ds, e, rfl, ⟨ha, rk, ho⟩, hz, q1, q2⟩ := h
  cases ro
  have mu := ha.mu
  rcases kOk_of ho with ⟨ho, k, hk⟩ | ⟨ho, k, hk⟩
  · obtain ⟨xs, rd, hs, hl, hn, us, rvs, hd⟩ := dn_any I ha ho
    obtain ⟨b, rfl, rfl, ik⟩ := rep_key I rk ri hk
    have hlen : xs.length = us.length := by have := rvs.length; simpa using this
    have hxl : xs.length = ds.length := repD_len0 rd
    refine wpAny_setItem_heap (show X.A.in1.units + 8 < cLine by show X.A.units + 1 + 8 < cLine; omega) ik hd (fun h' hm hsb => ?_) (by rw [zE_len hlen]; exact hl)
    obtain ⟨us', r2, e2⟩ := zE_put (k := k) (b := b) rv rvs
    rw [← e2] at hm
    have hz2 : (putE xs k b v).length ≤ sizeLine := by
      have := putE_len (xs := xs) (k := k) (b := b) (v := v)
      omega
    have hn2 : ∀ x ∈ putE xs k b v, numK x.1 = true := by
      intro x hx
      rcases putE_mem hx with h | ⟨y, hy, h⟩
      · rw [h]
        obtain ⟨_, _, h1, _⟩ := keyT_of hk
        exact nk_num h1
      · rw [← h]; exact hn y hy
    have ho : ∃ o, h'.get? a = some o := by
      obtain ⟨o, _, _, ho, _⟩ := hm
      exact ⟨o, ho⟩
    obtain ⟨o2, ok2⟩ := dn_mk (xs := putE xs k b v) hs hz2 hn2 r2 hm
    exact ⟨_, I.write (x := a) (e := a) mu (.inl rfl) (fun c w hc q => (hsb.2 c hc).trans q) ho (ok2 _), q1 xs k b o2 rfl hk rd⟩
  · obtain ⟨kvs, rd, z, hd, vs, rel, dd⟩ := dk_any I ha ho
    have ei := keyS_rep rk hk
    subst ei
    have hkl := repK_len rd
    refine wpAny_setItem_pairs (hsz := by rw [← rel.length]; exact z) (kV_is ri) dd fun h' dd' hs => ?_
    have he : ∃ q, h'.get? a = some q := let ⟨q, _, _, hq, _⟩ := dd'; ⟨q, hq⟩
    have hl : (putK kvs k v).length ≤ sizeLine := by have := length_putK kvs k v; omega
    exact ⟨_, d_write I mu hs he (dk_new hl hd (rel.put k rv) dd'), q2 kvs k hk rd⟩
def rGetD (K : PySem.W.Frag) : R2 := fun o i H Q => ∃ (T : Tk) (A : Addr → Prop) (a : Addr) (ds : List (D × D)) (e d : D), o = .ref a ∧ DnAt K T A H a ds i e ∧ dFind ds e = some d ∧ ∀ v, Rep K T A H v d → Q v H
def rInD (K : PySem.W.Frag) : R2 := fun i o H Q => ∃ (T : Tk) (A : Addr → Prop) (a : Addr) (ds : List (D × D)) (e : D), o = .ref a ∧ DnAt K T A H a ds i e ∧ Q (.bl (dFind ds e).isSome) H
def rNotInD (K : PySem.W.Frag) : R2 := fun i o H Q => ∃ (T : Tk) (A : Addr → Prop) (a : Addr) (ds : List (D × D)) (e : D), o = .ref a ∧ DnAt K T A H a ds i e ∧ Q (.bl (!(dFind ds e).isSome)) H
/-- what is found -/
theorem fd_n {pins : List (Addr × Obj)} {σ : L2.St} {H : Hp} {s : Shared} {T : Tk} {A : Addr → Prop} {xs : List En} {ds : List (D × D)} {us : List Value} {e : D} {k : NestedKey} (hk : keyT e = some k) (rd : RepD X.K T A H xs ds) (rvs : Vals (xs.map (·.2.2)) us) :
    match dFind ds e with | some d => ∃ p w, atKey (zE xs us) k = some p ∧ RelV w p.2 ∧ Rep X.K T A H w d | none => atKey (zE xs us) k = none := by
  have h1 := find_at hk rd
  have h2 := at_zE (k := k) rvs
  cases q : dFind ds e with
  | none => rw [q] at h1; rw [h1] at h2; exact h2
  | some d =>
    rw [q] at h1
    obtain ⟨p, h1, rp⟩ := h1
    rw [h1] at h2
    obtain ⟨w, h2, rw'⟩ := h2
    exact ⟨_, p.2, h2, rw', rp⟩
theorem fd_k {H : Hp} {T : Tk} {A : Addr → Prop} {kvs : List (Key × V)} {ds : List (D × D)} {vs : List (Key × Value)} {e : D} {k : Key} (hk : keyS e = some k) (rd : RepK X.K T A H kvs ds) (rel : KV kvs vs) :
    match dFind ds e with | some d => ∃ u w, valueAt vs k = some u ∧ RelV w u ∧ Rep X.K T A H w d | none => valueAt vs k = none := by
  have h1 := find_atK hk rd
  have h2 := rel.val k
  cases q : dFind ds e with
  | none => rw [q] at h1; rw [h1] at h2; cases h : valueAt vs k with | none => rfl | some u => rw [h] at h2; exact h2.elim
  | some d =>
    rw [q] at h1
    obtain ⟨p, h1, rp⟩ := h1
    rw [h1] at h2
    cases h : valueAt vs k with
    | none => rw [h] at h2; exact h2.elim
    | some u => rw [h] at h2; exact ⟨u, p, rfl, h2, rp⟩
theorem ix_dict (hu : X.A.units + 9 < cLine) : IxR X (rGetD X.K) := by
  intro value slice pins s σ H x y v u Q I rx ry h hs
  obtain ⟨T, A, a, ds, e, d, rfl, ⟨ha, rk, ho⟩, hf, q⟩ := h
  cases rx
  rcases kOk_of ho with ⟨ho, k, hk⟩ | ⟨ho, k, hk⟩
  · obtain ⟨xs, rd, _, _, _, us, rvs, hd⟩ := dn_any I ha ho
    obtain ⟨b, rfl, rfl, ik⟩ := rep_key I rk ry hk
    have h2 := fd_n (pins := pins) (σ := σ) (s := s) hk rd rvs
    rw [hf] at h2
    obtain ⟨p, w, h2, rw', rp⟩ := h2
    exact tail_any hd.typeIs PySem.F.slot_dict_getitem.lookup (wpAny_getItem_heap (show X.A.in1.units + 8 < cLine by show X.A.units + 1 + 8 < cLine; omega) ik hd h2 ⟨w, H, I.tok _, rw', q _ rp⟩) hs
  · obtain ⟨kvs, rd, z, hd, vs, rel, dd⟩ := dk_any I ha ho
    have ei := keyS_rep rk hk
    subst ei
    have h2 := fd_k hk rd rel
    rw [hf] at h2
    obtain ⟨u', w, h2, rw', rp⟩ := h2
    exact tail_any dd.typeIs PySem.F.slot_dict_getitem.lookup (wpAny_getItem_of (kV_is ry) dd.mapOf h2 ⟨w, H, I.tok _, rw', q _ rp⟩) hs
theorem op_inD (hu : X.A.units + 9 < cLine) : OpR X (compareOp .In) (rInD X.K) := by
  intro pins s σ H y x u v Q I ry rx h
  obtain ⟨T, A, a, ds, e, rfl, ⟨ha, rk, ho⟩, q⟩ := h
  cases rx
  rcases kOk_of ho with ⟨ho, k, hk⟩ | ⟨ho, k, hk⟩
  · obtain ⟨xs, rd, hs, _, _, us, rvs, hd⟩ := dn_any I ha ho
    obtain ⟨b, rfl, rfl, ik⟩ := rep_key I rk ry hk
    refine wpAny_in_heap (show X.A.in1.units + 8 < cLine by show X.A.units + 1 + 8 < cLine; omega) ik hs hd ?_
    have h2 := fd_n (pins := pins) (σ := σ) (s := s) hk rd rvs
    have e2 : (atKey (zE xs us) k).isSome = (dFind ds e).isSome := by
      cases h : dFind ds e with
      | none => rw [h] at h2; rw [h2]; rfl
      | some d => rw [h] at h2; obtain ⟨p, w, h2, _⟩ := h2; rw [h2]; rfl
    rw [e2]
    exact ⟨.bl _, H, I.tok _, rfl, q⟩
  · obtain ⟨kvs, rd, z, hd, vs, rel, dd⟩ := dk_any I ha ho
    have ei := keyS_rep rk hk
    subst ei
    refine wpAny_in_of (kV_is ry) hd dd.mapOf ?_
    have h2 := fd_k hk rd rel
    have e2 : (valueAt vs k).isSome = (dFind ds e).isSome := by
      cases h : dFind ds e with
      | none => rw [h] at h2; rw [h2]; rfl
      | some d => rw [h] at h2; obtain ⟨p, w, h2, _⟩ := h2; rw [h2]; rfl
    rw [e2]
    exact ⟨.bl _, H, I.tok _, rfl, q⟩
theorem op_notInD (hu : X.A.units + 9 < cLine) : OpR X (compareOp .NotIn) (rNotInD X.K) := by
  intro pins s σ H y x u v Q I ry rx h
  obtain ⟨T, A, a, ds, e, rfl, ⟨ha, rk, ho⟩, q⟩ := h
  cases rx
  rcases kOk_of ho with ⟨ho, k, hk⟩ | ⟨ho, k, hk⟩
  · obtain ⟨xs, rd, hs, _, _, us, rvs, hd⟩ := dn_any I ha ho
    obtain ⟨b, rfl, rfl, ik⟩ := rep_key I rk ry hk
    refine wpAny_notIn_heap (show X.A.in1.units + 8 < cLine by show X.A.units + 1 + 8 < cLine; omega) ik hs hd ?_
    have h2 := fd_n (pins := pins) (σ := σ) (s := s) hk rd rvs
    have e2 : (atKey (zE xs us) k).isSome = (dFind ds e).isSome := by
      cases h : dFind ds e with
      | none => rw [h] at h2; rw [h2]; rfl
      | some d => rw [h] at h2; obtain ⟨p, w, h2, _⟩ := h2; rw [h2]; rfl
    rw [e2]
    exact ⟨.bl _, H, I.tok _, rfl, q⟩
  · obtain ⟨kvs, rd, z, hd, vs, rel, dd⟩ := dk_any I ha ho
    have ei := keyS_rep rk hk
    subst ei
    refine wpAny_notIn_of (kV_is ry) hd dd.mapOf ?_
    have h2 := fd_k hk rd rel
    have e2 : (valueAt vs k).isSome = (dFind ds e).isSome := by
      cases h : dFind ds e with
      | none => rw [h] at h2; rw [h2]; rfl
      | some d => rw [h] at h2; obtain ⟨p, w, h2, _⟩ := h2; rw [h2]; rfl
    rw [e2]
    exact ⟨.bl _, H, I.tok _, rfl, q⟩
/-- d.get(k, x), d.get(k): the call -/
theorem call_get {pins : List (Addr × Obj)} {σ : L2.St} {H : Hp} {s : Shared} {T : Tk} {A : Addr → Prop} {a : Addr} {ds : List (D × D)} {e x : D} {y z : V} {u r : Value} {Q : Value → Shared → Prop} {E : Value → Shared → Prop} (more : Bool) (hu : X.A.units + 9 < cLine) (I : Inv X pins σ H s) (g : DnAt X.K T A H a ds y e) (ry : RelV y u) (rz : RelV z r) (rx : Rep X.K T A H z x) (hx : more = false → r = .none)
    (h : ∀ w' w s', Inv X pins σ H s' → RelV w w' → Rep X.K T A H w ((dFind ds e).getD x) → Q w' s') : wpAny (model X.prog X.w) X.A (call (.builtin "dict.get") (.ref a :: u :: if more then [r] else [])) Q E s := by
  obtain ⟨ha, rk, ho⟩ := g
  rcases kOk_of ho with ⟨ho, k, hk⟩ | ⟨ho, k, hk⟩
  · obtain ⟨xs, rd, hs, _, _, us, rvs, hd⟩ := dn_any I ha ho
    obtain ⟨b, rfl, rfl, ik⟩ := rep_key I rk ry hk
    have fin : Q (((atKey (zE xs us) k).map (·.2)).getD r) { s with toks := s.toks + (nestedKind X.prog X.w).draws k } := by
      have h2 := fd_n (pins := pins) (σ := σ) (s := s) hk rd rvs
      cases hq : dFind ds e with
      | none =>
        rw [hq] at h2 h
        rw [h2]
        exact h r z _ (I.tok _) rz rx
      | some d =>
        rw [hq] at h2 h
        obtain ⟨p, w, h2, rw', rp⟩ := h2
        rw [h2]
        exact h p.2 w _ (I.tok _) rw' rp
    cases more with
    | true => exact call_meetsIn PySem.F.slot_dict_get hd.typeIs PySem.F.entry_dict_get (PySem.F.args_dict_get_3 _ _ _) (meetsH_dict_get_default (nestedKind X.prog X.w) a b hs r) ⟨show X.A.in1.units + 8 < cLine by show X.A.units + 1 + 8 < cLine; omega, k, _, ik, hd, fin⟩
    | false =>
      rw [hx rfl] at fin
      exact call_meetsIn PySem.F.slot_dict_get hd.typeIs PySem.F.entry_dict_get (PySem.F.args_dict_get_2 _ _) (meetsH_dict_get (nestedKind X.prog X.w) a b hs) ⟨show X.A.in1.units + 8 < cLine by show X.A.units + 1 + 8 < cLine; omega, k, _, ik, hd, fin⟩
  · obtain ⟨kvs, rd, z', hd, vs, rel, dd⟩ := dk_any I ha ho
    have ei := keyS_rep rk hk
    subst ei
    have fin : ∀ t, Q ((valueAt vs k).getD r) { s with toks := t } := fun t => by
      have h2 := fd_k hk rd rel
      cases hq : dFind ds e with
      | none =>
        rw [hq] at h2 h
        rw [h2]
        exact h r z _ (I.tok _) rz rx
      | some d =>
        rw [hq] at h2 h
        obtain ⟨p, w, h2, rw', rp⟩ := h2
        rw [h2]
        exact h p w _ (I.tok _) rw' rp
    cases more with
    | true => exact call_meetsIn PySem.F.slot_dict_get dd.typeIs PySem.F.entry_dict_get (PySem.F.args_dict_get_3 _ _ _) (meets_dict_get_default (mixKind X.prog X.w) a (kV_is ry) hd r) ⟨_, dd.mapOf, fin _⟩
    | false =>
      rw [hx rfl] at fin
      exact call_meetsIn PySem.F.slot_dict_get dd.typeIs PySem.F.entry_dict_get (PySem.F.args_dict_get_2 _ _) (meets_dict_get (mixKind X.prog X.w) a (kV_is ry) hd) ⟨_, dd.mapOf, fin _⟩
end
end Qv

namespace Qv
open PySem PySem.Spec PyProof.Rows L2
/-! ## readings may be narrowed -/
section
variable {X : Cx}
theorem imE {e : Expr} {t t' : TE} (h : PE X e t) (i : ∀ σ H Q, t' σ H Q → t σ H Q) : PE X e t' := ⟨fun pins s σ H Q I q => h.run pins s σ H Q I (i σ H Q q)⟩
theorem imT {e : Expr} {t t' : TT} (h : PT X e t) (i : ∀ σ H Q, t' σ H Q → t σ H Q) : PT X e t' := ⟨fun pins s σ H Q I q => h.run pins s σ H Q I (i σ H Q q)⟩
theorem imW {e : Expr} {t t' : TT} (h : PW X e t) (i : ∀ σ H Q, t' σ H Q → t σ H Q) : PW X e t' := ⟨fun wh pins s σ H Q I q => h.run wh pins s σ H Q I (i σ H Q q)⟩
theorem imA {e : List Expr} {t t' : TA} (h : PA X e t) (i : ∀ σ H Q, t' σ H Q → t σ H Q) : PA X e t' := ⟨fun pos pins s σ H Q I q => h.run pos pins s σ H Q I (i σ H Q q)⟩
theorem imI {tg e : Expr} {t t' : TI} (h : PI X tg e t) (i : ∀ σ H Q, t' σ H Q → t σ H Q) : PI X tg e t' := ⟨fun pins s σ H Q I q => h.run pins s σ H Q I (i σ H Q q)⟩
theorem imS {e : Stmt} {t t' : TS} (h : PS X e t) (i : ∀ D σ H, t' D σ H → t D σ H) : PS X e t' := ⟨fun pins s σ H Q I q => h.run pins s σ H Q I (i Q σ H q)⟩
theorem imSs {e : List Stmt} {t t' : TS} (h : PSs X e t) (i : ∀ D σ H, t' D σ H → t D σ H) : PSs X e t' := ⟨fun pins s σ H Q I q => h.run pins s σ H Q I (i Q σ H q)⟩
end

/-! ## the names' values -/
abbrev Rh := List (Option D)
def rAt : Rh → Nat → Option D
  | [], _ => none
  | x :: _, 0 => x
  | _ :: xs, n + 1 => rAt xs n
def rPut : Rh → Nat → D → Rh
  | [], _, _ => []
  | _ :: xs, 0, d => some d :: xs
  | x :: xs, n + 1, d => x :: rPut xs n d
structure Ev (K : PySem.W.Frag) (T : Tk) (A : Addr → Prop) (ρ : Rh) (σ : L2.St) (H : Hp) : Prop where
  len : ρ.length = σ.length
  val : ∀ i p, rAt ρ i = some p → ∃ v, σ[i]? = some (some v) ∧ Rep K T A H v p
def rCut1 : Rh → Nat → Rh
  | [], _ => []
  | _ :: xs, 0 => none :: xs
  | x :: xs, n + 1 => x :: rCut1 xs n
def rCut (ρ : Rh) : List Nat → Rh
  | [] => ρ
  | v :: vs => rCut1 (rCut ρ vs) v
def rPuts : Rh → List Nat → List D → Rh
  | ρ, i :: is, d :: ds => rPuts (rPut ρ i d) is ds
  | ρ, _, _ => ρ
theorem rPut_len : ∀ (ρ : Rh) (i : Nat) (d : D), (rPut ρ i d).length = ρ.length
  | [], _, _ => rfl
  | _ :: _, 0, _ => rfl
  | _ :: xs, n + 1, d => by rw [rPut, List.length_cons, rPut_len xs n d, List.length_cons]
theorem rCut1_len : ∀ (ρ : Rh) (i : Nat), (rCut1 ρ i).length = ρ.length
  | [], _ => rfl
  | _ :: _, 0 => rfl
  | _ :: xs, n + 1 => by rw [rCut1, List.length_cons, rCut1_len xs n, List.length_cons]
theorem rCut_len (ρ : Rh) : ∀ vs : List Nat, (rCut ρ vs).length = ρ.length
  | [] => rfl
  | v :: vs => by rw [rCut, rCut1_len, rCut_len ρ vs]
theorem rAt_put : ∀ (ρ : Rh) (i j : Nat) (d : D), rAt (rPut ρ i d) j = if j = i then (if i < ρ.length then some d else none) else rAt ρ j
  | [], i, j, d => by simp [rPut, rAt]
  | x :: xs, 0, 0, d => by simp [rPut, rAt]
  | x :: xs, 0, j + 1, d => by simp [rPut, rAt]
  | x :: xs, i + 1, 0, d => by simp [rPut, rAt]
  | x :: xs, i + 1, j + 1, d => by simp [rPut, rAt, rAt_put xs i j d]
theorem rAt_cut1 : ∀ (ρ : Rh) (i j : Nat), rAt (rCut1 ρ i) j = if j = i then none else rAt ρ j
  | [], i, j => by simp [rCut1, rAt]
  | x :: xs, 0, 0 => by simp [rCut1, rAt]
  | x :: xs, 0, j + 1 => by simp [rCut1, rAt]
  | x :: xs, i + 1, 0 => by simp [rCut1, rAt]
  | x :: xs, i + 1, j + 1 => by simp [rCut1, rAt, rAt_cut1 xs i j]
theorem rAt_cut (ρ : Rh) (j : Nat) : ∀ vs : List Nat, rAt (rCut ρ vs) j = if j ∈ vs then none else rAt ρ j
  | [] => by simp [rCut]
  | v :: vs => by
    rw [rCut, rAt_cut1, rAt_cut ρ j vs]
    by_cases h : j = v
    · simp [h]
    · by_cases h2 : j ∈ vs <;> simp [h, h2]
section
variable {K : PySem.W.Frag} {T : Tk} {A : Addr → Prop} {H H' : Hp}
theorem Ev.step {ρ : Rh} {σ : L2.St} (w : Wd T A H) (e : Ev K T A ρ σ H) (s : Step T H H') : Ev K T A ρ σ H' := ⟨e.len, fun i p h => by
  obtain ⟨v, h1, h2⟩ := e.val i p h
  exact ⟨v, h1, h2.step w s⟩⟩
theorem Ev.put {ρ : Rh} {σ : L2.St} {i : Nat} {v : V} {d : D} (e : Ev K T A ρ σ H) (r : Rep K T A H v d) : Ev K T A (rPut ρ i d) (σ.set i (some v)) H := ⟨by rw [rPut_len, List.length_set, e.len], fun j p h => by
  rw [rAt_put] at h
  by_cases hj : j = i
  · rw [if_pos hj] at h
    subst hj
    by_cases hl : j < ρ.length
    · rw [if_pos hl] at h
      cases h
      exact ⟨v, List.getElem?_set_self (by rw [← e.len]; exact hl), r⟩
    · rw [if_neg hl] at h; cases h
  · rw [if_neg hj] at h
    obtain ⟨u, h1, h2⟩ := e.val j p h
    exact ⟨u, by rw [List.getElem?_set_ne (Ne.symm hj)]; exact h1, h2⟩⟩
theorem Ev.cut {ρ : Rh} {σ : L2.St} (e : Ev K T A ρ σ H) (vs : List Nat) : Ev K T A (rCut ρ vs) (wipe σ vs) H := ⟨by rw [rCut_len, wipe_length, e.len], fun j p h => by
  rw [rAt_cut] at h
  by_cases hj : j ∈ vs
  · rw [if_pos hj] at h; cases h
  · rw [if_neg hj] at h
    obtain ⟨u, h1, h2⟩ := e.val j p h
    exact ⟨u, by rw [wipe_out hj]; exact h1, h2⟩⟩
theorem Ev.ext {B : Addr → Prop} {ρ : Rh} {σ : L2.St} (e : Ev K T A ρ σ H) (h : ∀ a, B a → A a ∨ H a = none) : Ev K T B ρ σ H := ⟨e.len, fun j p q => by
  obtain ⟨u, h1, h2⟩ := e.val j p q
  exact ⟨u, h1, h2.ext h⟩⟩
theorem Ev.stA {ρ : Rh} {σ : L2.St} (w : MuN A H) (e : Ev K T A ρ σ H) (s : StA A H H') : Ev K T A ρ σ H' := ⟨e.len, fun i p h => by
  obtain ⟨v, h1, h2⟩ := e.val i p h
  exact ⟨v, h1, h2.stA w s⟩⟩
end
structure Post (K : PySem.W.Frag) (T : Tk) (A : Addr → Prop) (H H' : Hp) (p : D) (v : V) : Prop where
  st : Step T H H'
  ok : T.ok H'
  rp : Rep K T A H' v p
section
variable {K : PySem.W.Frag} {T : Tk} {A : Addr → Prop} {H H' H2 : Hp} {p : D} {v : V}
theorem Post.same (w : Wd T A H) (r : Rep K T A H v p) : Post K T A H H p v := ⟨.refl, w.ok, r⟩
theorem Post.after (q : Post K T A H' H2 p v) (s : Step T H H') : Post K T A H H2 p v := ⟨s.trans q.st, q.ok, q.rp⟩
theorem Post.wd (q : Post K T A H H' p v) (w : Wd T A H) : Wd T A H' := w.step q.st q.ok
theorem Post.tup {a : Addr} {xs : List V} {ds : List D} (w : Wd T A H) (n : H a = none) (r : Reps K T A H xs ds) : Post K T A H (upd H a (.tup xs)) (.tuple ds) (.ref a) :=
  ⟨step_new n, (w.laid n).ok, .tup (SqT.of upd_same) (r.step w (step_new n))⟩
theorem Post.lst {a : Addr} {xs : List V} {ds : List D} (w : Wd T A H) (n : H a = none) (r : Reps K T A H xs ds) : Post K T A H (upd H a (.lst xs)) (.list ds) (.ref a) :=
  ⟨step_new n, (w.laid n).ok, .lst (w.new n) upd_same (r.step w (step_new n))⟩
end

/-! ## the judgements -/
section
variable {m : Type → Type} [PM m]
def tE (K : PySem.W.Frag) (ρ : Rh) (x : m D) : TE := fun σ H Q => ∃ T A, Wd T A H ∧ Ev K T A ρ σ H ∧ PM.run x fun p => ∀ v H', Post K T A H H' p v → Q v H'
def tL (K : PySem.W.Frag) (ρ : Rh) (x : m (List D)) : TA := fun σ H Q => ∃ T A, Wd T A H ∧ Ev K T A ρ σ H ∧ PM.run x fun ps => ∀ vs H', Step T H H' → T.ok H' → Reps K T A H' vs ps → Q vs H'
def tP (K : PySem.W.Frag) (ρ : Rh) (x : m Bool) : TT := fun σ H Q => ∃ T A, Wd T A H ∧ Ev K T A ρ σ H ∧ PM.run x fun b => ∀ H', Step T H H' → T.ok H' → Q b H'
abbrev VE (X : Cx) (ρ : Rh) (e : Expr) (x : m D) : Prop := PE X e (tE X.K ρ x)
structure VA (X : Cx) (ρ : Rh) (es : List Expr) (x : m (List D)) : Prop where
  pa : PA X es (tL X.K ρ x)
  ln : ∀ K : List D → Prop, PM.run x K → PM.run x fun l => K l ∧ l.length = es.length
abbrev VP (X : Cx) (ρ : Rh) (e : Expr) (x : m Bool) : Prop := PT X e (tP X.K ρ x)
abbrev VW (X : Cx) (ρ : Rh) (e : Expr) (x : m Bool) : Prop := PW X e (tP X.K ρ x)
end
section
variable {m : Type → Type} [PM m] {X : Cx} {ρ : Rh} {a b e : Expr} {es : List Expr} {xa xb : m D} {xs : m (List D)} {pos : Pos}
/-- one thing after another -/
theorem seqE {K : PySem.W.Frag} {σ : L2.St} {H : Hp} {f : D → m D} {Q : VK} {R : V → Hp → Prop} (h : tE K ρ (xa >>= f) σ H Q)
    (k : ∀ T A v H1 p, Wd T A H1 → Ev K T A ρ σ H1 → Rep K T A H1 v p → (PM.run (f p) fun p => ∀ v H', Post K T A H1 H' p v → Q v H') → R v H1) : tE K ρ xa σ H R := by
  obtain ⟨T, A, w, ev, h⟩ := h
  rw [PM.run_bind] at h
  refine ⟨T, A, w, ev, PM.mono (fun p h v H1 q => ?_) h⟩
  exact k T A v H1 p (q.wd w) (ev.step w q.st) q.rp (PM.mono (fun p2 h2 v2 H2 q2 => h2 v2 H2 (q2.after q.st)) h)
theorem tE_intro {K : PySem.W.Frag} {T : Tk} {A : Addr → Prop} {σ : L2.St} {H : Hp} {Q : VK} {x : m D} (w : Wd T A H) (ev : Ev K T A ρ σ H) (h : PM.run x fun p => ∀ v H', Post K T A H H' p v → Q v H') : tE K ρ x σ H Q := ⟨T, A, w, ev, h⟩
/-! ### names, constants -/
theorem VE.var (i : Nat) {x : Str} {p : D} (hr : rAt ρ i = some p := by rfl) (hN : X.N[i]? = some x := by rfl) (hv : Vis X.env.scope x := by first | exact Or.inl rfl | exact Or.inr (Or.inl rfl) | exact Or.inr (Or.inr rfl)) (hd : (x == ("__debug__" : Str)) = false := by decide)
    (hcd : (x == ("__classdict__" : Str)) = false := by decide) : VE (m := m) X ρ (.Name x pos) (pure p) :=
  imE (pe_var hN hv hd hcd) fun σ H Q ⟨T, A, w, ev, h⟩ => by
    obtain ⟨v, h1, h2⟩ := ev.val i p hr
    exact ⟨v, h1, (PM.run_pure _ _).mp h v H (.same w h2)⟩
theorem veC {v : V} {d : D} (h : PE X e (tC v)) (r : ∀ T A H, Rep X.K T A H v d) : VE (m := m) X ρ e (pure d) :=
  imE h fun σ H Q ⟨T, A, w, ev, h⟩ => (PM.run_pure _ _).mp h v H (.same w (r T A H))
theorem VE.int {i : Int} {j : Nat} : VE (m := m) X ρ (.Constant (.int i) j pos) (pure (.int i)) := veC pe_int fun _ _ _ => .int i
theorem VE.bl {i : Bool} {j : Nat} : VE (m := m) X ρ (.Constant (.bool i) j pos) (pure (.bool i)) := veC pe_bl fun _ _ _ => .bl i
theorem VE.non {j : Nat} : VE (m := m) X ρ (.Constant .none j pos) (pure .none) := veC pe_non fun _ _ _ => .non
theorem VE.str {i : Str} {j : Nat} : VE (m := m) X ρ (.Constant (.str i) j pos) (pure (.str i)) := veC pe_str fun _ _ _ => .str i
theorem VE.negc {i : Int} {j : Nat} {p2 : Pos} : VE (m := m) X ρ (.UnaryOp .USub (.Constant (.int i) j p2) pos) (pure (.int (-i))) :=
  imE (pe_un un_neg pe_int) fun σ H Q ⟨T, A, w, ev, h⟩ => ⟨i, rfl, (PM.run_pure _ _).mp h _ H (.same w (.int _))⟩
/-! ### arguments, displays -/
theorem VA.nil : VA (m := m) X ρ [] (pure []) := ⟨imA pa_nil fun σ H Q ⟨T, A, w, ev, h⟩ => (PM.run_pure _ _).mp h [] H .refl w.ok .nil, fun K h => (PM.run_pure _ _).mpr ⟨(PM.run_pure _ _).mp h, rfl⟩⟩
theorem VA.cons (ha : VE X ρ e xa) (hr : VA X ρ es xs) (hs : starEach (e :: es) X.env = (false, eval e X.env) :: starEach es X.env := by rfl) : VA X ρ (e :: es) (xa >>= fun a => xs >>= fun l => pure (a :: l)) :=
  ⟨imA (pa_cons ha hr.pa hs) fun σ H Q ⟨T, A, w, ev, h⟩ => by
    rw [PM.run_bind] at h
    refine ⟨T, A, w, ev, PM.mono (fun p h v H1 q => ?_) h⟩
    rw [PM.run_bind] at h
    refine ⟨T, A, q.wd w, ev.step w q.st, PM.mono (fun ps h vs H2 s2 o2 r2 => ?_) h⟩
    exact (PM.run_pure _ _).mp h _ _ (q.st.trans s2) o2 (.cons (q.rp.step (q.wd w) s2) r2), fun K h => by
    rw [PM.run_bind] at h ⊢
    refine PM.mono (fun p h => ?_) h
    rw [PM.run_bind] at h ⊢
    refine PM.mono (fun ps h => ?_) (hr.ln _ h)
    rw [PM.run_pure] at h ⊢
    exact ⟨h.1, by rw [List.length_cons, List.length_cons, h.2]⟩⟩
/-- constants -/
theorem VA.consC {d : D} {ds : List D} (ha : VE (m := m) X ρ e (pure d)) (hr : VA (m := m) X ρ es (pure ds)) (hs : starEach (e :: es) X.env = (false, eval e X.env) :: starEach es X.env := by rfl) : VA (m := m) X ρ (e :: es) (pure (d :: ds)) :=
  ⟨imA (VA.cons ha hr hs).pa fun σ H Q ⟨T, A, w, ev, h⟩ => ⟨T, A, w, ev, by
    rw [PM.run_bind, PM.run_pure, PM.run_bind, PM.run_pure]
    exact h⟩, fun K h => by
    have e2 := (PM.run_pure _ _).mp (hr.ln (fun _ => True) ((PM.run_pure _ _).mpr trivial))
    rw [PM.run_pure] at h ⊢
    exact ⟨h, by rw [List.length_cons, List.length_cons, e2.2]⟩⟩
theorem VE.tup {k : Nat} (h : VA X ρ es xs) (hz : es.length ≤ sizeLine := by decide) : VE X ρ (.Tuple es k pos) (xs >>= fun l => pure (.tuple l)) :=
  imE (pe_tup h.pa) fun σ H Q ⟨T, A, w, ev, q⟩ => by
    rw [PM.run_bind] at q
    refine ⟨T, A, w, ev, PM.mono (fun ps q vs H2 s2 o2 r2 => ?_) (h.ln _ q)⟩
    obtain ⟨q, hl⟩ := q
    refine ⟨by rw [r2.length, hl]; exact hz, fun p np => ?_⟩
    exact (PM.run_pure _ _).mp q _ _ ((Post.tup (w.step s2 o2) np r2).after s2)
theorem VE.lst (h : VA X ρ es xs) (hz : es.length ≤ sizeLine := by decide) : VE X ρ (.List es pos) (xs >>= fun l => pure (.list l)) :=
  imE (pe_lst h.pa) fun σ H Q ⟨T, A, w, ev, q⟩ => by
    rw [PM.run_bind] at q
    refine ⟨T, A, w, ev, PM.mono (fun ps q vs H2 s2 o2 r2 => ?_) (h.ln _ q)⟩
    obtain ⟨q, hl⟩ := q
    refine ⟨by rw [r2.length, hl]; exact hz, fun p np => ?_⟩
    exact (PM.run_pure _ _).mp q _ _ ((Post.lst (w.step s2 o2) np r2).after s2)
theorem tE_pure {K : PySem.W.Frag} {σ : L2.St} {H : Hp} {Q : VK} {α : Type} {d : α} {f : α → m D} (h : tE K ρ (f d) σ H Q) : tE K ρ ((pure d : m α) >>= f) σ H Q := by
  obtain ⟨T, A, w, ev, q⟩ := h
  exact ⟨T, A, w, ev, by rw [PM.run_bind, PM.run_pure]; exact q⟩
theorem VE.tupC {k : Nat} {ds : List D} (h : VA (m := m) X ρ es (pure ds)) (hz : es.length ≤ sizeLine := by decide) : VE (m := m) X ρ (.Tuple es k pos) (pure (.tuple ds)) :=
  imE (VE.tup h hz) fun _ _ _ q => tE_pure (f := fun l => pure (.tuple l)) q
theorem VE.lstC {ds : List D} (h : VA (m := m) X ρ es (pure ds)) (hz : es.length ≤ sizeLine := by decide) : VE (m := m) X ρ (.List es pos) (pure (.list ds)) :=
  imE (VE.lst h hz) fun _ _ _ q => tE_pure (f := fun l => pure (.list l)) q
/-! ### operators, by what they ask of plain values -/
def OkR (K : PySem.W.Frag) (f : D → D → Option D) (r : R2) : Prop := ∀ (T : Tk) (A : Addr → Prop) (H : Hp) (x y : V) (p q d : D) (Q : VK), Wd T A H → Rep K T A H x p → Rep K T A H y q → f p q = some d → (∀ v H', Post K T A H H' d v → Q v H') → r x y H Q
def OkU (K : PySem.W.Frag) (f : D → Option D) (r : V → Hp → VK → Prop) : Prop := ∀ (T : Tk) (A : Addr → Prop) (H : Hp) (x : V) (p d : D) (Q : VK), Wd T A H → Rep K T A H x p → f p = some d → (∀ v H', Post K T A H H' d v → Q v H') → r x H Q
def OkC (K : PySem.W.Frag) (f : List D → Option D) (r : List V → Hp → VK → Prop) : Prop := ∀ (T : Tk) (A : Addr → Prop) (H : Hp) (xs : List V) (ps : List D) (d : D) (Q : VK), Wd T A H → Reps K T A H xs ps → f ps = some d → (∀ v H', Post K T A H H' d v → Q v H') → r xs H Q
/-- the reading of two things and an operator -/
theorem tOp2 {K : PySem.W.Frag} {f : D → D → Option D} {r : R2} (hr : OkR K f r) {σ : L2.St} {H : Hp} {Q : VK} (h : tE K ρ (xa >>= fun p => xb >>= fun q => PM.lift (f p q)) σ H Q) : tOp r (tE K ρ xa) (tE K ρ xb) σ H Q := by
  refine seqE h fun T A v H1 p w ev rp h => ?_
  rw [PM.run_bind] at h
  refine ⟨T, A, w, ev, PM.mono (fun q h v2 H2 o2 => ?_) h⟩
  obtain ⟨d, e, h⟩ := (PM.run_lift _ _).mp h
  exact hr T A H2 v v2 p q d Q (o2.wd w) (rp.step w o2.st) o2.rp e fun v3 H3 o3 => h v3 H3 (o3.after o2.st)
theorem VE.op {op : Operator} {r : R2} {f : D → D → Option D} (ho : OpR X (binaryOp op) r) (hr : OkR X.K f r) (ha : VE X ρ a xa) (hb : VE X ρ b xb) : VE X ρ (.BinOp a op b pos) (xa >>= fun p => xb >>= fun q => PM.lift (f p q)) :=
  imE (pe_op ho ha hb) fun _ _ _ h => tOp2 hr h
theorem VE.un {op : UnaryOp} {r : V → Hp → VK → Prop} {f : D → Option D} (ho : UnR X (unaryOp op) r) (hr : OkU X.K f r) (ha : VE X ρ a xa) : VE X ρ (.UnaryOp op a pos) (xa >>= fun p => PM.lift (f p)) :=
  imE (pe_un ho ha) fun σ H Q h => seqE h fun T A v H1 p w ev rp h => by
    obtain ⟨d, e, h⟩ := (PM.run_lift _ _).mp h
    exact hr T A H1 v p d Q w rp e h
theorem VE.cmp {op : CmpOp} {r : R2} {f : D → D → Option D} (ho : OpR X (compareOp op) r) (hr : OkR X.K f r) (ha : VE X ρ a xa) (hb : VE X ρ b xb) (hm : behindInMarks op b = false) : VE X ρ (.Compare a [op] [b] pos) (xa >>= fun p => xb >>= fun q => PM.lift (f p q)) :=
  imE (pe_cmpR ho ha hb hm) fun _ _ _ h => tOp2 hr h
theorem VP.cmp {op : CmpOp} {r : R2} {f : D → D → Option D} (ho : OpR X (compareOp op) r) (hr : OkR X.K f r) (ha : VE X ρ a xa) (hb : VE X ρ b xb) (hm : behindInMarks op b = false) : VP X ρ (.Compare a [op] [b] pos) (xa >>= fun p => xb >>= fun q => PM.lift ((f p q).bind dBool)) :=
  imT (pt_cmpR ho ha hb hm) fun σ H Q ⟨T, A, w, ev, h⟩ => by
    refine tOp2 (m := m) (f := f) hr (Q := fun x H' => ∃ k, x = .bl k ∧ Q k H') ⟨T, A, w, ev, ?_⟩
    rw [PM.run_bind] at h ⊢
    refine PM.mono (fun p h => ?_) h
    rw [PM.run_bind] at h ⊢
    refine PM.mono (fun q h => ?_) h
    rw [PM.run_lift] at h ⊢
    obtain ⟨k, e, h⟩ := h
    cases ef : f p q with
    | none => rw [ef] at e; cases e
    | some d =>
      rw [ef] at e
      refine ⟨d, rfl, fun v H' o => ?_⟩
      cases d with
      | bool c => cases e; cases o.rp; exact ⟨_, rfl, h H' o.st o.ok⟩
      | _ => cases e
/-- a value that is a bool, as a test -/
theorem VP.val (h : VE X ρ e xa) (he : ∀ whole, isTrue e X.env whole = (do let v ← whole; standAt e.pos; holding [v] (truthy v)) := by intro _; rfl) : VP X ρ e (xa >>= fun p => PM.lift (dBool p)) :=
  imT (pt_val h he) fun σ H Q ⟨T, A, w, ev, h⟩ => by
    rw [PM.run_bind] at h
    refine ⟨T, A, w, ev, PM.mono (fun p h v H1 o => ?_) h⟩
    obtain ⟨k, e1, h1⟩ := (PM.run_lift _ _).mp h
    cases p with
    | bool c => cases e1; cases o.rp; exact ⟨_, rfl, h1 H1 o.st o.ok⟩
    | _ => cases e1
/-! ### tests -/
section
variable {ta tb : m Bool} {rest : List Expr}
theorem VW.and1 (ha : VP X ρ a ta) : VW X ρ (.BoolOp .And [a] pos) ta := pw_and1 ha
theorem VW.or1 (ha : VP X ρ a ta) : VW X ρ (.BoolOp .Or [a] pos) ta := pw_or1 ha
theorem VW.and (ha : VP X ρ a ta) (hb : VW X ρ (.BoolOp .And (b :: rest) pos) tb) : VW X ρ (.BoolOp .And (a :: b :: rest) pos) (ta >>= fun c => if c = true then tb else pure false) :=
  imW (pw_and ha hb) fun σ H Q ⟨T, A, w, ev, h⟩ => by
    rw [PM.run_bind] at h
    refine ⟨T, A, w, ev, PM.mono (fun c h H1 s1 o1 => ?_) h⟩
    cases c with
    | true =>
      rw [if_pos rfl] at h ⊢
      exact ⟨T, A, w.step s1 o1, ev.step w s1, PM.mono (fun k h H2 s2 o2 => h H2 (s1.trans s2) o2) h⟩
    | false =>
      rw [if_neg Bool.false_ne_true] at h ⊢
      exact (PM.run_pure _ _).mp h H1 s1 o1
theorem VW.or (ha : VP X ρ a ta) (hb : VW X ρ (.BoolOp .Or (b :: rest) pos) tb) : VW X ρ (.BoolOp .Or (a :: b :: rest) pos) (ta >>= fun c => if c = true then pure true else tb) :=
  imW (pw_or ha hb) fun σ H Q ⟨T, A, w, ev, h⟩ => by
    rw [PM.run_bind] at h
    refine ⟨T, A, w, ev, PM.mono (fun c h H1 s1 o1 => ?_) h⟩
    cases c with
    | false =>
      rw [if_neg Bool.false_ne_true] at h ⊢
      exact ⟨T, A, w.step s1 o1, ev.step w s1, PM.mono (fun k h H2 s2 o2 => h H2 (s1.trans s2) o2) h⟩
    | true =>
      rw [if_pos rfl] at h ⊢
      exact (PM.run_pure _ _).mp h H1 s1 o1
theorem VP.not (ha : VP X ρ a ta) : VP X ρ (.UnaryOp .Not a pos) (ta >>= fun c => pure (!c)) :=
  imT (pt_not ha) fun σ H Q ⟨T, A, w, ev, h⟩ => by
    rw [PM.run_bind] at h
    exact ⟨T, A, w, ev, PM.mono (fun c h H1 s1 o1 => by rw [PM.run_pure] at h; exact h H1 s1 o1) h⟩
/-- truth of any value -/
theorem VP.tru (h : VE X ρ e xa) (he : ∀ whole, isTrue e X.env whole = (do let v ← whole; standAt e.pos; holding [v] (truthy v)) := by intro _; rfl) : VP X ρ e (xa >>= fun p => PM.lift (dTruth p)) :=
  imT (pt_truth h he) fun σ H Q ⟨T, A, w, ev, h⟩ => by
    rw [PM.run_bind] at h
    refine ⟨T, A, w, ev, PM.mono (fun p h v H1 o => ?_) h⟩
    obtain ⟨k, e, h2⟩ := (PM.run_lift _ _).mp h
    refine ⟨k, ?_, h2 H1 o.st o.ok⟩
    have r := o.rp
    cases r with
    | non => cases e; exact rfl
    | bl b => cases e; exact rfl
    | int i => cases e; exact rfl
    | str x =>
      have q := ifs e
      exact ⟨q.1, q.2.symm⟩
    | lst n hs hr =>
      have e2 := Option.some.inj e
      have hl := hr.length
      exact .inl ⟨_, .inl (.inl hs), by rw [← e2]; rename_i xs ds; cases xs <;> cases ds <;> simp at hl ⊢⟩
    | tup hs hr =>
      have e2 := Option.some.inj e
      have hl := hr.length
      exact .inr (.inl ⟨_, hs, by rw [← e2]; rename_i xs ds; cases xs <;> cases ds <;> simp at hl ⊢⟩)
    | tok => cases e
    | tok2 => cases e
    | dic _ _ _ => cases e
    | dck _ _ _ _ => cases e
    | scr => cases e
end
end
end Qv

namespace Qv
open PySem PySem.Spec PyProof.Rows L2
/-! ## the operators by plain values -/
section
variable {X : Cx} {K : PySem.W.Frag}
def rAddS : R2 := fun x y H Q => ∃ i j, x = .str i ∧ y = .str j ∧ i.length + j.length ≤ sizeLine ∧ Q (.str (i ++ j)) H
def rAddD (K : PySem.W.Frag) : R2 := fun x y H Q => (rI0 (fun i j => .int (i + j)) x y H Q ∨ rCatA K x y H Q) ∨ (rCat x y H Q ∨ rAddS x y H Q)
theorem opAdd : OpR X (binaryOp .Add) (rAddD X.K) := (op_add.or op_catA).or (op_cat.or op_add_str)
theorem okAdd : OkR K dAdd (rAddD K) := by
  intro T A H x y p q d Q w rx ry e k
  cases rx with
  | int i =>
    cases ry with
    | int j => cases e; exact .inl (.inl ⟨i, j, rfl, rfl, k _ _ (.same w (.int _))⟩)
    | _ => cases e
  | str i =>
    cases ry with
    | str j =>
      obtain ⟨h, e⟩ := ifs e
      subst e
      exact .inr (.inr ⟨i, j, rfl, rfl, h, k _ _ (.same w (.str _))⟩)
    | _ => cases e
  | @tup a xs ds hs hr =>
    cases ry with
    | @tup b ys es hs' hr' =>
      obtain ⟨h, e⟩ := ifs e
      subst e
      refine .inl (.inr ⟨a, b, xs, ys, rfl, rfl, hs, hs', by rw [hr.length, hr'.length]; exact h, fun e0 => ?_, fun e0 e1 => ?_, fun e0 e1 p np => ?_⟩)
      · subst e0
        cases hr
        exact k _ _ (.same w (.tup hs' hr'))
      · subst e1
        cases hr'
        rw [List.append_nil] at k
        exact k _ _ (.same w (.tup hs hr))
      · exact k _ _ (.tup w np (hr.append hr'))
    | _ => cases e
  | @lst a xs ds n hs hr =>
    cases ry with
    | @lst b ys es n' hs' hr' =>
      obtain ⟨h, e⟩ := ifs e
      subst e
      exact .inr (.inl ⟨a, b, xs, ys, rfl, rfl, hs, hs', by rw [hr.length, hr'.length]; exact h, fun p np => k _ _ (.lst w np (hr.append hr'))⟩)
    | _ => cases e
  | _ => cases e
theorem okSub : OkR K dSub (rI0 fun i j => .int (i - j)) := by
  intro T A H x y p q d Q w rx ry e k
  cases rx with
  | int i =>
    cases ry with
    | int j => cases e; exact ⟨i, j, rfl, rfl, k _ _ (.same w (.int _))⟩
    | _ => cases e
  | _ => cases e
def rMulD (K : PySem.W.Frag) : R2 := fun x y H Q => (rI CMul (fun i j => .int (i * j)) x y H Q ∨ rI CMulW (fun i j => .int (i * j)) x y H Q) ∨ (rRep x y H Q ∨ rRepT K x y H Q)
theorem opMul : OpR X (binaryOp .Mult) (rMulD X.K) := (op_mul.or op_mulW).or (op_rep.or op_repT)
theorem okMul : OkR K dMul (rMulD K) := by
  intro T A H x y p q d Q w rx ry e k
  cases rx with
  | int i =>
    cases ry with
    | int j =>
      obtain ⟨h, e⟩ := ifs e
      subst e
      simp only [Bool.or_eq_true, smallI, Bool.and_eq_true, decide_eq_true_eq] at h
      rcases h with (h | h) | h
      · exact .inl (.inl ⟨i, j, rfl, rfl, .inl h, k _ _ (.same w (.int _))⟩)
      · exact .inl (.inl ⟨i, j, rfl, rfl, .inr h, k _ _ (.same w (.int _))⟩)
      · exact .inl (.inr ⟨i, j, rfl, rfl, h, k _ _ (.same w (.int _))⟩)
    | _ => cases e
  | @lst a xs ds n hs hr =>
    cases ry with
    | int j =>
      obtain ⟨h, e⟩ := ifs e
      subst e
      simp only [Bool.and_eq_true, decide_eq_true_eq] at h
      exact .inr (.inl ⟨a, j, xs, rfl, rfl, hs, h.1.1, h.1.2, by rw [hr.length]; exact h.2, fun p np => k _ _ (.lst w np (hr.flat _))⟩)
    | _ => cases e
  | @tup a xs ds hs hr =>
    cases ry with
    | int j =>
      obtain ⟨h, e⟩ := ifs e
      subst e
      simp only [Bool.and_eq_true, decide_eq_true_eq] at h
      have hl := hr.length
      refine .inr (.inr ⟨a, j, xs, rfl, rfl, hs, fun z => ?_, h.1.1.2, h.1.2, by omega, fun p np => k _ _ (.tup w np (hr.flat _))⟩)
      subst z
      cases hr
      exact absurd h.1.1.1 (by decide)
    | _ => cases e
  | _ => cases e
def rDivD : R2 := fun x y H Q => rI CDivN (fun i j => .int (i.fdiv j)) x y H Q ∨ rI CDivW (fun i j => .int (i / j)) x y H Q
theorem opDiv : OpR X (binaryOp .FloorDiv) rDivD := op_fdivN.or op_fdivW
theorem okDiv : OkR K dDiv rDivD := by
  intro T A H x y p q d Q w rx ry e k
  cases rx with
  | int i =>
    cases ry with
    | int j =>
      obtain ⟨h, e⟩ := ifs e
      subst e
      simp only [Bool.or_eq_true, Bool.and_eq_true, decide_eq_true_eq] at h
      rcases h.2 with h2 | h2
      · exact .inl ⟨i, j, rfl, rfl, ⟨h.1, h2⟩, k _ _ (.same w (.int _))⟩
      · refine .inr ⟨i, j, rfl, rfl, ⟨h2.1, h2.2⟩, ?_⟩
        show Q (.int (i / j)) H
        rw [← Int.fdiv_eq_ediv_of_nonneg i (Int.le_of_lt h2.1)]
        exact k _ _ (.same w (.int _))
    | _ => cases e
  | _ => cases e
theorem okMod : OkR K dMod (rI (fun _ j => j ≠ 0) fun i j => .int (i.fmod j)) := by
  intro T A H x y p q d Q w rx ry e k
  cases rx with
  | int i =>
    cases ry with
    | int j =>
      obtain ⟨h, e⟩ := ifs e
      subst e
      exact ⟨i, j, rfl, rfl, of_decide_eq_true h, k _ _ (.same w (.int _))⟩
    | _ => cases e
  | _ => cases e
theorem okNeg : OkU K dNeg (rU fun i => .int (-i)) := by
  intro T A H x p d Q w rx e k
  cases rx with
  | int i => cases e; exact ⟨i, rfl, k _ _ (.same w (.int _))⟩
  | _ => cases e
end
end Qv

namespace Qv
open PySem PySem.Spec PyProof.Rows L2
/-! ## of like make -/
theorem alike_isInts : ∀ (xs ys : List D), isInts xs = true → isInts ys = true → W.alikeAll xs ys = true
  | [], _, _, _ => by simp [W.alikeAll]
  | _ :: _, [], _, _ => by simp [W.alikeAll]
  | x :: xs, y :: ys, h1, h2 => by
    cases x <;> simp [isInts] at h1
    cases y <;> simp [isInts] at h2
    rw [W.alikeAll, alike_isInts xs ys h1 h2]
    simp [W.alike]
mutual
theorem alike_cls : ∀ (a b : D), cls a = cls b → (cls a).ok = true → W.alike a b = true
  | .none, b, h, o => by simp [cls, Sh.ok] at o
  | .dict _, b, h, o => by simp [cls, Sh.ok] at o
  | .bool x, b, h, o => by
    cases b <;> simp [cls] at h <;> first | (split at h <;> cases h; done) | simp [W.alike]
  | .int x, b, h, o => by
    cases b <;> simp [cls] at h <;> first | (split at h <;> cases h; done) | simp [W.alike]
  | .str x, b, h, o => by
    cases b <;> simp [cls] at h <;> first | (split at h <;> cases h; done) | simp [W.alike]
  | .tuple xs, b, h, o => by
    cases b with
    | tuple ys =>
      rw [W.alike]
      simp only [cls] at h o
      by_cases hx : isInts xs = true
      · by_cases hy : isInts ys = true
        · exact alike_isInts xs ys hx hy
        · rw [if_pos hx, if_neg hy] at h; cases h
      · by_cases hy : isInts ys = true
        · rw [if_neg hx, if_pos hy] at h; cases h
        · rw [if_neg hx, if_neg hy] at h
          rw [if_neg hx] at o
          exact alike_clss xs ys (Sh.t.inj h) o
    | list ys => simp only [cls] at h; split at h <;> split at h <;> cases h
    | _ => simp only [cls] at h; split at h <;> cases h
  | .list xs, b, h, o => by
    cases b with
    | list ys =>
      rw [W.alike]
      simp only [cls] at h o
      by_cases hx : isInts xs = true
      · by_cases hy : isInts ys = true
        · exact alike_isInts xs ys hx hy
        · rw [if_pos hx, if_neg hy] at h; cases h
      · by_cases hy : isInts ys = true
        · rw [if_neg hx, if_pos hy] at h; cases h
        · rw [if_neg hx, if_neg hy] at h
          rw [if_neg hx] at o
          exact alike_clss xs ys (Sh.l.inj h) o
    | tuple ys => simp only [cls] at h; split at h <;> split at h <;> cases h
    | _ => simp only [cls] at h; split at h <;> cases h
theorem alike_clss : ∀ (xs ys : List D), clss xs = clss ys → (clss xs).ok = true → W.alikeAll xs ys = true
  | [], ys, _, _ => by simp [W.alikeAll]
  | x :: xs, [], _, _ => by simp [W.alikeAll]
  | x :: xs, y :: ys, h, o => by
    simp only [clss] at h o
    have h1 := Sh.cons.inj h
    simp only [Sh.ok, Bool.and_eq_true] at o
    rw [W.alikeAll, alike_cls x y h1.1 o.1, alike_clss xs ys h1.2 o.2]
    rfl
end
mutual
theorem plain_cls : ∀ a : D, (cls a).ok = true → a.plain = true
  | .none, o => by simp [cls, Sh.ok] at o
  | .dict _, o => by simp [cls, Sh.ok] at o
  | .bool _, _ => rfl
  | .int _, _ => rfl
  | .str _, _ => rfl
  | .tuple xs, o => by
    simp only [cls] at o
    rw [PyData.plain]
    by_cases hx : isInts xs = true
    · exact plain_isInts xs hx
    · rw [if_neg hx] at o; exact plain_clss xs o
  | .list xs, o => by
    simp only [cls] at o
    rw [PyData.plain]
    by_cases hx : isInts xs = true
    · exact plain_isInts xs hx
    · rw [if_neg hx] at o; exact plain_clss xs o
theorem plain_clss : ∀ xs : List D, (clss xs).ok = true → PyData.plainAll xs = true
  | [], _ => rfl
  | x :: xs, o => by
    simp only [clss, Sh.ok, Bool.and_eq_true] at o
    rw [PyData.plainAll, plain_cls x o.1, plain_clss xs o.2]
    rfl
theorem plain_isInts : ∀ xs : List D, isInts xs = true → PyData.plainAll xs = true
  | [], _ => rfl
  | x :: xs, o => by
    cases x <;> simp [isInts] at o
    rw [PyData.plainAll, plain_isInts xs o]
    rfl
end
theorem ne_none_cls {a : D} (o : (cls a).ok = true) : a ≠ .none := fun e => by
  subst e
  simp [cls, Sh.ok] at o
theorem likes_mem {xs : List D} (h : likes xs = true) : ∀ x ∈ xs, ∀ y ∈ xs, cls x = cls y ∧ (cls x).ok = true := by
  cases xs with
  | nil => intro x hx; cases hx
  | cons z zs =>
    simp only [likes, Bool.and_eq_true, List.all_eq_true, decide_eq_true_eq] at h
    have q : ∀ x ∈ z :: zs, cls x = cls z := fun x hx => by
      rcases List.mem_cons.mp hx with rfl | hx
      · rfl
      · exact h.2 x hx
    exact fun x hx y hy => ⟨(q x hx).trans (q y hy).symm, by rw [q x hx]; exact h.1⟩
theorem likes_alike {xs : List D} (h : likes xs = true) : W.AlikeAll xs :=
  ⟨fun x hx y hy => alike_cls x y (likes_mem h x hx y hy).1 (likes_mem h x hx y hy).2, fun x hx => ne_none_cls (likes_mem h x hx x hx).2⟩
theorem likes_plain {xs : List D} (h : likes xs = true) : PyData.plainAll xs = true := by
  have q := fun x hx => plain_cls x (likes_mem h x hx x hx).2
  clear h
  induction xs with
  | nil => rfl
  | cons x xs ih =>
    rw [PyData.plainAll, q x List.mem_cons_self, ih fun y hy => q y (List.mem_cons_of_mem _ hy)]
    rfl
/-! ## plain data is read by the library -/
section
variable {X : Cx} {T : Tk} {A : Addr → Prop} {K : PySem.W.Frag}
mutual
theorem Rep.dp {H : Hp} : ∀ {v : V} {d : D}, Rep K T A H v d → d.plain = true → Dp K H v d
  | _, _, .non, _ => .non
  | _, _, .bl b, _ => .bl b
  | _, _, .int i, _ => .int i
  | _, _, .str x, _ => .str x
  | _, _, .lst n h r, e => .lst (SqL.of h) (Reps.dp r (by simpa [PyData.plain] using e))
  | _, _, .tup h r, e => .tup h (Reps.dp r (by simpa [PyData.plain] using e))
  | _, _, .tok _, e => by simp [tokD, PyData.plain] at e
  | _, _, .tok2 _, e => by simp [tokA, PyData.plain] at e
  | _, _, .scr _ _, e => by simp [scrD, PyData.plain] at e
  | _, _, .dic _ _ _, e => by simp [PyData.plain] at e
  | _, _, .dck _ _ _ _, e => by simp [PyData.plain] at e
theorem Reps.dp {H : Hp} : ∀ {v : List V} {d : List D}, Reps K T A H v d → PyData.plainAll d = true → DpAll K H v d
  | _, _, .nil, _ => .nil
  | _, _, .cons h r, e => by
    simp only [PyData.plainAll, Bool.and_eq_true] at e
    exact .cons (Rep.dp h e.1) (Reps.dp r e.2)
end
def rCmpD (K : PySem.W.Frag) (C : D → D → Prop) (g : D → D → Bool) : R2 := fun x y H Q => ∃ d e, Dp K H x d ∧ Dp K H y e ∧ C d e ∧ Q (.bl (g d e)) H
theorem opCmpD {op : CmpOp} {C : D → D → Prop} {g : D → D → Bool}
    (h : ∀ (s : Shared) (v u : Value) (d e : D) (as bs : List Addr) (Q : Value → Shared → Prop), Reads s.heap v d as → Reads s.heap u e bs → C d e → Q (.bool (g d e)) s → wpAny (model X.prog X.w) X.A (compareOp op v u) Q X.xe s) : OpR X (compareOp op) (rCmpD X.K C g) := by
  intro pins s σ H x y v u Q I rx ry ⟨d, e, hd, he, c, q⟩
  obtain ⟨as, r1⟩ := Dp.reads I d x v hd rx
  obtain ⟨bs, r2⟩ := Dp.reads I e y u he ry
  exact h s v u d e as bs _ r1 r2 c ⟨.bl _, H, I, rfl, q⟩
def CEq (d e : D) : Prop := d.plain = true ∧ e.plain = true ∧ min d.depth e.depth ≤ 60
def CLk (d e : D) : Prop := W.alike d e = true ∧ d ≠ .none ∧ min d.depth e.depth ≤ 60
theorem opEqP (hu : X.A.units + 64 < cLine) : OpR X (compareOp .Eq) (rCmpD X.K CEq PyData.eqv) := opCmpD fun s v u d e as bs Q r1 r2 c q => SeqAt.eq_plain r1 r2 c.1 c.2.1 (by have := c.2.2; omega) q
theorem opNeP (hu : X.A.units + 64 < cLine) : OpR X (compareOp .NotEq) (rCmpD X.K CEq fun d e => !PyData.eqv d e) := opCmpD fun s v u d e as bs Q r1 r2 c q => SeqAt.ne_plain r1 r2 c.1 c.2.1 (by have := c.2.2; omega) q
theorem opLtP (hu : X.A.units + 64 < cLine) : OpR X (compareOp .Lt) (rCmpD X.K CLk W.dataLt) := opCmpD fun s v u d e as bs Q r1 r2 c q => W.lt_data r1 r2 c.1 c.2.1 (by have := c.2.2; omega) q
theorem opGtP (hu : X.A.units + 64 < cLine) : OpR X (compareOp .Gt) (rCmpD X.K CLk fun d e => W.dataLt e d) := opCmpD fun s v u d e as bs Q r1 r2 c q => W.gt_data r1 r2 c.1 c.2.1 (by have := c.2.2; omega) q
theorem opLeP (hu : X.A.units + 64 < cLine) : OpR X (compareOp .LtE) (rCmpD X.K CLk fun d e => !W.dataLt e d) := opCmpD fun s v u d e as bs Q r1 r2 c q => W.le_data r1 r2 c.1 c.2.1 (by have := c.2.2; omega) q
theorem opGeP (hu : X.A.units + 64 < cLine) : OpR X (compareOp .GtE) (rCmpD X.K CLk fun d e => !W.dataLt d e) := opCmpD fun s v u d e as bs Q r1 r2 c q => W.ge_data r1 r2 c.1 c.2.1 (by have := c.2.2; omega) q
theorem ok_eqv {f : D → D → Option D} {g : D → D → Bool} (h0 : ∀ a b d, f a b = some d → CEq a b ∧ d = .bool (g a b)) : OkR K f (rCmpD K CEq g) := by
  intro T A H x y p q d Q w rx ry e k
  obtain ⟨c, rfl⟩ := h0 p q d e
  exact ⟨p, q, rx.dp c.1, ry.dp c.2.1, c, k _ _ (.same w (.bl _))⟩
theorem ceq_int {i j : Int} : CEq (.int i) (.int j) := ⟨rfl, rfl, by simp [PyData.depth]⟩
theorem eqv_int {i j : Int} : PyData.eqv (.int i) (.int j) = (i == j) := by simp [PyData.eqv]
theorem ceq_of {a b : D} (h : (a.plain && b.plain && decide (min a.depth b.depth ≤ 60)) = true) : CEq a b := by
  simp only [Bool.and_eq_true, decide_eq_true_eq] at h
  exact ⟨h.1.1, h.1.2, h.2⟩
theorem okEq : OkR K dEq (rCmpD K CEq PyData.eqv) := ok_eqv fun a b d e => by
  unfold dEq at e
  split at e
  · cases e; exact ⟨ceq_int, by rw [eqv_int]⟩
  · obtain ⟨h, e⟩ := ifs e; exact ⟨ceq_of h, e.symm⟩
theorem okNe : OkR K dNe (rCmpD K CEq fun d e => !PyData.eqv d e) := ok_eqv fun a b d e => by
  unfold dNe at e
  split at e
  · cases e; exact ⟨ceq_int, by rw [eqv_int]⟩
  · obtain ⟨h, e⟩ := ifs e; exact ⟨ceq_of h, e.symm⟩
theorem ok_like {f : D → D → Option D} {g : D → D → Bool} (h0 : ∀ a b d, f a b = some d → (likeD a b = true) ∧ d = .bool (g a b)) : OkR K f (rCmpD K CLk g) := by
  intro T A H x y p q d Q w rx ry e k
  obtain ⟨c, rfl⟩ := h0 p q d e
  simp only [likeD, Bool.and_eq_true, decide_eq_true_eq] at c
  exact ⟨p, q, rx.dp (plain_cls p c.1.1), ry.dp (plain_cls q (by rw [← c.1.2]; exact c.1.1)), ⟨alike_cls p q c.1.2 c.1.1, ne_none_cls c.1.1, c.2⟩, k _ _ (.same w (.bl _))⟩
theorem like_int {i j : Int} : likeD (.int i) (.int j) = true := by simp [likeD, cls, Sh.ok, PyData.depth]
theorem okLt : OkR K dLt (rCmpD K CLk W.dataLt) := ok_like fun a b d e => by
  unfold dLt at e
  split at e
  · cases e; exact ⟨like_int, by rw [W.dataLt_int]⟩
  · obtain ⟨h, e⟩ := ifs e; exact ⟨h, e.symm⟩
theorem okGt : OkR K dGt (rCmpD K CLk fun d e => W.dataLt e d) := ok_like fun a b d e => by
  unfold dGt at e
  split at e
  · cases e; exact ⟨like_int, by rw [W.dataLt_int]⟩
  · obtain ⟨h, e⟩ := ifs e; exact ⟨h, e.symm⟩
theorem not_lt_le (i j : Int) : decide (i ≤ j) = !decide (j < i) := by
  by_cases h : i ≤ j
  · rw [decide_eq_true h, decide_eq_false (by omega)]; rfl
  · rw [decide_eq_false h, decide_eq_true (by omega)]; rfl
theorem okLe : OkR K dLe (rCmpD K CLk fun d e => !W.dataLt e d) := ok_like fun a b d e => by
  unfold dLe at e
  split at e
  · cases e; exact ⟨like_int, by rw [W.dataLt_int, not_lt_le]⟩
  · obtain ⟨h, e⟩ := ifs e; exact ⟨h, e.symm⟩
theorem okGe : OkR K dGe (rCmpD K CLk fun d e => !W.dataLt d e) := ok_like fun a b d e => by
  unfold dGe at e
  split at e
  · cases e; exact ⟨like_int, by rw [W.dataLt_int, not_lt_le]⟩
  · obtain ⟨h, e⟩ := ifs e; exact ⟨h, e.symm⟩
/-! ### in, not in -/
def rInP (K : PySem.W.Frag) (n : Bool) : R2 := fun x y H Q => ∃ d ds, Dp K H x d ∧ (Dp K H y (.list ds) ∨ Dp K H y (.tuple ds)) ∧ (d.plain = true ∧ PyData.plainAll ds = true ∧ min (PyData.depthAll ds) d.depth ≤ 60) ∧ Q (.bl (xor n (ds.any fun z => PyData.eqv z d))) H
theorem opInP0 (hu : X.A.units + 64 < cLine) : OpR X (compareOp .In) (rInP X.K false) := by
  intro pins s σ H x y v u Q I rx ry ⟨d, ds, hd, he, c, q⟩
  obtain ⟨as, r1⟩ := Dp.reads I d x v hd rx
  rcases he with he | he
  · obtain ⟨bs, r2⟩ := Dp.reads I _ y u he ry
    exact SeqAt.in_list_data r2 r1 c.2.1 c.1 (by have := c.2.2; omega) ⟨.bl _, H, I, rfl, by rw [Bool.false_xor] at q; exact q⟩
  · obtain ⟨bs, r2⟩ := Dp.reads I _ y u he ry
    exact SeqAt.in_tuple_data r2 r1 c.2.1 c.1 (by have := c.2.2; omega) ⟨.bl _, H, I, rfl, by rw [Bool.false_xor] at q; exact q⟩
theorem opNotInP0 (hu : X.A.units + 64 < cLine) : OpR X (compareOp .NotIn) (rInP X.K true) := by
  intro pins s σ H x y v u Q I rx ry ⟨d, ds, hd, he, c, q⟩
  obtain ⟨as, r1⟩ := Dp.reads I d x v hd rx
  rcases he with he | he
  · obtain ⟨bs, r2⟩ := Dp.reads I _ y u he ry
    exact SeqAt.notIn_list_data r2 r1 c.2.1 c.1 (by have := c.2.2; omega) ⟨.bl _, H, I, rfl, by rw [Bool.true_xor] at q; exact q⟩
  · obtain ⟨bs, r2⟩ := Dp.reads I _ y u he ry
    exact SeqAt.notIn_tuple_data r2 r1 c.2.1 c.1 (by have := c.2.2; omega) ⟨.bl _, H, I, rfl, by rw [Bool.true_xor] at q; exact q⟩
theorem opInP (hu : X.A.units + 64 < cLine) : OpR X (compareOp .In) (fun x y H Q => rInP X.K false x y H Q ∨ rInD X.K x y H Q) := (opInP0 hu).or (op_inD (by omega))
theorem opNotInP (hu : X.A.units + 64 < cLine) : OpR X (compareOp .NotIn) (fun x y H Q => rInP X.K true x y H Q ∨ rNotInD X.K x y H Q) := (opNotInP0 hu).or (op_notInD (by omega))
theorem okIn : OkR K dIn (fun x y H Q => rInP K false x y H Q ∨ rInD K x y H Q) := by
  intro T A H x y p q d Q w rx ry e k
  unfold dIn at e
  split at e
  · obtain ⟨h, e⟩ := ifs e
    subst e
    simp only [Bool.and_eq_true, decide_eq_true_eq] at h
    exact .inl ⟨p, _, rx.dp h.1.1, .inl (ry.dp h.1.2), ⟨h.1.1, h.1.2, h.2⟩, by rw [Bool.false_xor]; exact k _ _ (.same w (.bl _))⟩
  · obtain ⟨h, e⟩ := ifs e
    subst e
    simp only [Bool.and_eq_true, decide_eq_true_eq] at h
    exact .inl ⟨p, _, rx.dp h.1.1, .inr (ry.dp h.1.2), ⟨h.1.1, h.1.2, h.2⟩, by rw [Bool.false_xor]; exact k _ _ (.same w (.bl _))⟩
  · obtain ⟨h, e⟩ := ifs e
    subst e
    obtain ⟨a, rfl, _, ha⟩ := rep_dic ry rfl (kOk_okD h)
    exact .inr ⟨T, A, a, _, p, rfl, ⟨ha, rx, h⟩, k _ _ (.same w (.bl _))⟩
  · cases e
theorem okNotIn : OkR K dNotIn (fun x y H Q => rInP K true x y H Q ∨ rNotInD K x y H Q) := by
  intro T A H x y p q d Q w rx ry e k
  unfold dNotIn at e
  split at e
  · obtain ⟨h, e⟩ := ifs e
    subst e
    simp only [Bool.and_eq_true, decide_eq_true_eq] at h
    exact .inl ⟨p, _, rx.dp h.1.1, .inl (ry.dp h.1.2), ⟨h.1.1, h.1.2, h.2⟩, by rw [Bool.true_xor]; exact k _ _ (.same w (.bl _))⟩
  · obtain ⟨h, e⟩ := ifs e
    subst e
    simp only [Bool.and_eq_true, decide_eq_true_eq] at h
    exact .inl ⟨p, _, rx.dp h.1.1, .inr (ry.dp h.1.2), ⟨h.1.1, h.1.2, h.2⟩, by rw [Bool.true_xor]; exact k _ _ (.same w (.bl _))⟩
  · obtain ⟨h, e⟩ := ifs e
    subst e
    obtain ⟨a, rfl, _, ha⟩ := rep_dic ry rfl (kOk_okD h)
    exact .inr ⟨T, A, a, _, p, rfl, ⟨ha, rx, h⟩, k _ _ (.same w (.bl _))⟩
  · cases e
/-! ### is None -/
def dIs (x y : D) : Option D := match y with | .none => some (.bool (isNone x)) | _ => none
def dIsNot (x y : D) : Option D := match y with | .none => some (.bool (!isNone x)) | _ => none
theorem isN {H : Hp} {v : V} {d : D} (r : Rep K T A H v d) : decide (v = .non) = isNone d := by
  cases r <;> rfl
theorem okIs : OkR K dIs (fun x y H Q => y = .non ∧ Q (.bl (decide (x = .non))) H) := by
  intro T A H x y p q d Q w rx ry e k
  cases ry with
  | non =>
    cases e
    refine ⟨rfl, ?_⟩
    rw [isN rx]
    exact k _ _ (.same w (.bl _))
  | _ => cases e
theorem okIsNot : OkR K dIsNot (fun x y H Q => y = .non ∧ Q (.bl (!decide (x = .non))) H) := by
  intro T A H x y p q d Q w rx ry e k
  cases ry with
  | non =>
    cases e
    refine ⟨rfl, ?_⟩
    rw [isN rx]
    exact k _ _ (.same w (.bl _))
  | _ => cases e
end
end Qv

namespace Qv
open PySem PySem.Spec PyProof.Rows L2
/-! ## insertion is the library's sorting -/
section
variable {le : D → D → Bool} (trans : ∀ x y z, le x y = true → le y z = true → le x z = true) (total : ∀ x y, (le x y || le y x) = true)
include trans total
theorem ins_pw (x : D) : ∀ l : List D, l.Pairwise (fun x y => le x y = true) → (insD le x l).Pairwise (fun x y => le x y = true)
  | [], _ => by simp [insD]
  | y :: ys, h => by
    rw [List.pairwise_cons] at h
    unfold insD
    by_cases q : le x y = true
    · rw [if_pos q, List.pairwise_cons, List.pairwise_cons]
      refine ⟨fun z hz => ?_, h⟩
      rcases List.mem_cons.mp hz with rfl | hz
      · exact q
      · exact trans _ _ _ q (h.1 z hz)
    · rw [if_neg q, List.pairwise_cons]
      refine ⟨fun z hz => ?_, ins_pw x ys h.2⟩
      have hm : ∀ l : List D, z ∈ insD le x l → z = x ∨ z ∈ l := by
        intro l
        induction l with
        | nil => intro h; simp [insD] at h; exact .inl h
        | cons a l ih =>
          intro h
          unfold insD at h
          split at h
          · rcases List.mem_cons.mp h with h | h
            · exact .inl h
            · exact .inr h
          · rcases List.mem_cons.mp h with h | h
            · exact .inr (h ▸ List.mem_cons_self)
            · rcases ih h with h | h
              · exact .inl h
              · exact .inr (List.mem_cons_of_mem _ h)
      rcases hm ys hz with rfl | hz
      · have := total z y
        rw [Bool.or_eq_true] at this
        rcases this with h | h
        · exact absurd h q
        · exact h
      · exact h.1 z hz
theorem ins_filter (x z : D) : ∀ l : List D, (insD le x l).filter (W.Srt.alike le z) = (x :: l).filter (W.Srt.alike le z)
  | [] => rfl
  | y :: ys => by
    unfold insD
    by_cases q : le x y = true
    · rw [if_pos q]
    · rw [if_neg q]
      have ih := ins_filter x z ys
      cases hx : W.Srt.alike le z x with
      | false =>
        rw [List.filter_cons, ih, List.filter_cons, List.filter_cons, List.filter_cons, hx]
        simp
      | true =>
        have hy : W.Srt.alike le z y = false := by
          cases e : W.Srt.alike le z y with
          | false => rfl
          | true =>
            simp only [W.Srt.alike, Bool.and_eq_true] at hx e
            exact absurd (trans _ _ _ hx.2 e.1) q
        rw [List.filter_cons, ih, List.filter_cons, List.filter_cons, List.filter_cons, hx, hy]
        simp
theorem srt_pw : ∀ l : List D, (srtD le l).Pairwise (fun x y => le x y = true)
  | [] => .nil
  | x :: xs => ins_pw trans total x _ (srt_pw xs)
theorem srt_filter (z : D) : ∀ l : List D, (srtD le l).filter (W.Srt.alike le z) = l.filter (W.Srt.alike le z)
  | [] => rfl
  | x :: xs => by
    show (insD le x (srtD le xs)).filter _ = _
    rw [ins_filter trans total, List.filter_cons, List.filter_cons, srt_filter z xs]
theorem merge_srt (l : List D) : l.mergeSort le = srtD le l :=
  W.Srt.any_one le total _ _ (List.pairwise_mergeSort trans total l) (srt_pw trans total l) fun z => by
    rw [W.Srt.any_kept le trans total, srt_filter trans total]
end
theorem leD_total : W.TotalLe leD := W.sortLe_total (listOrd itemOrd) false W.keyToks
theorem merge_leD (l : List D) : l.mergeSort (W.dataLe false id) = srtD leD l := merge_srt (le := leD) leD_total.trans (fun x y => by have := leD_total.total x y; rw [Bool.or_eq_true]; exact this) l
/-! ## built-in functions on plain data -/
section
variable {X : Cx} {T : Tk} {A : Addr → Prop} {K : PySem.W.Frag}
/-- a list or a tuple that reads as plain data -/
def Sq (K : PySem.W.Frag) (H : Hp) (a : Addr) (us : List V) : Prop := SqL K H a us ∨ SqT K H a us
theorem Inv.dpAll {pins : List (Addr × Obj)} {σ : L2.St} {H : Hp} {s : Shared} {us : List V} {ds : List D} {its : List Value} (I : Inv X pins σ H s) (h : DpAll X.K H us ds) (r : Vals us its) : ∃ as, ReadsAll s.heap its ds as := Dp.readsAll I ds us its h r
theorem mem_fold {f : D → D → D} (hf : ∀ a b, f a b = a ∨ f a b = b) : ∀ (xs : List D) (x : D), xs.foldl f x ∈ x :: xs
  | [], x => List.mem_cons_self
  | y :: ys, x => by
    have h := mem_fold hf ys (f x y)
    rw [List.foldl_cons]
    rcases List.mem_cons.mp h with h | h
    · rw [h]
      rcases hf x y with e | e
      · rw [e]; exact List.mem_cons_self
      · rw [e]; exact List.mem_cons_of_mem _ List.mem_cons_self
    · exact List.mem_cons_of_mem _ (List.mem_cons_of_mem _ h)
theorem minD_mem (x : D) (xs : List D) : W.minD x xs ∈ x :: xs := mem_fold (fun a b => by by_cases h : W.dataLt b a = true <;> simp [h]) xs x
theorem maxD_mem (x : D) (xs : List D) : W.maxD x xs ∈ x :: xs := mem_fold (fun a b => by by_cases h : W.dataLt a b = true <;> simp [h]) xs x
def rBest (K : PySem.W.Frag) (g : D → List D → D) : List V → Hp → VK → Prop := fun vs H Q => ∃ (a : Addr) (us : List V) (x : D) (xs : List D), vs = [V.ref a] ∧ Sq K H a us ∧ DpAll K H us (x :: xs) ∧ W.AlikeAll (x :: xs) ∧ PyData.depthAll (x :: xs) ≤ 60 ∧
  ∀ (i : Nat) (v : V), us[i]? = some v → (x :: xs)[i]? = some (g x xs) → Q v H
theorem best_end {pins : List (Addr × Obj)} {σ : L2.St} {H : Hp} {s : Shared} {Q : VK} {us : List V} {its : List Value} {x : D} {xs : List D} {bs cs : List Addr} {g : D} {h' : Heap} {tk : Nat} {i : Nat} {u : Value} (I : Inv X pins σ H s) (r : Vals us its) (hr : ReadsAll s.heap its (x :: xs) bs) (ha : W.AlikeAll (x :: xs)) (hg : g ∈ x :: xs)
    (hi : its[i]? = some u) (hv : Reads h' u g cs) (hk : ∀ b o, s.heap.get? b = some o → h'.get? b = some o) (q : ∀ (i : Nat) (v : V), us[i]? = some v → (x :: xs)[i]? = some g → Q v H) : EP X pins σ Q u { s with heap := h', toks := tk } := by
  obtain ⟨cs', r1, hlt, hm, _⟩ := W.readsAll_at hr i u hi
  have e1 : (x :: xs).getD i .none = g := W.alike_unique _ _ _ _ _ (ha.1 _ hm _ hg) (PyProof.Rows.Reads.keeps hk r1) hv
  have e2 : (x :: xs)[i]? = some g := by
    rw [← e1, List.getElem?_eq_getElem hlt, List.getD_eq_getElem?_getD, List.getElem?_eq_getElem hlt]; rfl
  have hl := r.length
  obtain ⟨v, ev⟩ : ∃ v, us[i]? = some v := by
    have : i < its.length := (List.getElem?_eq_some_iff.mp hi).1
    exact ⟨_, List.getElem?_eq_getElem (by omega)⟩
  obtain ⟨u', eu, rv⟩ := r.get ev
  rw [hi] at eu
  cases eu
  exact ⟨v, H, I.kept (t' := tk) hk, rv, q i v ev e2⟩
theorem cr_minD (hc : X.calm = true) (hu : X.A.units + 64 < cLine) : CallR X (.builtin "min") (rBest X.K W.minD) := by
  intro pins s σ H vs us' Q I r h
  obtain ⟨a, us, x, xs, rfl, hs, hd, ha, hz, q⟩ := h
  rw [Vals.ref1 r]
  rcases hs with hs | hs
  · obtain ⟨its, rv, hl, _⟩ := I.list hs
    obtain ⟨bs, hr⟩ := Inv.dpAll I hd rv
    exact W.min_list_data (I.ok.hd hc) hl.isList (show ReadsAll s.heap its.toArray.toList _ _ from hr) ha (by omega) fun i v h' tk cs hi hv hk => best_end I rv hr ha (minD_mem x xs) (by simpa using hi) hv hk q
  · obtain ⟨its, rv, hl, _⟩ := I.tuple hs
    obtain ⟨bs, hr⟩ := Inv.dpAll I hd rv
    exact W.min_tuple_data (I.ok.hd hc) hl (show ReadsAll s.heap its.toArray.toList _ _ from hr) ha (by omega) fun i v h' tk cs hi hv hk => best_end I rv hr ha (minD_mem x xs) (by simpa using hi) hv hk q
theorem cr_maxD (hc : X.calm = true) (hu : X.A.units + 64 < cLine) : CallR X (.builtin "max") (rBest X.K W.maxD) := by
  intro pins s σ H vs us' Q I r h
  obtain ⟨a, us, x, xs, rfl, hs, hd, ha, hz, q⟩ := h
  rw [Vals.ref1 r]
  rcases hs with hs | hs
  · obtain ⟨its, rv, hl, _⟩ := I.list hs
    obtain ⟨bs, hr⟩ := Inv.dpAll I hd rv
    exact W.max_list_data (I.ok.hd hc) hl.isList (show ReadsAll s.heap its.toArray.toList _ _ from hr) ha (by omega) fun i v h' tk cs hi hv hk => best_end I rv hr ha (maxD_mem x xs) (by simpa using hi) hv hk q
  · obtain ⟨its, rv, hl, _⟩ := I.tuple hs
    obtain ⟨bs, hr⟩ := Inv.dpAll I hd rv
    exact W.max_tuple_data (I.ok.hd hc) hl (show ReadsAll s.heap its.toArray.toList _ _ from hr) ha (by omega) fun i v h' tk cs hi hv hk => best_end I rv hr ha (maxD_mem x xs) (by simpa using hi) hv hk q
def f1 (f : D → Option D) : List D → Option D
  | [a] => f a
  | _ => none
def f2 (f : D → D → Option D) : List D → Option D
  | [a, b] => f a b
  | _ => none
theorem reps1 {H : Hp} {xs : List V} {p : D} (r : Reps K T A H xs [p]) : ∃ v, xs = [v] ∧ Rep K T A H v p := by
  cases r with
  | cons h r =>
    cases r
    exact ⟨_, rfl, h⟩
theorem reps2 {H : Hp} {xs : List V} {p q : D} (r : Reps K T A H xs [p, q]) : ∃ v u, xs = [v, u] ∧ Rep K T A H v p ∧ Rep K T A H u q := by
  cases r with
  | cons h r =>
    cases r with
    | cons h' r =>
      cases r
      exact ⟨_, _, rfl, h, h'⟩
theorem okc1 {f : D → Option D} {r : List V → Hp → VK → Prop} (h : ∀ (T : Tk) (A : Addr → Prop) (H : Hp) (v : V) (p d : D) (Q : VK), Wd T A H → Rep K T A H v p → f p = some d → (∀ v H', Post K T A H H' d v → Q v H') → r [v] H Q) : OkC K (f1 f) r := by
  intro T A H xs ps d Q w rx e k
  match ps, e with
  | [p], e =>
    obtain ⟨v, rfl, hr⟩ := reps1 rx
    exact h T A H v p d Q w hr e k
theorem okc2 {f : D → D → Option D} {r : List V → Hp → VK → Prop} (h : ∀ (T : Tk) (A : Addr → Prop) (H : Hp) (v u : V) (p q d : D) (Q : VK), Wd T A H → Rep K T A H v p → Rep K T A H u q → f p q = some d → (∀ v H', Post K T A H H' d v → Q v H') → r [v, u] H Q) : OkC K (f2 f) r := by
  intro T A H xs ps d Q w rx e k
  match ps, e with
  | [p, q], e =>
    obtain ⟨v, u, rfl, hr, hr'⟩ := reps2 rx
    exact h T A H v u p q d Q w hr hr' e k
/-- its items -/
theorem rep_seq {H : Hp} {v : V} {d : D} {ds : List D} (r : Rep K T A H v d) (e : dSeq d = some ds) : ∃ a us, v = .ref a ∧ Sq K H a us ∧ Reps K T A H us ds := by
  cases r with
  | lst n h hr => cases e; exact ⟨_, _, rfl, .inl (SqL.of h), hr⟩
  | tup h hr => cases e; exact ⟨_, _, rfl, .inr h, hr⟩
  | _ => cases e
theorem okBest {f : D → Option D} {g : D → List D → D} {fl : List D → Option D} (hf : ∀ d, f d = (dSeq d).bind fl) (hn : fl [] = none) (hl : ∀ x xs, fl (x :: xs) = if likes (x :: xs) && decide (PyData.depthAll (x :: xs) ≤ 60) then some (g x xs) else none) : OkC K (f1 f) (rBest K g) := okc1 fun T A H v p d Q w r e k => by
  rw [hf] at e
  cases es : dSeq p with
  | none => rw [es] at e; cases e
  | some ds =>
    rw [es] at e
    obtain ⟨a, us, rfl, hs, hr⟩ := rep_seq r es
    cases ds with
    | nil => rw [Option.bind_some, hn] at e; cases e
    | cons x xs =>
      rw [Option.bind_some, hl] at e
      obtain ⟨h, e⟩ := ifs e
      subst e
      rw [Bool.and_eq_true, decide_eq_true_eq] at h
      refine ⟨a, us, x, xs, rfl, hs, hr.dp (likes_plain h.1), likes_alike h.1, h.2, fun i v e1 e2 => ?_⟩
      obtain ⟨d', e3, r3⟩ := hr.get' e1
      rw [e2] at e3
      cases e3
      exact k _ _ (.same w r3)
theorem okMin : OkC K (f1 dMin) (rBest K W.minD) := okBest (fl := dMinL) (fun _ => rfl) rfl fun _ _ => rfl
theorem okMax : OkC K (f1 dMax) (rBest K W.maxD) := okBest (fl := dMaxL) (fun _ => rfl) rfl fun _ _ => rfl
/-! ### sum -/
def rSumD (K : PySem.W.Frag) : List V → Hp → VK → Prop := fun vs H Q => ∃ (a : Addr) (ns : List Int), vs = [V.ref a] ∧ Sq K H a (ns.map V.int) ∧ Q (.int ns.sum) H
theorem cr_sumD (hc : X.calm = true) : CallR X (.builtin "sum") (rSumD X.K) := by
  intro pins s σ H vs us Q I r h
  obtain ⟨a, ns, rfl, hs | hs, q⟩ := h
  · exact cr_sum hc pins s σ H _ us Q I r ⟨a, ns, rfl, hs, q⟩
  · obtain ⟨its, rv, hl, _⟩ := I.tuple hs
    rw [Vals.ref1 r]
    obtain ⟨xs, e⟩ := rv.ints.allInts.items
    have hn : numsOf (intItems xs).toList = ns := by rw [← e]; exact rv.ints.numsOf
    rw [nums_intItems] at hn
    rw [e] at hl
    refine W.ktm_sumG (I.ok.hd hc) hl fun h' tk t' hk => ?_
    refine ⟨.int ns.sum, H, I.kept hk, ⟨t', ?_⟩, q⟩
    rw [preSum_eq, List.take_of_length_le (by simp), hn]
theorem ints_of {H : Hp} : ∀ {vs : List V} {ds : List D} {ns : List Int}, Reps K T A H vs ds → dInts ds = some ns → vs = ns.map V.int ∧ ds = ns.map PyData.int
  | _, _, _, .nil, e => by cases e; exact ⟨rfl, rfl⟩
  | _, _, _, .cons (d := d) (ds := ds) h r, e => by
    cases h with
    | int i =>
      cases e2 : dInts ds with
      | none => simp [dInts, e2] at e
      | some ms =>
        simp only [dInts, e2, Option.map_some, Option.some.injEq] at e
        obtain ⟨h1, h2⟩ := ints_of r e2
        subst e
        exact ⟨by rw [h1]; rfl, by rw [h2]; rfl⟩
    | _ => simp [dInts, tokD, tokA, scrD] at e
theorem okSum : OkC K (f1 dSum) (rSumD K) := okc1 fun T A H v p d Q w r e k => by
  unfold dSum at e
  cases es : dSeq p with
  | none => rw [es] at e; cases e
  | some ds =>
    rw [es, Option.bind_some] at e
    obtain ⟨a, us, rfl, hs, hr⟩ := rep_seq r es
    cases ei : dInts ds with
    | none => rw [ei] at e; cases e
    | some ns =>
      rw [ei] at e
      cases e
      obtain ⟨rfl, _⟩ := ints_of hr ei
      exact ⟨a, ns, rfl, hs, k _ _ (.same w (.int _))⟩
/-! ### all, any (of truth values) -/
def rQu (K : PySem.W.Frag) (g : List Bool → Bool) : List V → Hp → VK → Prop := fun vs H Q => ∃ (a : Addr) (bs : List Bool), vs = [V.ref a] ∧ SqL K H a (bs.map V.bl) ∧ Q (.bl (g bs)) H
theorem bools_of {H : Hp} : ∀ {vs : List V} {ds : List D} {ns : List Bool}, Reps K T A H vs ds → dBools ds = some ns → vs = ns.map V.bl
  | _, _, _, .nil, e => by cases e; rfl
  | _, _, _, .cons (d := d) (ds := ds) h r, e => by
    cases h with
    | bl i =>
      cases e2 : dBools ds with
      | none => simp [dBools, e2] at e
      | some ms =>
        simp only [dBools, e2, Option.map_some, Option.some.injEq] at e
        subst e
        rw [bools_of r e2]
        rfl
    | _ => simp [dBools, tokD, tokA, scrD] at e
def dAllL (d : D) : Option D := match d with | .list xs => (dBools xs).map fun bs => .bool (bs.all id) | _ => none
def dAnyL (d : D) : Option D := match d with | .list xs => (dBools xs).map fun bs => .bool (bs.any id) | _ => none
theorem okAllL : OkC K (f1 dAllL) (rAll K) := okc1 fun T A H v p d Q w r e k => by
  cases r with
  | @lst a us ds n h hr =>
    unfold dAllL at e
    cases ei : dBools ds with
    | none => simp [ei] at e
    | some ns =>
      simp only [ei, Option.map_some, Option.some.injEq] at e
      subst e
      have := bools_of hr ei
      subst this
      exact ⟨a, ns, rfl, SqL.of h, k _ _ (.same w (.bl _))⟩
  | _ => cases e
theorem okAnyL : OkC K (f1 dAnyL) (rAny K) := okc1 fun T A H v p d Q w r e k => by
  cases r with
  | @lst a us ds n h hr =>
    unfold dAnyL at e
    cases ei : dBools ds with
    | none => simp [ei] at e
    | some ns =>
      simp only [ei, Option.map_some, Option.some.injEq] at e
      subst e
      have := bools_of hr ei
      subst this
      exact ⟨a, ns, rfl, SqL.of h, k _ _ (.same w (.bl _))⟩
  | _ => cases e
/-! ### small ones -/
theorem okLen : OkC K (f1 dLen) (fun xs H Q => ∃ x n, xs = [x] ∧ LenV K x H n ∧ Q (.int n) H) := okc1 fun T A H v p d Q w r e k => by
  cases r with
  | str x =>
    obtain ⟨h, e⟩ := ifs e
    subst e
    exact ⟨_, _, rfl, ⟨h, rfl⟩, k _ _ (.same w (.int _))⟩
  | lst n h hr => cases e; exact ⟨_, _, rfl, .inl ⟨_, SqL.of h, hr.length.symm⟩, k _ _ (.same w (.int _))⟩
  | tup h hr => cases e; exact ⟨_, _, rfl, .inr ⟨_, h, hr.length.symm⟩, k _ _ (.same w (.int _))⟩
  | _ => cases e
theorem okAbs : OkC K (f1 dAbs) (fun xs H Q => ∃ i, xs = [.int i] ∧ Q (.int (if i < 0 then -i else i)) H) := okc1 fun T A H v p d Q w r e k => by
  cases r with
  | int i => cases e; exact ⟨i, rfl, k _ _ (.same w (.int _))⟩
  | _ => cases e
theorem okInt : OkC K (f1 dInt) (fun xs H Q => (∃ i, xs = [.int i] ∧ Q (.int i) H) ∨ ∃ k, xs = [.bl k] ∧ Q (.int (if k then 1 else 0)) H) := okc1 fun T A H v p d Q w r e k => by
  cases r with
  | int i => cases e; exact .inl ⟨i, rfl, k _ _ (.same w (.int _))⟩
  | bl b => cases e; exact .inr ⟨b, rfl, k _ _ (.same w (.int _))⟩
  | _ => cases e
theorem okMin2 : OkC K (f2 dMin2) (fun xs H Q => ∃ i j, xs = [.int i, .int j] ∧ Q (.int (if j < i then j else i)) H) := okc2 fun T A H v u p q d Q w r r' e k => by
  cases r with
  | int i =>
    cases r' with
    | int j => cases e; exact ⟨i, j, rfl, k _ _ (.same w (.int _))⟩
    | _ => cases e
  | _ => cases e
theorem okMax2 : OkC K (f2 dMax2) (fun xs H Q => ∃ i j, xs = [.int i, .int j] ∧ Q (.int (if j > i then j else i)) H) := okc2 fun T A H v u p q d Q w r r' e k => by
  cases r with
  | int i =>
    cases r' with
    | int j => cases e; exact ⟨i, j, rfl, k _ _ (.same w (.int _))⟩
    | _ => cases e
  | _ => cases e
theorem okGcd : OkC K (f2 dGcd) rGcd := okc2 fun T A H v u p q d Q w r r' e k => by
  cases r with
  | int i =>
    cases r' with
    | int j => cases e; exact ⟨i, j, rfl, k _ _ (.same w (.int _))⟩
    | _ => cases e
  | _ => cases e
theorem okTuple : OkC K (f1 dTuple) (fun xs H Q => ∃ p ys, xs = [.ref p] ∧ ((SqL K H p ys ∧ ∀ l, H l = none → Q (.ref l) (upd H l (.tup ys))) ∨ (SqT K H p ys ∧ Q (.ref p) H))) := okc1 fun T A H v p d Q w r e k => by
  cases r with
  | @lst a us ds n h hr => cases e; exact ⟨a, us, rfl, .inl ⟨SqL.of h, fun l nl => k _ _ (.tup w nl hr)⟩⟩
  | @tup a us ds h hr => cases e; exact ⟨a, us, rfl, .inr ⟨h, k _ _ (.same w (.tup h hr))⟩⟩
  | _ => cases e
theorem okList : OkC K (f1 dList) (fun xs H Q => ∃ p ys, xs = [.ref p] ∧ (SqL K H p ys ∨ SqT K H p ys) ∧ ∀ l, H l = none → Q (.ref l) (upd H l (.lst ys))) := okc1 fun T A H v p d Q w r e k => by
  cases r with
  | @lst a us ds n h hr => cases e; exact ⟨a, us, rfl, .inl (SqL.of h), fun l nl => k _ _ (.lst w nl hr)⟩
  | @tup a us ds h hr => cases e; exact ⟨a, us, rfl, .inr h, fun l nl => k _ _ (.lst w nl hr)⟩
  | _ => cases e
/-! ### sorted -/
def rSortP (K : PySem.W.Frag) : List V → Hp → VK → Prop := fun vs H Q => ∃ (a : Addr) (us : List V) (ds : List D), vs = [V.ref a] ∧ SqL K H a us ∧ DpAll K H us ds ∧ W.AllAlike ds ∧ W.Sortable ds ∧ PyData.depthAll ds ≤ 60 ∧
  ∀ p us', H p = none → us'.length ≤ sizeLine → W.EachIs (fun x d => (x, d) ∈ us.zip ds) us' (srtD leD ds) → Q (.ref p) (upd H p (.lst us'))
theorem each_zip {R : V → D → Prop} : ∀ {us : List V} {its : List Value} {ds : List D}, Vals us its → us.length = ds.length → (∀ x d, (x, d) ∈ us.zip ds → R x d) → W.EachIs (fun v d => ∃ x, RelV x v ∧ R x d) its ds
  | _, _, [], .nil, _, _ => .nil
  | _, _, _ :: _, .nil, h, _ => by simp at h
  | _, _, [], .cons _ _, h, _ => by simp at h
  | _, _, d :: ds, .cons r t, h, q => .cons ⟨_, r, q _ _ (by simp)⟩ (each_zip t (by simpa using h) fun x d hm => q x d (by
      rw [List.zip_cons_cons]
      exact List.mem_cons_of_mem _ hm))
theorem each_back {R : V → D → Prop} : ∀ {out : List Value} {ds : List D}, W.EachIs (fun v d => ∃ x, RelV x v ∧ R x d) out ds → ∃ us, Vals us out ∧ W.EachIs R us ds
  | _, _, .nil => ⟨[], .nil, .nil⟩
  | _, _, .cons ⟨x, r, h⟩ t => by
    obtain ⟨us, h1, h2⟩ := each_back t
    exact ⟨x :: us, .cons r h1, .cons h h2⟩
theorem dpAll_len {H : Hp} : ∀ {us : List V} {ds : List D}, DpAll K H us ds → us.length = ds.length
  | _, _, .nil => rfl
  | _, _, .cons _ r => by rw [List.length_cons, List.length_cons, dpAll_len r]
theorem depth_mem {ds : List D} {d : D} (h : d ∈ ds) : d.depth ≤ PyData.depthAll ds := by
  induction ds with
  | nil => cases h
  | cons x xs ih =>
    rw [PyData.depthAll]
    rcases List.mem_cons.mp h with rfl | h
    · exact Nat.le_max_left _ _
    · exact Nat.le_trans (ih h) (Nat.le_max_right _ _)
theorem cr_sortP (hu : X.A.units + 64 < cLine) : CallR X (.builtin "sorted") (rSortP X.K) := by
  intro pins s σ H vs us' Q I r h
  obtain ⟨a, us, ds, rfl, hs, hd, hal, hso, hz, q⟩ := h
  rw [Vals.ref1 r]
  obtain ⟨its, rv, hl, hL0⟩ := I.list hs
  obtain ⟨bs, hr⟩ := Inv.dpAll I hd rv
  have hlen := dpAll_len hd
  have hL : ds.length ≤ sizeLine := by rw [← hlen]; exact hL0
  refine W.sorted_data (β := D) (enc := id) (bs := ds) (R := fun v d => ∃ x, RelV x v ∧ (x, d) ∈ us.zip ds) hl.isList (each_zip rv hlen fun x d h => h) ?_ (by rw [List.map_id]; exact hal) (by rw [List.map_id]; exact hso) hL (fun b hb => ?_) fun out hout he => ?_
  · have := W.readsAll_each (h := s.heap) (enc := (id : D → D)) (vs := its) (bs := ds) (as := bs) (by rw [List.map_id]; exact hr)
    exact this
  · have := depth_mem hb
    show X.A.units + 2 + b.depth < cLine
    omega
  · rw [merge_leD] at he
    obtain ⟨us2, h1, h2⟩ := each_back he
    obtain ⟨ep, he'⟩ := PyProof.Rows.sortedAll_at s.heap its out.toArray
    have hlen2 : us2.length ≤ sizeLine := by rw [h1.length, hout]; exact hL
    exact ⟨.ref _, upd H (s.heap.objs.size + 1) (.lst us2), I.laid (t' := s.toks) (fun _ _ => PyProof.Rows.sortedAll_old) (Nat.le_succ _) ⟨hlen2, out, ep, h1, he'⟩, rfl, q _ us2 (I.hok.fresh (Nat.le_succ _)) hlen2 h2⟩
theorem reps_of_each {H : Hp} {us : List V} {ds : List D} (r : Reps K T A H us ds) : ∀ {us' : List V} {ds' : List D}, W.EachIs (fun x d => (x, d) ∈ us.zip ds) us' ds' → Reps K T A H us' ds'
  | _, _, .nil => .nil
  | _, _, .cons h t => .cons (by
      obtain ⟨i, hi⟩ := List.mem_iff_getElem?.mp h
      rw [List.getElem?_zip_eq_some] at hi
      obtain ⟨d, e, q⟩ := r.get' hi.1
      rw [hi.2] at e
      cases e
      exact q) (reps_of_each r t)
theorem sortable_of {xs : List D} (h : sortOk xs = true) : W.Sortable xs := by
  simp only [sortOk, Bool.and_eq_true, List.all_eq_true] at h
  cases xs with
  | nil => exact .inl fun d hd => by cases hd
  | cons x xs =>
    have hm := likes_mem h.1.1
    cases x with
    | tuple ys =>
      refine .inl fun d hd => ?_
      have e := (hm d hd _ List.mem_cons_self).1
      have n := h.2 d hd
      cases d with
      | tuple zs =>
        cases zs with
        | nil => simp at n
        | cons z zs => exact ⟨z, zs, rfl⟩
      | list zs => simp only [cls] at e; split at e <;> split at e <;> cases e
      | _ => simp only [cls] at e; split at e <;> cases e
    | _ =>
      refine .inr fun d hd => ⟨ne_none_cls (hm d hd _ List.mem_cons_self).2, fun zs z => ?_⟩
      subst z
      have e := (hm _ hd _ List.mem_cons_self).1
      simp only [cls] at e
      first
        | (split at e <;> cases e; done)
        | (split at e <;> split at e <;> cases e; done)
end
end Qv

namespace Qv
open PySem PySem.Spec PyProof.Rows L2
section
variable {m : Type → Type} [PM m] {X : Cx} {ρ : Rh} {a b c e : Expr} {es : List Expr} {xa xb xc : m D} {xs : m (List D)} {pos : Pos}
/-! ### subscripts, slices -/
def rIxA (K : PySem.W.Frag) : R2 := fun x y H Q => rIx K x y H Q ∨ rGetD K x y H Q
theorem ix_any (hu : X.A.units + 64 < cLine) : IxR X (rIxA X.K) := ix_seq.or (ix_dict (by omega))
theorem okIx {K : PySem.W.Frag} : OkR K dIx (rIxA K) := by
  intro T A H x y p q d Q w rx ry e k
  by_cases hp : ∃ ds, p = .dict ds
  · obtain ⟨ds, rfl⟩ := hp
    obtain ⟨h, e⟩ : kOk ds q = true ∧ dFind ds q = some d := by
      have e : (if kOk ds q then dFind ds q else none) = some d := by
        cases q <;> exact e
      split at e
      · exact ⟨by assumption, e⟩
      · cases e
    obtain ⟨a, rfl, _, ha⟩ := rep_dic rx rfl (kOk_okD h)
    exact .inr ⟨T, A, a, ds, q, d, rfl, ⟨ha, ry, h⟩, e, fun v rv => k _ _ (.same w rv)⟩
  refine .inl ?_
  have at_get : ∀ {us : List V} {ds : List D} {i : Int}, Reps K T A H us ds → atI ds i = some d → ∃ v, atI us i = some v ∧ Rep K T A H v d := by
    intro us ds i r h
    unfold atI at h ⊢
    rw [r.length]
    cases ej : ixN ds.length i with
    | none => rw [ej] at h; cases h
    | some j =>
      rw [ej] at h
      exact r.get h
  cases ry with
  | int i =>
    cases rx with
    | lst n h hr =>
      obtain ⟨v, h1, h2⟩ := at_get hr e
      exact .inl ⟨_, _, i, v, rfl, rfl, SqL.of h, h1, k _ _ (.same w h2)⟩
    | tup h hr =>
      obtain ⟨v, h1, h2⟩ := at_get hr e
      exact .inr (.inl ⟨_, _, i, v, rfl, rfl, h, h1, k _ _ (.same w h2)⟩)
    | str z =>
      unfold dIx at e
      by_cases hz : z.length ≤ sizeLine
      · simp only [hz, if_true] at e
        cases ec : atI z.cps.toList i with
        | none => rw [ec] at e; cases e
        | some c =>
          rw [ec] at e
          cases e
          exact .inr (.inr ⟨z, i, c, rfl, rfl, hz, ec, k _ _ (.same w (.str _))⟩)
      · simp only [hz, if_false] at e
        cases e
    | _ => first | exact (hp ⟨_, rfl⟩).elim | cases e
  | _ => cases rx <;> first | exact (hp ⟨_, rfl⟩).elim | cases e
theorem VE.ix (hu : X.A.units + 64 < cLine) (ha : VE X ρ a xa) (hb : VE X ρ b xb) (hs : PlainIx b := by exact fun _ _ => rfl) : VE X ρ (.Subscript a b pos) (xa >>= fun p => xb >>= fun q => PM.lift (dIx p q)) :=
  imE (pe_ix (ix_any hu) ha hb hs) fun _ _ _ h => tOp2 okIx h
/-- a slice's part -/
def tO (K : PySem.W.Frag) (ρ : Rh) (x : m (Option Int)) : TO := fun σ H Q => ∃ T A, Wd T A H ∧ Ev K T A ρ σ H ∧ PM.run x fun o => ∀ H', Step T H H' → T.ok H' → Q o H'
abbrev VO_ (X : Cx) (ρ : Rh) (e : Option Expr) (x : m (Option Int)) : Prop := PO X e (tO X.K ρ x)
theorem imO {e : Option Expr} {t t' : TO} (h : PO X e t) (i : ∀ σ H Q, t' σ H Q → t σ H Q) : PO X e t' := ⟨fun pins s σ H Q I q => h.run pins s σ H Q I (i σ H Q q)⟩
theorem VO_.none : VO_ (m := m) X ρ none (pure none) := imO po_none fun σ H Q ⟨T, A, w, ev, h⟩ => by
  rw [PM.run_pure] at h
  exact h H .refl w.ok
def dIntO : D → Option (Option Int)
  | .int i => some (some i)
  | _ => none
theorem VO_.some (h : VE X ρ e xa) : VO_ X ρ (some e) (xa >>= fun p => PM.lift (dIntO p)) := imO (po_some h) fun σ H Q ⟨T, A, w, ev, h⟩ => by
  rw [PM.run_bind] at h
  refine ⟨T, A, w, ev, PM.mono (fun p h v H1 o => ?_) h⟩
  rw [PM.run_lift] at h
  obtain ⟨k, e1, h1⟩ := h
  cases p with
  | int i => cases e1; cases o.rp; exact ⟨i, rfl, h1 H1 o.st o.ok⟩
  | _ => cases e1
theorem sl_seq : SlR X (fun x lo hi H Q => rSlL X.K x lo hi H Q ∨ (rSlA X.K x lo hi H Q ∨ rSlS x lo hi H Q)) := sl_list.or (sl_tupA.or sl_str)
theorem cut_whole {α : Type} (xs : List α) (lo hi : Option Int) (h : HT.sIx xs.length 0 lo = 0 ∧ HT.sIx xs.length xs.length hi = xs.length) : (xs.drop (HT.sIx xs.length 0 lo)).take (HT.sIx xs.length xs.length hi - HT.sIx xs.length 0 lo) = xs := by
  rw [h.1, h.2, List.drop_zero, Nat.sub_zero, List.take_length]
theorem VE.slice {lo hi : Option Expr} {xl xh : m (Option Int)} {p2 : Pos} (ha : VE X ρ a xa) (hl : VO_ X ρ lo xl) (hh : VO_ X ρ hi xh) : VE X ρ (.Subscript a (.Slice lo hi none p2) pos) (xa >>= fun p => xl >>= fun l => xh >>= fun u => PM.lift (dSlice p l u)) :=
  imE (pe_slice sl_seq ha hl hh) fun σ H Q h => seqE h fun T A v H1 p w ev rp h => by
    rw [PM.run_bind] at h
    refine ⟨T, A, w, ev, PM.mono (fun l h H2 s2 o2 => ?_) h⟩
    rw [PM.run_bind] at h
    refine ⟨T, A, w.step s2 o2, ev.step w s2, PM.mono (fun u h H3 s3 o3 => ?_) h⟩
    rw [PM.run_lift] at h
    obtain ⟨d, e, k⟩ := h
    have w3 := (w.step s2 o2).step s3 o3
    have rp3 := (rp.step w s2).step (w.step s2 o2) s3
    have k3 : ∀ v H', Post X.K T A H3 H' d v → Q v H' := fun v H' q => k v H' (q.after (s2.trans s3))
    cases rp3 with
    | @lst a us ds n hs hr =>
      cases e
      refine .inl ⟨a, us, rfl, SqL.of hs, fun p np => ?_⟩
      refine k3 _ _ (.lst w3 np ?_)
      unfold cutV cutD
      rw [hr.length]
      exact (hr.drop _).take _
    | @tup a us ds hs hr =>
      cases e
      have hc : Reps X.K T A H3 (cutV us l u) (cutD ds l u) := by
        unfold cutV cutD
        rw [hr.length]
        exact (hr.drop _).take _
      refine .inr (.inl ⟨a, us, rfl, hs, fun hw => ?_, fun hw p np => k3 _ _ (.tup w3 np hc)⟩)
      have e1 : cutV us l u = us := cut_whole us l u hw
      rw [e1] at hc
      exact k3 _ _ (.same w3 (.tup hs hc))
    | str z =>
      obtain ⟨hz, e⟩ := ifs e
      subst e
      exact .inr (.inr ⟨z, rfl, hz, k3 _ _ (.same w3 (.str _))⟩)
    | _ => cases e
/-! ### two comparisons in a row -/
theorem VP.chain {op op' : CmpOp} {r r' : R2} {f f' : D → D → Option D} (ho : OpR X (compareOp op) r) (ho' : OpR X (compareOp op') r') (hr : OkR X.K f r) (hr' : OkR X.K f' r') (ha : VE X ρ a xa) (hb : VE X ρ b xb) (hc : VE X ρ c xc)
    (hm : lastMarks [op, op'] [b, c] = false := by with_unfolding_all rfl) :
    VP X ρ (.Compare a [op, op'] [b, c] pos) (xa >>= fun p => xb >>= fun q => PM.lift ((f p q).bind dBool) >>= fun k => if k = true then xc >>= fun r => PM.lift ((f' q r).bind dBool) else pure false) :=
  imT (pt_chain ho ho' ha hb hc hm) fun σ H Q ⟨T, A, w, ev, h⟩ => by
    rw [PM.run_bind] at h
    refine ⟨T, A, w, ev, PM.mono (fun p h v H1 o1 => ?_) h⟩
    rw [PM.run_bind] at h
    refine ⟨T, A, o1.wd w, ev.step w o1.st, PM.mono (fun q h v2 H2 o2 => ?_) h⟩
    rw [PM.run_bind, PM.run_lift] at h
    obtain ⟨k, e, h⟩ := h
    have w2 := o2.wd (o1.wd w)
    have ev2 := (ev.step w o1.st).step (o1.wd w) o2.st
    cases ef : f p q with
    | none => rw [ef] at e; cases e
    | some d =>
      rw [ef, Option.bind_some] at e
      refine hr T A H2 v v2 p q d _ w2 (o1.rp.step (o1.wd w) o2.st) o2.rp ef fun v3 H3 o3 => ?_
      cases d with
      | bool kk =>
        cases e
        have r3 := o3.rp
        cases r3
        refine ⟨k, rfl, ?_⟩
        cases k with
        | true =>
          rw [if_pos rfl] at h ⊢
          rw [PM.run_bind] at h
          refine ⟨T, A, o3.wd w2, ev2.step w2 o3.st, PM.mono (fun r h v4 H4 o4 => ?_) h⟩
          rw [PM.run_lift] at h
          obtain ⟨k2, e2, h⟩ := h
          cases ef2 : f' q r with
          | none => rw [ef2] at e2; cases e2
          | some d2 =>
            rw [ef2, Option.bind_some] at e2
            refine hr' T A H4 v2 v4 q r d2 _ (o4.wd (o3.wd w2)) ((o2.rp.step w2 o3.st).step (o3.wd w2) o4.st) o4.rp ef2 fun v5 H5 o5 => ?_
            cases d2 with
            | bool k5 =>
              cases e2
              have r5 := o5.rp
              cases r5
              exact ⟨_, rfl, h H5 (o1.st.trans (o2.st.trans (o3.st.trans (o4.st.trans o5.st)))) o5.ok⟩
            | _ => cases e2
        | false =>
          rw [if_neg Bool.false_ne_true] at h ⊢
          rw [PM.run_pure] at h
          exact ⟨false, rfl, h H3 (o1.st.trans (o2.st.trans o3.st)) o3.ok⟩
      | _ => cases e
theorem VE.chain {op op' : CmpOp} {r r' : R2} {f f' : D → D → Option D} (ho : OpR X (compareOp op) r) (ho' : OpR X (compareOp op') r') (hr : OkR X.K f r) (hr' : OkR X.K f' r') (ha : VE X ρ a xa) (hb : VE X ρ b xb) (hc : VE X ρ c xc)
    (hm : lastMarks [op, op'] [b, c] = false := by with_unfolding_all rfl) :
    VE X ρ (.Compare a [op, op'] [b, c] pos) (xa >>= fun p => xb >>= fun q => PM.lift ((f p q).bind dBool) >>= fun k => if k = true then xc >>= fun r => PM.lift (f' q r) else pure (.bool false)) :=
  imE (pe_chain ho ho' ha hb hc hm) fun σ H Q ⟨T, A, w, ev, h⟩ => by
    rw [PM.run_bind] at h
    refine ⟨T, A, w, ev, PM.mono (fun p h v H1 o1 => ?_) h⟩
    rw [PM.run_bind] at h
    refine ⟨T, A, o1.wd w, ev.step w o1.st, PM.mono (fun q h v2 H2 o2 => ?_) h⟩
    rw [PM.run_bind, PM.run_lift] at h
    obtain ⟨k, e, h⟩ := h
    have w2 := o2.wd (o1.wd w)
    have ev2 := (ev.step w o1.st).step (o1.wd w) o2.st
    cases ef : f p q with
    | none => rw [ef] at e; cases e
    | some d =>
      rw [ef, Option.bind_some] at e
      refine hr T A H2 v v2 p q d _ w2 (o1.rp.step (o1.wd w) o2.st) o2.rp ef fun v3 H3 o3 => ?_
      cases d with
      | bool kk =>
        cases e
        have r3 := o3.rp
        cases r3
        refine ⟨k, rfl, ?_⟩
        cases k with
        | true =>
          rw [if_pos rfl] at h ⊢
          rw [PM.run_bind] at h
          refine ⟨T, A, o3.wd w2, ev2.step w2 o3.st, PM.mono (fun r h v4 H4 o4 => ?_) h⟩
          rw [PM.run_lift] at h
          obtain ⟨d2, ef2, h⟩ := h
          exact hr' T A H4 v2 v4 q r d2 _ (o4.wd (o3.wd w2)) ((o2.rp.step w2 o3.st).step (o3.wd w2) o4.st) o4.rp ef2 fun v5 H5 o5 => h v5 H5 (o5.after (o1.st.trans (o2.st.trans (o3.st.trans o4.st))))
        | false =>
          rw [if_neg Bool.false_ne_true] at h ⊢
          rw [PM.run_pure] at h
          exact h _ H3 ⟨o1.st.trans (o2.st.trans o3.st), o3.ok, .bl _⟩
      | _ => cases e
/-! ### and, or, not as values (of truth values); e if c else f -/
theorem VE.one {op : BoolOp} (h : VE X ρ a xa) : VE X ρ (.BoolOp op [a] pos) xa := pe_one h
theorem VE.and {rest : List Expr} (ha : VE X ρ a xa) (hb : VE X ρ (.BoolOp .And (b :: rest) pos) xb) : VE X ρ (.BoolOp .And (a :: b :: rest) pos) (xa >>= fun p => PM.lift (dBool p) >>= fun k => if k = true then xb else pure (.bool false)) :=
  imE (pe_and ha hb) fun σ H Q h => seqE h fun T A v H1 p w ev rp h => by
    rw [PM.run_bind, PM.run_lift] at h
    obtain ⟨k, e, h⟩ := h
    cases p with
    | bool kk =>
      cases e
      cases rp
      refine ⟨k, rfl, ?_⟩
      cases k with
      | true => rw [if_pos rfl] at h ⊢; exact ⟨T, A, w, ev, h⟩
      | false => rw [if_neg Bool.false_ne_true] at h ⊢; rw [PM.run_pure] at h; exact h _ _ (.same w (.bl _))
    | _ => cases e
theorem VE.or {rest : List Expr} (ha : VE X ρ a xa) (hb : VE X ρ (.BoolOp .Or (b :: rest) pos) xb) : VE X ρ (.BoolOp .Or (a :: b :: rest) pos) (xa >>= fun p => PM.lift (dBool p) >>= fun k => if k = true then pure (.bool true) else xb) :=
  imE (pe_or ha hb) fun σ H Q h => seqE h fun T A v H1 p w ev rp h => by
    rw [PM.run_bind, PM.run_lift] at h
    obtain ⟨k, e, h⟩ := h
    cases p with
    | bool kk =>
      cases e
      cases rp
      refine ⟨k, rfl, ?_⟩
      cases k with
      | false => rw [if_neg Bool.false_ne_true] at h ⊢; exact ⟨T, A, w, ev, h⟩
      | true => rw [if_pos rfl] at h ⊢; rw [PM.run_pure] at h; exact h _ _ (.same w (.bl _))
    | _ => cases e
theorem truV_of {K : PySem.W.Frag} {T : Tk} {A : Addr → Prop} {H : Hp} {v : V} {p : D} {k : Bool} (r : Rep K T A H v p) (e : dTruth p = some k) : TruV K v H k := by
  cases r with
  | non => cases e; exact rfl
  | bl b => cases e; exact rfl
  | int i => cases e; exact rfl
  | str x =>
    have q := ifs e
    exact ⟨q.1, q.2.symm⟩
  | lst n hs hr =>
    have e2 := Option.some.inj e
    have hl := hr.length
    exact .inl ⟨_, .inl (.inl hs), by rw [← e2]; rename_i xs ds; cases xs <;> cases ds <;> simp at hl ⊢⟩
  | tup hs hr =>
    have e2 := Option.some.inj e
    have hl := hr.length
    exact .inr (.inl ⟨_, hs, by rw [← e2]; rename_i xs ds; cases xs <;> cases ds <;> simp at hl ⊢⟩)
  | tok => cases e
  | tok2 => cases e
  | scr => cases e
  | dic _ _ _ => cases e
  | dck _ _ _ _ => cases e
theorem VE.not (ha : VE X ρ a xa) : VE X ρ (.UnaryOp .Not a pos) (xa >>= fun p => PM.lift (dTruth p) >>= fun k => pure (.bool (!k))) :=
  imE (pe_notT ha) fun σ H Q h => seqE h fun T A v H1 p w ev rp h => by
    rw [PM.run_bind, PM.run_lift] at h
    obtain ⟨k, e, h⟩ := h
    rw [PM.run_pure] at h
    exact ⟨k, truV_of rp e, h _ _ (.same w (.bl _))⟩
theorem VE.ifx {tc : m Bool} (hc : VP X ρ c tc) (ha : VE X ρ a xa) (hb : VE X ρ b xb) : VE X ρ (.IfExp c a b pos) (tc >>= fun k => if k = true then xa else xb) :=
  imE (pe_ifExp hc ha hb) fun σ H Q ⟨T, A, w, ev, h⟩ => by
    rw [PM.run_bind] at h
    refine ⟨T, A, w, ev, PM.mono (fun k h H1 s1 o1 => ?_) h⟩
    cases k with
    | true =>
      rw [if_pos rfl] at h ⊢
      exact ⟨T, A, w.step s1 o1, ev.step w s1, PM.mono (fun p h v H2 q => h v H2 (q.after s1)) h⟩
    | false =>
      rw [if_neg Bool.false_ne_true] at h ⊢
      exact ⟨T, A, w.step s1 o1, ev.step w s1, PM.mono (fun p h v H2 q => h v H2 (q.after s1)) h⟩
/-! ### calls -/
theorem VE.bi {id : String} {x : Str} {p : Pos} {r : List V → Hp → VK → Prop} {f : List D → Option D} (hc : CallR X (.builtin id) r) (hk : OkC X.K f r) (hm : X.mg x = none) (hv : bootBuiltins x = some (.builtin id)) (ha : VA X ρ (e :: es) xs) (hg : Gl X x := by rfl) (hn : x ≠ "__name__" := by decide) (hdb : (x == ("__debug__" : Str)) = false := by decide)
    (he : starEach (e :: es) X.env = (false, eval e X.env) :: starEach es X.env := by rfl) (hpl : (backTo pos (starEach es X.env)).any (·.1) = false := by rfl) : VE X ρ (.Call (.Name x p) (e :: es) [] pos) (xs >>= fun l => PM.lift (f l)) :=
  imE (pe_callB hc hg hm hv ha.pa hn hdb he hpl) fun σ H Q ⟨T, A, w, ev, h⟩ => by
    rw [PM.run_bind] at h
    refine ⟨T, A, w, ev, PM.mono (fun l h vs H1 s1 o1 r1 => ?_) h⟩
    rw [PM.run_lift] at h
    obtain ⟨d, e, h⟩ := h
    exact hk T A H1 vs l d Q (w.step s1 o1) r1 e fun v H' q => h v H' (q.after s1)
theorem VE.ty {id : String} {x : Str} {p : Pos} {r : List V → Hp → VK → Prop} {f : List D → Option D} (hc : CallR X (.type id) r) (hk : OkC X.K f r) (hm : X.mg x = none) (hv : bootBuiltins x = some (.type id)) (ha : VA X ρ (e :: es) xs) (hg : Gl X x := by rfl) (hn : x ≠ "__name__" := by decide) (hdb : (x == ("__debug__" : Str)) = false := by decide)
    (he : starEach (e :: es) X.env = (false, eval e X.env) :: starEach es X.env := by rfl) (hpl : (backTo pos (starEach es X.env)).any (·.1) = false := by rfl) : VE X ρ (.Call (.Name x p) (e :: es) [] pos) (xs >>= fun l => PM.lift (f l)) :=
  imE (pe_callTy hc hg hm hv ha.pa hn hdb he hpl) fun σ H Q ⟨T, A, w, ev, h⟩ => by
    rw [PM.run_bind] at h
    refine ⟨T, A, w, ev, PM.mono (fun l h vs H1 s1 o1 r1 => ?_) h⟩
    rw [PM.run_lift] at h
    obtain ⟨d, e, h⟩ := h
    exact hk T A H1 vs l d Q (w.step s1 o1) r1 e fun v H' q => h v H' (q.after s1)
theorem VE.fun {id : String} {x : Str} {p : Pos} {r : List V → Hp → VK → Prop} {f : List D → Option D} (hc : CallR X (.builtin id) r) (hk : OkC X.K f r) (hm : X.mg x = some (.builtin id)) (ha : VA X ρ (e :: es) xs) (hg : Gl X x := by rfl) (hdb : (x == ("__debug__" : Str)) = false := by decide)
    (he : starEach (e :: es) X.env = (false, eval e X.env) :: starEach es X.env := by rfl) (hpl : (backTo pos (starEach es X.env)).any (·.1) = false := by rfl) : VE X ρ (.Call (.Name x p) (e :: es) [] pos) (xs >>= fun l => PM.lift (f l)) :=
  imE (pe_callBfun hc hg hm ha.pa hdb he hpl) fun σ H Q ⟨T, A, w, ev, h⟩ => by
    rw [PM.run_bind] at h
    refine ⟨T, A, w, ev, PM.mono (fun l h vs H1 s1 o1 r1 => ?_) h⟩
    rw [PM.run_lift] at h
    obtain ⟨d, e, h⟩ := h
    exact hk T A H1 vs l d Q (w.step s1 o1) r1 e fun v H' q => h v H' (q.after s1)
/-- what a def does with plain values -/
def spC (K : PySem.W.Frag) (C : List D → m D) : Sp := fun vs H Q _ => ∃ T A ds, Wd T A H ∧ Reps K T A H vs ds ∧ PM.run (C ds) fun p => ∀ v H', Post K T A H H' p v → Q v H'
/-- a def that stands at the module's name x -/
structure FC (P : Program) (w : World) (K : PySem.W.Frag) (mg : Str → Option Value) (base : Heap) (k : Nat) (x : Str) (C : List D → m D) : Prop where
  ex : ∃ f fd ps, FnOk P w K mg base CX0 k f fd ps (spC K C) ∧ mg x = some (.ref f) ∧ PySem.W.keepIn K (.ref f) = true ∧ Binds K fd ps []
theorem FC.mono {P : Program} {w : World} {K : PySem.W.Frag} {mg : Str → Option Value} {base : Heap} {k j : Nat} {x : Str} {C : List D → m D} (F : FC P w K mg base k x C) (h : k ≤ j) : FC P w K mg base j x C := by
  obtain ⟨f, fd, ps, h1, h2, h3, h4⟩ := F.ex
  exact ⟨f, fd, ps, h1.mono h, h2, h3, h4⟩
/-- a def without draws -/
theorem VE.call {k : Nat} {x : Str} {p : Pos} {C : List D → Option D} (F : FC X.prog X.w X.K X.mg X.base k x C) (hr : Room k X.A) (ha : VA X ρ (e :: es) xs) (hg : Gl X x := by rfl) (hdb : (x == ("__debug__" : Str)) = false := by decide)
    (he : starEach (e :: es) X.env = (false, eval e X.env) :: starEach es X.env := by rfl) (hpl : (backTo pos (starEach es X.env)).any (·.1) = false := by rfl) : VE X ρ (.Call (.Name x p) (e :: es) [] pos) (xs >>= fun l => PM.lift (C l)) := by
  obtain ⟨f, fd, ps, F1, hm, hk, hb⟩ := F.ex
  refine imE (pe_call F1 hr hg hm hk hb .nil pass0 ha.pa hdb he hpl) fun σ H Q ⟨T, A, w, ev, h⟩ => ?_
  rw [PM.run_bind] at h
  refine ⟨T, A, w, ev, PM.mono (fun l h vs H1 s1 o1 r1 => ?_) h⟩
  rw [PM.run_lift] at h
  show spC X.K C (vs ++ []) H1 Q E0
  rw [List.append_nil]
  exact ⟨T, A, l, w.step s1 o1, r1, PM.mono (m := Option) (fun d h v H' q => h v H' (q.after s1)) h⟩
theorem VE.call0 {k : Nat} {x : Str} {p : Pos} {C : List D → Option D} (F : FC X.prog X.w X.K X.mg X.base k x C) (hr : Room k X.A) (hg : Gl X x := by rfl) (hdb : (x == ("__debug__" : Str)) = false := by decide) : VE (m := m) X ρ (.Call (.Name x p) [] [] pos) (PM.lift (C [])) := by
  obtain ⟨f, fd, ps, F1, hm, hk, hb⟩ := F.ex
  refine imE (pe_call0 F1 hr hg hm hk hb .nil pass0 hdb) fun σ H Q ⟨T, A, w, ev, h⟩ => ?_
  rw [PM.run_lift] at h
  exact ⟨T, A, [], w, .nil, h⟩
/-- a def that draws -/
theorem VE.callP {k : Nat} {x : Str} {p : Pos} {C : List D → PP D} {xs : PP (List D)} (F : FC X.prog X.w X.K X.mg X.base k x C) (hr : Room k X.A) (ha : VA X ρ (e :: es) xs) (hg : Gl X x := by rfl) (hdb : (x == ("__debug__" : Str)) = false := by decide)
    (he : starEach (e :: es) X.env = (false, eval e X.env) :: starEach es X.env := by rfl) (hpl : (backTo pos (starEach es X.env)).any (·.1) = false := by rfl) : VE X ρ (.Call (.Name x p) (e :: es) [] pos) (xs >>= fun l => C l) := by
  obtain ⟨f, fd, ps, F1, hm, hk, hb⟩ := F.ex
  refine imE (pe_call F1 hr hg hm hk hb .nil pass0 ha.pa hdb he hpl) fun σ H Q ⟨T, A, w, ev, h⟩ => ?_
  rw [PM.run_bind] at h
  refine ⟨T, A, w, ev, PM.mono (fun l h vs H1 s1 o1 r1 => ?_) h⟩
  show spC X.K C (vs ++ []) H1 Q E0
  rw [List.append_nil]
  exact ⟨T, A, l, w.step s1 o1, r1, PM.mono (m := PP) (fun d h v H' q => h v H' (q.after s1)) h⟩
/-! ### isinstance of a built-in class -/
def rIsP (K : PySem.W.Frag) (t : V) (g : D → Bool) : List V → Hp → VK → Prop := fun vs H Q => ∃ (v : V) (d : D), vs = [v, t] ∧ Dp K H v d ∧ Q (.bl (g d)) H
theorem cr_is {T : String} {g : D → Bool} (h : ∀ (s : Shared) (v : Value) (d : D) (as : List Addr) (Q : Value → Shared → Prop), Reads s.heap v d as → (∀ tk, s.toks ≤ tk → Q (.bool (g d)) { s with toks := tk }) → wpAny (model X.prog X.w) X.A (call (.builtin "isinstance") [v, .type T]) Q X.xe s) : CallR X (.builtin "isinstance") (rIsP X.K (.ty T) g) := by
  intro pins s σ H vs us Q I r ⟨v, d, e, hd, q⟩
  subst e
  obtain ⟨u1, u2, rfl, r1, r2⟩ := vals2 r
  obtain ⟨as, rr⟩ := Dp.reads I d v u1 hd r1
  cases (show u2 = Value.type T from r2)
  exact h s u1 d as _ rr fun tk _ => ⟨.bl _, H, I.tok tk, rfl, q⟩
theorem cr_isInt : CallR X (.builtin "isinstance") (rIsP X.K (.ty "int") PyData.isInt) := cr_is fun s v d as Q r h => PySem.W.isinstance_int_data r h
theorem cr_isBool : CallR X (.builtin "isinstance") (rIsP X.K (.ty "bool") PyData.isBool) := cr_is fun s v d as Q r h => PySem.W.isinstance_bool_data r h
theorem cr_isStr : CallR X (.builtin "isinstance") (rIsP X.K (.ty "str") PyData.isStr) := cr_is fun s v d as Q r h => PySem.W.isinstance_str_data r h
theorem cr_isList : CallR X (.builtin "isinstance") (rIsP X.K (.ty "list") PyData.isList) := cr_is fun s v d as Q r h => PySem.W.isinstance_list_data r h
theorem cr_isTuple : CallR X (.builtin "isinstance") (rIsP X.K (.ty "tuple") PyData.isTuple) := cr_is fun s v d as Q r h => PySem.W.isinstance_tuple_data r h
def plainB (g : D → Bool) (d : D) : Option D := if d.plain then some (.bool (g d)) else none
/-- isinstance(e, T) -/
theorem VE.isi {T : String} {g : D → Bool} {p p2 : Pos} {x : Str} (hc : CallR X (.builtin "isinstance") (rIsP X.K (.ty T) g)) (hm : X.mg "isinstance" = none) (hmx : X.mg x = none) (hvx : bootBuiltins x = some (.type T)) (ha : VE X ρ a xa) (hg : Gl X "isinstance" := by rfl) (hgx : Gl X x := by rfl) (hn : x ≠ "__name__" := by decide) (hdb : (x == ("__debug__" : Str)) = false := by decide)
    (he : starEach [a, .Name x p2] X.env = (false, eval a X.env) :: starEach [.Name x p2] X.env := by rfl) (he2 : starEach [.Name x p2] X.env = (false, eval (.Name x p2) X.env) :: starEach [] X.env := by rfl) (hpl : (backTo pos (starEach [.Name x p2] X.env)).any (·.1) = false := by rfl) :
    VE X ρ (.Call (.Name "isinstance" p) [a, .Name x p2] [] pos) (xa >>= fun q => PM.lift (plainB g q)) :=
  imE (pe_callB hc hg hm boot_isinstance (pa_cons ha (pa_cons (pe_bltn (v := .ty T) hgx hmx hvx rfl hn hdb) pa_nil he2) he) (by decide) (by decide) he hpl) fun σ H Q h => seqE h fun T' A v H1 p w ev rp h => by
    rw [PM.run_lift] at h
    obtain ⟨d, e, h⟩ := h
    obtain ⟨hp, e⟩ := ifs e
    subst e
    exact ⟨v, p, rfl, rp.dp hp, h _ _ (.same w (.bl _))⟩
end
end Qv

namespace Qv
open PySem PySem.Spec PyProof.Rows L2
/-! ## walking a dict's keys -/
section
variable {X : Cx} {pins : List (Addr × Obj)} {σ : L2.St} {H : Hp} {s : Shared} {a : Addr} {xs : List En} {o : Obj}
theorem dn_obj (I : Inv X pins σ H s) (h : H a = some (DN a xs o)) : (a == sysModules) = false ∧ s.heap.get? a = some o ∧ o.ExactDict ∧ ∃ (es : Array DictEntry) (ep : Nat), o.data = .dict es ep ∧ es.size = xs.length ∧
    ∀ (i : Nat) (e : En), xs[i]? = some e → ∃ en : DictEntry, es[i]? = some en ∧ en.key = .ref e.2.1 := by
  obtain ⟨⟨h1, h2, h3, h4, us, rv, h5, es, ep, h6, h7, h8⟩, _⟩ := I.hok a _ h
  have hl : xs.length = us.length := by have := rv.length; simpa using this
  have h9 := h8 X.w
  rw [zE_ent] at h9
  have hz : es.size = xs.length := by
    have := congrArg List.length h9
    rw [Array.length_toList, List.length_map, zE_len hl] at this
    exact this
  refine ⟨h1, h5, h6, es, ep, h7, hz, fun i e hi => ?_⟩
  have hi2 : i < xs.length := (List.getElem?_eq_some_iff.mp hi).1
  have e1 : es[i]? = ((zE xs us)[i]?).map (fun x => (⟨NestedKey.hash X.w x.1, .ref x.2.1, x.2.2⟩ : DictEntry)) := by
    rw [← Array.getElem?_toList, h9, List.getElem?_map]
  have e2 : (zE xs us)[i]? = some (e.1, e.2.1, us[i]'(by omega)) := by
    unfold zE
    rw [List.getElem?_zipWith, hi, List.getElem?_eq_getElem (by omega : i < us.length)]
  exact ⟨_, by rw [e1, e2]; rfl, rfl⟩
/-- the keys, in their order -/
def Itn (a : Addr) (xs : List En) (o : Obj) : It :=
  ⟨fun i G => G a = some (DN a xs o) ∧ i < xs.length, fun i G y G' => G' = G ∧ ∃ e : En, xs[i]? = some e ∧ y = .ref e.2.1, fun i G => G a = some (DN a xs o) ∧ xs.length ≤ i⟩
theorem turn_dn {P : Program} {w : World} {K : PySem.W.Frag} {tg : Expr} {es : Array DictEntry} {ep : Nat} (j : Addr) (hod : o.data = .dict es ep) : Turn P w K tg (Itn a xs o) [j] j (fun i g => g.IsKeyIter j a i xs.length ep) where
  mem := List.mem_singleton.mpr rfl
  obj := fun i g st c hc => by
    obtain rfl := List.mem_singleton.mp hc
    obtain ⟨oi, e, c, dd⟩ := st
    exact ⟨oi, e, fun v z => by rw [dd] at z; cases z⟩
  keep := fun i g g' st k => st.at fun oi q => k j List.mem_cons_self oi q
  item := by
    intro X hP hw hK hc i pins s σ G E I hf st hg
    cases hP; cases hw; cases hK
    obtain ⟨hd, hi⟩ := hg
    obtain ⟨f0, f1, f2, f3, f4, f5⟩ := hf j List.mem_cons_self
    obtain ⟨hs, hgd, hx, es2, ep2, hd2, hsz, ent⟩ := dn_obj I hd
    obtain ⟨rfl, rfl⟩ := dict_ep hod hd2
    have hx2 := List.getElem?_eq_getElem hi
    obtain ⟨en, hen, hkey⟩ := ent i _ hx2
    refine next_key_item st hgd hd2 hsz hen fun g2 st2 sb => ?_
    have I1 : Inv X pins σ G { s with heap := g2 } := I.turned (t' := s.toks) (fun c ob hc q => (sb.2 c hc).trans q) f0 f1 f3 f4 f5
    obtain ⟨oi, q1, q2, q3⟩ := id st2
    exact ⟨en.key, rfl, go_of (s := { s with heap := g2 }) q1 q2 q3 (by decide) ⟨.ref (xs[i]).2.1, G, I1, hkey, ⟨rfl, _, hx2, rfl⟩, st2, fun c hc => (hf c hc).1⟩⟩
  done := by
    intro X hP hw hK hc i pins s σ G E I hf st hg
    cases hP; cases hw; cases hK
    obtain ⟨hd, hi⟩ := hg
    obtain ⟨f0, f1, f2, f3, f4, f5⟩ := hf j List.mem_cons_self
    obtain ⟨hs, hgd, hx, es2, ep2, hd2, hsz, ent⟩ := dn_obj I hd
    obtain ⟨rfl, rfl⟩ := dict_ep hod hd2
    exact next_key_end (I.ok.hd hc) st hgd hd2 hsz hi fun g2 eb => ⟨rfl, I.turned (t' := s.toks) (fun c ob hc q => eb c ob hc q) f0 f1 f3 f4 f5⟩
  self := fun A i s Q E st h => (turn_keysT (P := P) (w := w) (K := K) (tg := tg) (d := a) (o := o) (kvs := xs.map fun _ => (([] : List Key), V.non)) j hod).self A i s Q E (by rw [List.length_map]; exact st) h
theorem pi_dn {te : TE} {tg e : Expr} (h : PE X e te) : PI X tg e (fun σ H R => te σ H fun x H1 => ∃ a xs o, x = .ref a ∧ H1 a = some (DN a xs o) ∧ R (Itn a xs o) H1) := by
  constructor
  intro pins s σ H R I q
  refine thn (h.run pins s σ H _ I q) ?_
  rintro v s1 ⟨x, H1, I1, r1, a, xs, o, rfl, hd, k⟩
  obtain rfl : v = .ref a := r1
  obtain ⟨hs, hgd, hx, es, ep, hd2, hsz, _⟩ := dn_obj I1 hd
  refine iter_keys hs hgd hx hd2 (pi_one (tk := s1.toks) I1 _ (turn_dn _ hd2) ⟨_, Heap.get?_push_size _ rfl, rfl, ?_⟩ k)
  rw [hsz] <;> rfl
end
section
variable {K : PySem.W.Frag} {T : Tk} {A : Addr → Prop} {H : Hp}
theorem repD_get : ∀ {xs : List En} {ds : List (D × D)} {i : Nat} {p : D}, RepD K T A H xs ds → (ds.map (·.1))[i]? = some p → ∃ e, xs[i]? = some e ∧ Rep K T A H (.ref e.2.1) p
  | _, _, _, _, .nil, h => by simp at h
  | _, _, 0, _, .cons _ h1 _ _, h => by
    simp only [List.map_cons, List.getElem?_cons_zero, Option.some.injEq] at h
    subst h
    exact ⟨_, rfl, h1⟩
  | _, _, i + 1, p, .cons _ _ _ r, h => by
    obtain ⟨e, h1, h2⟩ := repD_get (i := i) r (by simpa using h)
    exact ⟨e, by simpa using h1, h2⟩
theorem repD_len : ∀ {xs : List En} {ds : List (D × D)}, RepD K T A H xs ds → xs.length = ds.length
  | _, _, .nil => rfl
  | _, _, .cons _ _ _ r => by rw [List.length_cons, List.length_cons, repD_len r]
end
end Qv

namespace Qv
open PySem PySem.Spec PyProof.Rows L2
/-! ## what is walked -/
section
variable {K : PySem.W.Frag} {T : Tk} {A : Addr → Prop}
/-- the items of what J walks, as long as all but A stays -/
def ItOk (K : PySem.W.Frag) (T : Tk) (A : Addr → Prop) (J : It) (ps : List D) (H0 : Hp) : Prop := ∀ (B : Addr → Prop), (∀ a, B a → A a ∨ H0 a = none) → ∀ (i : Nat) (H : Hp), Wd T B H → StA B H0 H →
  (∀ p, ps[i]? = some p → J.go i H ∧ ∀ x H', J.yld i H x H' → (∀ a o, H a = some o → H' a = some o) ∧ T.ok H' ∧ Rep K T B H' x p) ∧ (ps.length ≤ i → J.stop i H)
theorem munB {B : Addr → Prop} {H0 : Hp} (w0 : Wd T A H0) (hB : ∀ a, B a → A a ∨ H0 a = none) : MuN B H0 := fun a q => (hB a q).elim (fun z => .inr (w0.mu a z)) .inl
theorem notB {B : Addr → Prop} {H0 : Hp} {a : Addr} {o : HO} (n : ¬ A a) (h : H0 a = some o) (hB : ∀ a, B a → A a ∨ H0 a = none) : ¬ B a := fun q => (hB a q).elim n fun z => by rw [h] at z; cases z
theorem itList {a : Addr} {us : List V} {ds : List D} {H0 : Hp} (n : ¬ A a) (h : H0 a = some (.lst us)) (r : Reps K T A H0 us ds) (w0 : Wd T A H0) : ItOk K T A (Itl K a) ds H0 := fun B hB i H w s => by
  have hs : SqL K H a us := SqL.of (s a _ h (notB n h hB))
  have r2 := (r.ext hB).stA (munB w0 hB) s
  refine ⟨fun p e => ?_, fun e => ⟨us, hs, by rw [r.length]; exact e⟩⟩
  obtain ⟨v, e1, r1⟩ := r2.get e
  refine ⟨⟨us, v, hs, e1⟩, fun x H' ⟨e2, y⟩ => ?_⟩
  subst e2
  have e3 := y us hs
  rw [e1] at e3
  cases e3
  exact ⟨fun _ _ h => h, w.ok, r1⟩
theorem itTup {a : Addr} {us : List V} {ds : List D} {H0 : Hp} (h : SqT K H0 a us) (r : Reps K T A H0 us ds) (w0 : Wd T A H0) : ItOk K T A (Itt K a) ds H0 := fun B hB i H w s => by
  have hs : SqT K H a us := sqT_stA (munB w0 hB) h s
  have r2 := (r.ext hB).stA (munB w0 hB) s
  refine ⟨fun p e => ?_, fun e => ⟨us, hs, by rw [r.length]; exact e⟩⟩
  obtain ⟨v, e1, r1⟩ := r2.get e
  refine ⟨⟨us, v, hs, e1⟩, fun x H' ⟨e2, y⟩ => ?_⟩
  subst e2
  have e3 := y us hs
  rw [e1] at e3
  cases e3
  exact ⟨fun _ _ h => h, w.ok, r1⟩
theorem rgL_get {lo : Int} {n i : Nat} {p : D} (h : (rgL lo n)[i]? = some p) : i < n ∧ p = .int (lo + i) := by
  unfold rgL at h
  rw [List.getElem?_map] at h
  by_cases hi : i < n
  · rw [List.getElem?_range hi] at h
    exact ⟨hi, (Option.some.inj h).symm⟩
  · rw [List.getElem?_eq_none (by simpa using Nat.le_of_not_lt hi)] at h
    cases h
theorem itRng {lo : Int} {n : Nat} {H0 : Hp} : ItOk K T A (Itr lo n) (rgL lo n) H0 := fun B hB i H w s => by
  refine ⟨fun p e => ?_, fun e => show n ≤ i by simpa [rgL] using e⟩
  obtain ⟨h1, rfl⟩ := rgL_get e
  refine ⟨h1, fun x H' ⟨e2, y⟩ => ?_⟩
  subst e2 y
  exact ⟨fun _ _ h => h, w.ok, .int _⟩
def strL (x : Str) : List D := x.cps.toList.map fun c => .str ⟨#[c]⟩
theorem itDic {a : Addr} {xs : List En} {o : Obj} {ds : List (D × D)} {H0 : Hp} (n : ¬ A a) (h : H0 a = some (DN a xs o)) (r : RepD K T A H0 xs ds) (w0 : Wd T A H0) : ItOk K T A (Itn a xs o) (ds.map (·.1)) H0 := fun B hB i G w s => by
  have hs : G a = some (DN a xs o) := s a _ h (notB n h hB)
  have r2 := (r.ext hB).stA (munB w0 hB) s
  refine ⟨fun p e => ?_, fun e => ⟨hs, by rw [List.length_map] at e; rw [repD_len r]; exact e⟩⟩
  obtain ⟨v, e1, r1⟩ := repD_get r2 e
  refine ⟨⟨hs, (List.getElem?_eq_some_iff.mp e1).1⟩, fun x G' ⟨e2, y, e3, e4⟩ => ?_⟩
  subst e2
  rw [e1] at e3
  cases e3
  subst e4
  exact ⟨fun _ _ q => q, w.ok, r1⟩
theorem itStr {x : Str} {H0 : Hp} : ItOk K T A (Its x) (strL x) H0 := fun B hB i H w s => by
  have hl : (strL x).length = x.cps.size := by simp [strL]
  refine ⟨fun p e => ?_, fun e => by rw [hl] at e; exact e⟩
  have hi : i < x.cps.size := by rw [← hl]; exact (List.getElem?_eq_some_iff.mp e).1
  refine ⟨hi, fun v H' ⟨e2, c, ec, ev⟩ => ?_⟩
  subst e2 ev
  refine ⟨fun _ _ h => h, w.ok, ?_⟩
  unfold strL at e
  rw [List.getElem?_map] at e
  have e3 : x.cps.toList[i]? = some c := by simpa using ec
  rw [e3] at e
  cases e
  exact .str _
/-- new tuples of a turn -/
theorem new_tup {H : Hp} {t : Addr} {us : List V} {ds : List D} (w : Wd T A H) (n : H t = none) (r : Reps K T A H us ds) : (∀ a o, H a = some o → (upd H t (.tup us)) a = some o) ∧ T.ok (upd H t (.tup us)) ∧ Rep K T A (upd H t (.tup us)) (.ref t) (.tuple ds) := by
  have q := Post.tup (K := K) w n r
  exact ⟨fun a o e => by rw [upd_ne (ne_of_none e n)]; exact e, q.ok, q.rp⟩
def enumFrom (k : Nat) : List D → List D
  | [] => []
  | d :: ds => .tuple [.int k, d] :: enumFrom (k + 1) ds
theorem enum_get : ∀ {ds : List D} {k i : Nat} {p : D}, (enumFrom k ds)[i]? = some p → ∃ d, ds[i]? = some d ∧ p = .tuple [.int ((k + i : Nat) : Int), d]
  | [], _, _, _, h => by simp [enumFrom] at h
  | d :: ds, k, 0, p, h => by simp [enumFrom] at h; exact ⟨d, rfl, by rw [← h]; rfl⟩
  | d :: ds, k, i + 1, p, h => by
    obtain ⟨d', e1, e2⟩ := enum_get (ds := ds) (k := k + 1) (i := i) (p := p) (by simpa [enumFrom] using h)
    exact ⟨d', by simpa using e1, by rw [e2, show k + 1 + i = k + (i + 1) by omega]⟩
theorem enum_len : ∀ (ds : List D) (k : Nat), (enumFrom k ds).length = ds.length
  | [], _ => rfl
  | d :: ds, k => by simp [enumFrom, enum_len ds (k + 1)]
theorem itEnum {a : Addr} {us : List V} {ds : List D} {H0 : Hp} (n : ¬ A a) (h : H0 a = some (.lst us)) (r : Reps K T A H0 us ds) (w0 : Wd T A H0) : ItOk K T A (Ite K a) (enumFrom 0 ds) H0 := fun B hB i H w s => by
  have hs : SqL K H a us := SqL.of (s a _ h (notB n h hB))
  have r2 := (r.ext hB).stA (munB w0 hB) s
  refine ⟨fun p e => ?_, fun e => ⟨us, hs, by rw [enum_len] at e; rw [r.length]; exact e⟩⟩
  obtain ⟨d, e0, rfl⟩ := enum_get e
  obtain ⟨v, e1, r1⟩ := r2.get e0
  refine ⟨⟨us, v, hs, e1⟩, fun x H' ⟨t, x1, ex, nt, eH, y⟩ => ?_⟩
  subst ex eH
  have e3 := y us hs
  rw [e1] at e3
  cases e3
  rw [Nat.zero_add]
  exact new_tup w nt (.cons (.int _) (.cons r1 .nil))
def zipD : List D → List D → List D
  | x :: xs, y :: ys => .tuple [x, y] :: zipD xs ys
  | _, _ => []
theorem zip_get : ∀ {xs ys : List D} {i : Nat} {p : D}, (zipD xs ys)[i]? = some p → ∃ x y, xs[i]? = some x ∧ ys[i]? = some y ∧ p = .tuple [x, y]
  | [], _, _, _, h => by simp [zipD] at h
  | _ :: _, [], _, _, h => by simp [zipD] at h
  | x :: xs, y :: ys, 0, p, h => by simp [zipD] at h; exact ⟨x, y, rfl, rfl, h.symm⟩
  | x :: xs, y :: ys, i + 1, p, h => by
    obtain ⟨x', y', e1, e2, e3⟩ := zip_get (xs := xs) (ys := ys) (i := i) (p := p) (by simpa [zipD] using h)
    exact ⟨x', y', by simpa using e1, by simpa using e2, e3⟩
theorem zip_len : ∀ (xs ys : List D), (zipD xs ys).length = min xs.length ys.length
  | [], _ => by simp [zipD]
  | _ :: _, [] => by simp [zipD]
  | x :: xs, y :: ys => by simp [zipD, zip_len xs ys]
theorem itZip {a b : Addr} {us ws : List V} {ds es : List D} {H0 : Hp} (n : ¬ A a) (h : H0 a = some (.lst us)) (r : Reps K T A H0 us ds) (n' : ¬ A b) (h' : H0 b = some (.lst ws)) (r' : Reps K T A H0 ws es) (w0 : Wd T A H0) : ItOk K T A (Itz K a b) (zipD ds es) H0 := fun B hB i H w s => by
  have hs : SqL K H a us := SqL.of (s a _ h (notB n h hB))
  have hs' : SqL K H b ws := SqL.of (s b _ h' (notB n' h' hB))
  have r2 := (r.ext hB).stA (munB w0 hB) s
  have r2' := (r'.ext hB).stA (munB w0 hB) s
  refine ⟨fun p e => ?_, fun e => ⟨us, ws, hs, hs', by rw [zip_len] at e; rw [r.length, r'.length]; omega⟩⟩
  obtain ⟨d, d', e0, e0', rfl⟩ := zip_get e
  obtain ⟨v, e1, r1⟩ := r2.get e0
  obtain ⟨v', e1', r1'⟩ := r2'.get e0'
  refine ⟨⟨us, ws, v, v', hs, hs', e1, e1'⟩, fun x H' ⟨t, x1, y1, ex, nt, eH, y, y'⟩ => ?_⟩
  subst ex eH
  have e3 := y us hs
  have e4 := y' ws hs'
  rw [e1] at e3
  rw [e1'] at e4
  cases e3
  cases e4
  exact new_tup w nt (.cons r1 (.cons r1' .nil))
theorem itZipT {a b : Addr} {us ws : List V} {ds es : List D} {H0 : Hp} (h : SqT K H0 a us) (r : Reps K T A H0 us ds) (h' : SqT K H0 b ws) (r' : Reps K T A H0 ws es) (w0 : Wd T A H0) : ItOk K T A (RZ.ItzT K a b) (zipD ds es) H0 := fun B hB i H w s => by
  have hs : SqT K H a us := sqT_stA (munB w0 hB) h s
  have hs' : SqT K H b ws := sqT_stA (munB w0 hB) h' s
  have r2 := (r.ext hB).stA (munB w0 hB) s
  have r2' := (r'.ext hB).stA (munB w0 hB) s
  refine ⟨fun p e => ?_, fun e => ⟨us, ws, hs, hs', by rw [zip_len] at e; rw [r.length, r'.length]; omega⟩⟩
  obtain ⟨d, d', e0, e0', rfl⟩ := zip_get e
  obtain ⟨v, e1, r1⟩ := r2.get e0
  obtain ⟨v', e1', r1'⟩ := r2'.get e0'
  refine ⟨⟨us, ws, v, v', hs, hs', e1, e1'⟩, fun x H' ⟨t, x1, y1, ex, nt, eH, y, y'⟩ => ?_⟩
  subst ex eH
  have e3 := y us hs
  have e4 := y' ws hs'
  rw [e1] at e3
  rw [e1'] at e4
  cases e3
  cases e4
  exact new_tup w nt (.cons r1 (.cons r1' .nil))
end
section
variable {m : Type → Type} [PM m] {X : Cx} {ρ : Rh} {a b c e tg : Expr} {es : List Expr} {xa xb xc : m D} {xs : m (List D)} {pos : Pos}
def tI (K : PySem.W.Frag) (ρ : Rh) (x : m (List D)) : TI := fun σ H R => ∃ T A, Wd T A H ∧ Ev K T A ρ σ H ∧ PM.run x fun ps => ∀ J H', Step T H H' → T.ok H' → ItOk K T A J ps H' → R J H'
abbrev VI (X : Cx) (ρ : Rh) (tg e : Expr) (x : m (List D)) : Prop := PI X tg e (tI X.K ρ x)
/-- a list, a tuple or a text, as it comes -/
theorem pi_any {te : TE} (h : PE X e te) : PI X tg e (fun σ H R => te σ H fun x H1 => (∃ a us, x = .ref a ∧ SqL X.K H1 a us ∧ R (Itl X.K a) H1) ∨ (∃ a us, x = .ref a ∧ SqT X.K H1 a us ∧ R (Itt X.K a) H1) ∨ (∃ z, x = .str z ∧ R (Its z) H1) ∨ ∃ a xs o, x = .ref a ∧ H1 a = some (DN a xs o) ∧ R (Itn a xs o) H1) := by
  constructor
  intro pins s σ H R I q
  refine thn (h.run pins s σ H _ I q) ?_
  rintro v s1 ⟨x, H1, I1, r1, ⟨l, us, rfl, hl, k⟩ | ⟨l, us, rfl, hl, k⟩ | ⟨z, rfl, k⟩ | ⟨a, xs, o, rfl, hd, k⟩⟩
  · obtain rfl : v = .ref l := r1
    obtain ⟨its, rv, pl, hz⟩ := I1.list hl
    exact wpAny_pyIter_list pl.isList (pi_one (tk := s1.toks) I1 _ (turn_list l _) ⟨_, Heap.get?_push_size _ rfl, rfl, rfl⟩ k)
  · obtain rfl : v = .ref l := r1
    obtain ⟨its, rv, pl, hz⟩ := I1.tuple hl
    exact wpAny_pyIter_tuple (items := its.toArray) pl (pi_one (tk := s1.toks) I1 _ (turn_tuple l _) ⟨_, Heap.get?_push_size _ rfl, rfl, rfl⟩ k)
  · obtain ⟨t, rfl⟩ := r1
    cases ha : z.cps.all (· < 128) with
    | false => exact wpAny_pyIter_wide ha (pi_one (tk := s1.toks) I1 _ (turn_str _ z t _ (.inr rfl)) ⟨_, Heap.get?_push_size _ rfl, rfl, rfl⟩ k)
    | true => exact wpAny_pyIter_ascii ha (pi_one (tk := s1.toks) I1 _ (turn_str _ z t _ (.inl rfl)) ⟨_, Heap.get?_push_size _ rfl, rfl, rfl⟩ k)
  · obtain rfl : v = .ref a := r1
    obtain ⟨hs, hgd, hx, es, ep, hd2, hsz, _⟩ := dn_obj I1 hd
    refine iter_keys hs hgd hx hd2 (pi_one (tk := s1.toks) I1 _ (turn_dn _ hd2) ⟨_, Heap.get?_push_size _ rfl, rfl, ?_⟩ k)
    rw [hsz] <;> rfl
def dIter : D → Option (List D)
  | .list xs => some xs
  | .tuple xs => some xs
  | .str z => some (strL z)
  | .dict ds => if okT ds then some (ds.map (·.1)) else none
  | _ => none
theorem VI.any (h : VE X ρ e xa) : VI X ρ tg e (xa >>= fun p => PM.lift (dIter p)) :=
  imI (pi_any h) fun σ H R ⟨T, A, w, ev, q⟩ => by
    rw [PM.run_bind] at q
    refine ⟨T, A, w, ev, PM.mono (fun p q v H1 o => ?_) q⟩
    rw [PM.run_lift] at q
    obtain ⟨ps, e1, q⟩ := q
    have w1 := o.wd w
    have rp := o.rp
    cases rp with
    | lst n h r => cases e1; exact .inl ⟨_, _, rfl, SqL.of h, q _ _ o.st o.ok (itList n h r w1)⟩
    | tup h r => cases e1; exact .inr (.inl ⟨_, _, rfl, h, q _ _ o.st o.ok (itTup h r w1)⟩)
    | str z => cases e1; exact .inr (.inr (.inl ⟨_, rfl, q _ _ o.st o.ok itStr⟩))
    | dic n h r =>
      obtain ⟨_, e1⟩ := ifs e1
      subst e1
      exact .inr (.inr (.inr ⟨_, _, _, rfl, h, q _ _ o.st o.ok (itDic n h r w1)⟩))
    | dck c n h r =>
      obtain ⟨e2, e1⟩ := ifs e1
      exact absurd (repK_okT r e2).2 c
    | _ => cases e1
theorem VI.range1 {p : Pos} (hm : X.mg "range" = none) (ha : VA X ρ [a] xs) (hg : Gl X "range" := by rfl) (hs : starEach [a] X.env = [(false, eval a X.env)] := by rfl) : VI X ρ tg (.Call (.Name "range" p) [a] [] pos) (xs >>= fun l => PM.lift (rng1L l)) :=
  imI (pi_range1 hg hm ha.pa hs) fun σ H R ⟨T, A, w, ev, q⟩ => by
    rw [PM.run_bind] at q
    refine ⟨T, A, w, ev, PM.mono (fun l q vs H1 s1 o1 r1 => ?_) q⟩
    rw [PM.run_lift] at q
    obtain ⟨ps, e1, q⟩ := q
    match l, e1 with
    | [.int n], e1 =>
      obtain ⟨v, rfl, rv⟩ := reps1 r1
      cases rv
      obtain ⟨h, e1⟩ := ifs e1
      subst e1
      simp only [okR, Bool.and_eq_true, decide_eq_true_eq] at h
      exact ⟨n, rfl, h.1, h.2, q _ _ s1 o1 itRng⟩
theorem VI.range2 {p : Pos} (hm : X.mg "range" = none) (ha : VA X ρ [a, b] xs) (hg : Gl X "range" := by rfl) (hs : starEach [a, b] X.env = [(false, eval a X.env), (false, eval b X.env)] := by rfl) (hs2 : starEach [b] X.env = [(false, eval b X.env)] := by rfl) : VI X ρ tg (.Call (.Name "range" p) [a, b] [] pos) (xs >>= fun l => PM.lift (rng2L l)) :=
  imI (pi_range2 hg hm ha.pa hs hs2) fun σ H R ⟨T, A, w, ev, q⟩ => by
    rw [PM.run_bind] at q
    refine ⟨T, A, w, ev, PM.mono (fun l q vs H1 s1 o1 r1 => ?_) q⟩
    rw [PM.run_lift] at q
    obtain ⟨ps, e1, q⟩ := q
    match l, e1 with
    | [.int n, .int k], e1 =>
      obtain ⟨v, u, rfl, rv, ru⟩ := reps2 r1
      cases rv
      cases ru
      obtain ⟨h, e1⟩ := ifs e1
      subst e1
      simp only [okR, Bool.and_eq_true, decide_eq_true_eq] at h
      exact ⟨n, k, rfl, ⟨h.1.1, h.1.2, h.2.1, h.2.2⟩, q _ _ s1 o1 itRng⟩
def enumL : List D → Option (List D)
  | [.list xs] => some (enumFrom 0 xs)
  | _ => none
theorem VI.enum {p tpos : Pos} {elts : List Expr} {kk : Nat} (hm : X.mg "enumerate" = none) (ha : VA X ρ [a] xs) (hg : Gl X "enumerate" := by rfl) (hs : starEach [a] X.env = [(false, eval a X.env)] := by rfl) : VI X ρ (.Tuple elts kk tpos) (.Call (.Name "enumerate" p) [a] [] pos) (xs >>= fun l => PM.lift (enumL l)) :=
  imI (pi_enum hg hm ha.pa hs) fun σ H R ⟨T, A, w, ev, q⟩ => by
    rw [PM.run_bind] at q
    refine ⟨T, A, w, ev, PM.mono (fun l q vs H1 s1 o1 r1 => ?_) q⟩
    rw [PM.run_lift] at q
    obtain ⟨ps, e1, q⟩ := q
    match l, e1 with
    | [.list ds], e1 =>
      obtain ⟨v, rfl, rv⟩ := reps1 r1
      cases rv with
      | lst n h r =>
        cases e1
        exact ⟨_, _, rfl, SqL.of h, q _ _ s1 o1 (itEnum n h r (w.step s1 o1))⟩
def zipL : List D → Option (List D)
  | [.list xs, .list ys] => some (zipD xs ys)
  | [.tuple xs, .tuple ys] => some (zipD xs ys)
  | _ => none
theorem VI.zip {p tpos : Pos} {elts : List Expr} {kk : Nat} (hm : X.mg "zip" = none) (ha : VA X ρ [a, b] xs) (hg : Gl X "zip" := by rfl) (hs : starEach [a, b] X.env = (false, eval a X.env) :: starEach [b] X.env := by rfl) (hpl : (backTo pos (starEach [b] X.env)).any (·.1) = false := by rfl) :
    VI X ρ (.Tuple elts kk tpos) (.Call (.Name "zip" p) [a, b] [] pos) (xs >>= fun l => PM.lift (zipL l)) :=
  imI (RZ.pi_zipA hg hm ha.pa hs hpl) fun σ H R ⟨T, A, w, ev, q⟩ => by
    rw [PM.run_bind] at q
    refine ⟨T, A, w, ev, PM.mono (fun l q vs H1 s1 o1 r1 => ?_) q⟩
    rw [PM.run_lift] at q
    obtain ⟨ps, e1, q⟩ := q
    match l, e1 with
    | [.list ds, .list ds'], e1 =>
      obtain ⟨v, u, rfl, rv, ru⟩ := reps2 r1
      cases rv with
      | lst n h r =>
        cases ru with
        | lst n' h' r' =>
          cases e1
          exact ⟨_, _, _, _, rfl, .inl ⟨SqL.of h, SqL.of h', q _ _ s1 o1 (itZip n h r n' h' r' (w.step s1 o1))⟩⟩
    | [.tuple ds, .tuple ds'], e1 =>
      obtain ⟨v, u, rfl, rv, ru⟩ := reps2 r1
      cases rv with
      | tup h r =>
        cases ru with
        | tup h' r' =>
          cases e1
          exact ⟨_, _, _, _, rfl, .inr ⟨h, h', q _ _ s1 o1 (itZipT h r h' r' (w.step s1 o1))⟩⟩
/-! ## targets -/
def sPut (σ : L2.St) : List Nat → List V → L2.St
  | i :: is, v :: vs => sPut (σ.set i (some v)) is vs
  | _, _ => σ
/-- the target stores what the pattern takes apart -/
def tG (K : PySem.W.Frag) (pt : Pt) : TG := fun v σ H Q => ∃ T A p l, Wd T A H ∧ Rep K T A H v p ∧ pt.flat p = some l ∧ ∀ vs, Reps K T A H vs l → Q (sPut σ pt.slots vs) H
def tGs (K : PySem.W.Frag) (ps : List Pt) : TGs := fun vs σ H Q => ∃ T A ds l, Wd T A H ∧ Reps K T A H vs ds ∧ Pt.flats ps ds = some l ∧ ∀ us, Reps K T A H us l → Q (sPut σ (Pt.slotss ps) us) H
abbrev VG (X : Cx) (tg : Expr) (pt : Pt) : Prop := PG X tg (tG X.K pt)
abbrev VGs (X : Cx) (tgs : List Expr) (ps : List Pt) : Prop := PGs X tgs (tGs X.K ps)
theorem imG {t t' : TG} (h : PG X e t) (i : ∀ v σ H Q, t' v σ H Q → t v σ H Q) : PG X e t' := ⟨fun pins s σ H v u Q I r q => h.run pins s σ H v u Q I r (i v σ H Q q)⟩
theorem imGs {t t' : TGs} (h : PGs X es t) (i : ∀ v σ H Q, t' v σ H Q → t v σ H Q) : PGs X es t' := ⟨fun pins s σ H v u Q I r q => h.run pins s σ H v u Q I r (i v σ H Q q)⟩
theorem VG.name (i : Nat) {x : Str} (hN : X.N.Nodup) (hi : X.N[i]? = some x := by rfl) (hx : Loc X.env.scope x := by first | exact Or.inl rfl | exact Or.inr rfl) (hf : X.fn x = true ∨ X.env.scope.names.lookup x = some .local := by first | exact .inl rfl | exact .inr rfl) : VG X (.Name x pos) (.n i) :=
  imG (pg_name hN hi hx hf) fun v σ H Q ⟨T, A, p, l, w, r, e, q⟩ => by
    cases e
    exact q [v] (.cons r .nil)
theorem VGs.nil : VGs X [] [] := imGs pgs_nil fun v σ H Q ⟨T, A, ds, l, w, r, e, q⟩ => by
  cases r with
  | nil => cases e; exact ⟨rfl, q [] .nil⟩
  | cons _ _ => cases e
theorem sPut_app : ∀ (is js : List Nat) (vs us : List V) (σ : L2.St), vs.length = is.length → sPut σ (is ++ js) (vs ++ us) = sPut (sPut σ is vs) js us
  | [], js, [], us, σ, _ => rfl
  | i :: is, js, v :: vs, us, σ, h => sPut_app is js vs us _ (by simpa using h)
  | [], _, _ :: _, _, _, h => by simp at h
  | _ :: _, _, [], _, _, h => by simp at h
mutual
theorem flat_len : ∀ (pt : Pt) (p : D) (l : List D), pt.flat p = some l → l.length = pt.slots.length
  | .n i, p, l, h => by simp only [Pt.flat, Option.some.injEq] at h; subst h; rfl
  | .t ps, .tuple xs, l, h => flats_len ps xs l h
  | .t ps, .none, l, h => by cases h
  | .t ps, .bool _, l, h => by cases h
  | .t ps, .int _, l, h => by cases h
  | .t ps, .str _, l, h => by cases h
  | .t ps, .list xs, l, h => flats_len ps xs l h
  | .t ps, .dict _, l, h => by cases h
theorem flats_len : ∀ (ps : List Pt) (xs : List D) (l : List D), Pt.flats ps xs = some l → l.length = (Pt.slotss ps).length
  | [], [], l, h => by simp only [Pt.flats, Option.some.injEq] at h; subst h; rfl
  | [], _ :: _, l, h => by cases h
  | _ :: _, [], l, h => by cases h
  | p :: ps, x :: xs, l, h => by
    rw [Pt.flats] at h
    cases e1 : p.flat x with
    | none => rw [e1] at h; cases h
    | some a =>
      rw [e1, Option.bind_some] at h
      cases e2 : Pt.flats ps xs with
      | none => rw [e2] at h; cases h
      | some b =>
        rw [e2] at h
        cases h
        rw [Pt.slotss, List.length_append, List.length_append, flat_len p x a e1, flats_len ps xs b e2]
end
theorem VGs.cons {pt : Pt} {ps : List Pt} (h1 : VG X e pt) (h2 : VGs X es ps) (hs : (assignEach (e :: es) X.env).map (·.2) = assign e X.env :: (assignEach es X.env).map (·.2) := by rfl) : VGs X (e :: es) (pt :: ps) :=
  imGs (pgs_cons h1 h2 hs) fun vs σ H Q ⟨T, A, ds, l, w, r, e, q⟩ => by
    cases r with
    | nil => cases e
    | @cons v vs d ds r1 r2 =>
      rw [Pt.flats] at e
      cases e1 : pt.flat d with
      | none => rw [e1] at e; cases e
      | some a =>
        rw [e1, Option.bind_some] at e
        cases e2 : Pt.flats ps ds with
        | none => rw [e2] at e; cases e
        | some b =>
          rw [e2] at e
          cases e
          refine ⟨v, vs, rfl, T, A, d, a, w, r1, e1, fun us ru => ⟨T, A, ds, b, w, r2, e2, fun ws rw' => ?_⟩⟩
          have := q (us ++ ws) (ru.append rw')
          rw [Pt.slotss, sPut_app _ _ _ _ _ (by rw [ru.length, flat_len _ _ _ e1])] at this
          exact this
theorem pg_or {tg : Expr} {t1 t2 : TG} (h1 : PG X tg t1) (h2 : PG X tg t2) : PG X tg (fun v σ H Q => t1 v σ H Q ∨ t2 v σ H Q) := ⟨fun pins s σ H v u Q I r h => h.elim (h1.run pins s σ H v u Q I r) (h2.run pins s σ H v u Q I r)⟩
theorem VG.tup {k n : Nat} {ps : List Pt} (h : VGs X es ps) (hc : X.calm = true := by rfl) (hn : (assignEach es X.env).length = n := by rfl) (hst : (assignEach es X.env).findIdx? (·.1) = none := by rfl) (hl : ps.length = n := by rfl) : VG X (.Tuple es k pos) (.t ps) :=
  imG (pg_or (pg_tup hc h hn hst) (pg_unl hc h hn hst)) fun v σ H Q ⟨T, A, p, l, w, r, e, q⟩ => by
    have len : ∀ (ps : List Pt) (xs l : List D), Pt.flats ps xs = some l → xs.length = ps.length := by
      intro ps
      induction ps with
      | nil => intro xs l h; cases xs with | nil => rfl | cons _ _ => cases h
      | cons p ps ih =>
        intro xs l h
        cases xs with
        | nil => cases h
        | cons x xs =>
          rw [Pt.flats] at h
          cases e1 : p.flat x with
          | none => rw [e1] at h; cases h
          | some a =>
            rw [e1, Option.bind_some] at h
            cases e2 : Pt.flats ps xs with
            | none => rw [e2] at h; cases h
            | some b => rw [List.length_cons, List.length_cons, ih xs b e2]
    cases r with
    | @tup a us ds hs hr =>
      refine .inl ⟨a, us, rfl, hs, ?_, T, A, ds, l, w, hr, e, q⟩
      rw [hr.length, len ps ds l e, hl]
    | @lst a us ds hn0 hs hr =>
      refine .inr ⟨a, us, rfl, SqL.of hs, ?_, T, A, ds, l, w, hr, e, q⟩
      rw [hr.length, len ps ds l e, hl]
    | _ => cases e
end
end Qv

namespace Qv
open PySem PySem.Spec PyProof.Rows L2
/-! ## comprehensions -/
section
variable {K : PySem.W.Frag} {T : Tk} {A : Addr → Prop}
theorem wipe_at {σ : L2.St} {j : Nat} {vs : List Nat} (hj : j ∈ vs) (hl : j < σ.length) : (wipe σ vs)[j]? = some none := by
  have hl' : j < (wipe σ vs).length := by rw [wipe_length]; exact hl
  rw [List.getElem?_eq_getElem hl']
  cases e : (wipe σ vs)[j] with
  | none => rfl
  | some x =>
    have := wipe_some (σ := σ) (i := j) (x := x) (vs := vs) (by rw [List.getElem?_eq_getElem hl', e])
    exact absurd hj this.2
theorem wipe_eq {σ τ : L2.St} {vs : List Nat} (hl : σ.length = τ.length) (h : ∀ j, j ∉ vs → σ[j]? = τ[j]?) : wipe σ vs = wipe τ vs := by
  refine List.ext_getElem? fun j => ?_
  by_cases hj : j ∈ vs
  · by_cases hb : j < σ.length
    · rw [wipe_at hj hb, wipe_at hj (hl ▸ hb)]
    · rw [List.getElem?_eq_none (by rw [wipe_length]; omega), List.getElem?_eq_none (by rw [wipe_length]; omega)]
  · rw [wipe_out hj, wipe_out hj, h j hj]
theorem wipe_wipe (σ : L2.St) (vs : List Nat) : wipe (wipe σ vs) vs = wipe σ vs := wipe_eq (wipe_length _ _) fun _ hj => wipe_out hj
theorem sPut_wipe : ∀ (is : List Nat) (us : List V) (σ : L2.St) (vs : List Nat), (∀ i ∈ is, i ∈ vs) → wipe (sPut σ is us) vs = wipe σ vs
  | [], us, σ, vs, _ => by cases us <;> rfl
  | i :: is, [], σ, vs, _ => rfl
  | i :: is, u :: us, σ, vs, h => by
    show wipe (sPut (σ.set i (some u)) is us) vs = _
    rw [sPut_wipe is us _ vs fun j hj => h j (List.mem_cons_of_mem _ hj)]
    have hi := h i List.mem_cons_self
    exact wipe_eq (List.length_set) fun j hj => List.getElem?_set_ne fun e => hj (by rw [← e]; exact hi)
theorem Ev.puts : ∀ {is : List Nat} {us : List V} {ds : List D} {ρ : Rh} {σ : L2.St} {H : Hp}, Ev K T A ρ σ H → Reps K T A H us ds → Ev K T A (rPuts ρ is ds) (sPut σ is us) H
  | [], _, _, _, _, _, e, .nil => e
  | [], _, _, _, _, _, e, .cons _ _ => e
  | _ :: _, _, _, _, _, _, e, .nil => e
  | i :: is, _, _, ρ, σ, H, e, .cons r rs => Ev.puts (is := is) (e.put r) rs
end
/-! ### new lists -/
theorem step_none {T : Tk} {H H2 : Hp} {p : Addr} (s2 : Step T H H2) (o2 : T.ok H2) (np : H2 p = none) : H p = none := by
  cases c : H p with
  | none => rfl
  | some o =>
    by_cases z : T.S p
    · have mm := T.mu o2 z
      rw [np] at mm
      exact mm.elim
    · rw [s2 p o c z] at np; cases np
/-- what an owner holds: a list, a dict -/
inductive Own (K : PySem.W.Frag) (T : Tk) (B : Addr → Prop) (H : Hp) (a : Addr) : D → Prop
  | lst {us : List V} {ds : List D} : H a = some (.lst us) → Reps K T B H us ds → Own K T B H a (.list ds)
  | dct {xs : List En} {o : Obj} {ds : List (D × D)} : H a = some (DN a xs o) → RepD K T B H xs ds → Own K T B H a (.dict ds)
  | dck {xs : List (Key × V)} {ds : List (D × D)} : ds ≠ [] → H a = some (.dK xs) → RepK K T B H xs ds → Own K T B H a (.dict ds)
theorem Own.mu {K : PySem.W.Frag} {T : Tk} {B : Addr → Prop} {H : Hp} {a : Addr} {p : D} (o : Own K T B H a p) : Mut (H a) := by
  cases o with
  | lst e _ => rw [e]; trivial
  | dct e _ => rw [e]; trivial
  | dck _ e _ => rw [e]; trivial
theorem Own.rep {K : PySem.W.Frag} {T : Tk} {A B : Addr → Prop} {H : Hp} {a : Addr} {p : D} (o : Own K T B H a p) (n : ¬ A a) (h : ∀ b, A b → B b) : Rep K T A H (.ref a) p := by
  cases o with
  | lst e r => exact .lst n e (r.weak h)
  | dct e r => exact .dic n e (r.weak h)
  | dck c e r => exact .dck c n e (r.weak h)
theorem Own.stA {K : PySem.W.Frag} {T : Tk} {B : Addr → Prop} {H H' : Hp} {a : Addr} {p : D} (o : Own K T B H a p) (w : MuN B H) (s : StA B H H') (e : H' a = H a) : Own K T B H' a p := by
  cases o with
  | lst q r => exact .lst (e.trans q) (r.stA w s)
  | dct q r => exact .dct (e.trans q) (r.stA w s)
  | dck c q r => exact .dck c (e.trans q) (r.stA w s)
theorem Own.weak {K : PySem.W.Frag} {T : Tk} {A B : Addr → Prop} {H : Hp} {a : Addr} {p : D} (o : Own K T B H a p) (h : ∀ b, A b → B b) : Own K T A H a p := by
  cases o with
  | lst e r => exact .lst e (r.weak h)
  | dct e r => exact .dct e (r.weak h)
  | dck c e r => exact .dck c e (r.weak h)
theorem Own.ext {K : PySem.W.Frag} {T : Tk} {A B : Addr → Prop} {H : Hp} {a : Addr} {p : D} (o : Own K T A H a p) (h : ∀ b, B b → A b ∨ H b = none) : Own K T B H a p := by
  cases o with
  | lst e r => exact .lst e (r.ext h)
  | dct e r => exact .dct e (r.ext h)
  | dck c e r => exact .dck c e (r.ext h)
/-- a new list comes to an owner -/
structure PostN (K : PySem.W.Frag) (T : Tk) (A : Addr → Prop) (H H' : Hp) (p : D) (a : Addr) : Prop where
  st : Step T H H'
  ok : T.ok H'
  nw : H a = none
  ow : Own K T (fun b => A b ∨ b = a) H' a p
theorem PostN.post {K : PySem.W.Frag} {T : Tk} {A : Addr → Prop} {H H' : Hp} {p : D} {a : Addr} (q : PostN K T A H H' p a) (w : Wd T A H) : Post K T A H H' p (.ref a) := by
  exact ⟨q.st, q.ok, q.ow.rep (w.new q.nw) fun _ => .inl⟩
theorem PostN.after {K : PySem.W.Frag} {T : Tk} {A : Addr → Prop} {H H' H2 : Hp} {p : D} {a : Addr} (q : PostN K T A H' H2 p a) (s : Step T H H') (n : H a = none) : PostN K T A H H2 p a := ⟨s.trans q.st, q.ok, n, q.ow⟩
section
variable {m : Type → Type} [PM m] {X : Cx} {ρ : Rh} {a b c e tg : Expr} {es : List Expr} {pos : Pos}
def tN (K : PySem.W.Frag) (ρ : Rh) (x : m D) : TE := fun σ H Q => ∃ T A, Wd T A H ∧ Ev K T A ρ σ H ∧ PM.run x fun p => ∀ a H', PostN K T A H H' p a → Q (.ref a) H'
abbrev VN (X : Cx) (ρ : Rh) (e : Expr) (x : m D) : Prop := PE X e (tN X.K ρ x)
theorem VN.ve {x : m D} (h : VN X ρ e x) : VE X ρ e x := imE h fun σ H Q ⟨T, A, w, ev, q⟩ => ⟨T, A, w, ev, PM.mono (fun p k a H' o => k _ _ (o.post w)) q⟩
/-- what is made at D so far -/
structure Mk1 (K : PySem.W.Frag) (T : Tk) (A : Addr → Prop) (H1 : Hp) (L : Addr) (n : Nat) (Q : VK) (rest : Nat → m (List D)) (i k : Nat) (H : Hp) : Prop where
  hk : k = n - i
  hi : i ≤ n
  wd : Wd T (fun a => A a ∨ a = L) H
  st : Step T H1 H
  dn : ∃ acc ds, H L = some (.lst acc) ∧ acc.length ≤ i ∧ Reps K T (fun a => A a ∨ a = L) H acc ds ∧ PM.run (rest i) fun ys => ∀ v H', PostN K T A H1 H' (.list (ds ++ ys)) v → Q (.ref v) H'
theorem mk1_end {K : PySem.W.Frag} {T : Tk} {A : Addr → Prop} {H1 H : Hp} {L : Addr} {n : Nat} {Q : VK} {rest : Nat → m (List D)} {i k : Nat} (M : Mk1 (m := m) K T A H1 L n Q rest i k H) (w1 : Wd T A H1) (nL : H1 L = none) (he : rest i = pure []) : Q (.ref L) H := by
  obtain ⟨acc, ds, e, _, r, q⟩ := M.dn
  rw [he, PM.run_pure] at q
  exact q _ _ ⟨M.st, M.wd.ok, nL, by rw [List.append_nil]; exact .lst e r⟩
theorem mk1_stA {K : PySem.W.Frag} {T : Tk} {A : Addr → Prop} {H1 H : Hp} {L : Addr} {n : Nat} {Q : VK} {rest : Nat → m (List D)} {i k : Nat} (M : Mk1 (m := m) K T A H1 L n Q rest i k H) (w1 : Wd T A H1) : StA (fun a => A a ∨ a = L) H1 H := (M.st.stA w1.sub).weak fun _ => .inl
/-- a new item -/
theorem mk1_add {K : PySem.W.Frag} {T : Tk} {A : Addr → Prop} {H1 H4 : Hp} {L : Addr} {n : Nat} {Q : VK} {rest : Nat → m (List D)} {i : Nat} {y : V} {d : D} {acc : List V} {ds : List D} (w1 : Wd T A H1) (nL : H1 L = none) (hi : i < n)
    (w4 : Wd T (fun a => A a ∨ a = L) H4) (s4 : Step T H1 H4) (e4 : H4 L = some (.lst acc)) (hl : acc.length ≤ i) (r4 : Reps K T (fun a => A a ∨ a = L) H4 acc ds) (ry : Rep K T (fun a => A a ∨ a = L) H4 y d)
    (q : PM.run (rest (i + 1)) fun ys => ∀ v H', PostN K T A H1 H' (.list (ds ++ d :: ys)) v → Q (.ref v) H') : Mk1 (m := m) K T A H1 L n Q rest (i + 1) (n - (i + 1)) (upd H4 L (.lst (acc ++ [y]))) := by
  have nS : ¬ T.S L := fun z => w1.new nL (w1.sub _ z)
  have keep : ∀ a, T.S a → upd H4 L (.lst (acc ++ [y])) a = H4 a := fun a z => upd_ne fun e => nS (e ▸ z)
  have ok : T.ok (upd H4 L (.lst (acc ++ [y]))) := T.keep w4.ok keep
  have st : StA (fun a => A a ∨ a = L) H4 (upd H4 L (.lst (acc ++ [y]))) := fun a o e z => by
    rw [upd_ne fun q => z (.inr q)]; exact e
  refine ⟨rfl, hi, ⟨ok, fun a z => .inl (w1.sub a z), fun a z => ?_⟩, fun a o e z => ?_, acc ++ [y], ds ++ [d], upd_same, by simp; omega, (r4.stA w4.mun st).append (.cons (ry.stA w4.mun st) .nil), ?_⟩
  · by_cases h : a = L
    · subst h; rw [upd_same]; trivial
    · rw [upd_ne h]; exact w4.mu a z
  · rw [upd_ne (ne_of_none e nL)]; exact s4 a o e z
  · simpa using q
/-- the block's contexts -/
abbrev Bk (X : Cx) (scope : Scope) (s : Shared) (H : Hp) (C : Addr) (cl : List (Str × Addr)) (fp : List Addr) : Cx := X.blk s H scope (compEnvC scope cl C X.env) fp
/-- tests of a clause -/
abbrev VT_ (X : Cx) (ρ : Rh) (ifs : List Expr) (x : m Bool) : Prop := PTs X ifs (tP X.K ρ x)
theorem imTs {es : List Expr} {t t' : TT} (h : PTs X es t) (i : ∀ σ H Q, t' σ H Q → t σ H Q) : PTs X es t' := ⟨fun pins s σ H Q I q => h.run pins s σ H Q I (i σ H Q q)⟩
theorem VT_.nil : VT_ (m := m) X ρ [] (pure true) := imTs pts_nil fun σ H Q ⟨T, A, w, ev, h⟩ => by
  rw [PM.run_pure] at h
  exact h H .refl w.ok
theorem VT_.one {x : m Bool} (h : VP X ρ e x) : VT_ X ρ [e] x := pts_one h
/-- readings for each leaf list -/
def tE' (K : PySem.W.Frag) (n : Nat) (ρ : List D → Rh) (x : List D → m D) : TE := fun σ H Q => ∃ l, l.length = n ∧ tE K (ρ l) (x l) σ H Q
def tP' (K : PySem.W.Frag) (n : Nat) (ρ : List D → Rh) (x : List D → m Bool) : TT := fun σ H Q => ∃ l, l.length = n ∧ tP K (ρ l) (x l) σ H Q
theorem pe_ex {n : Nat} {r : List D → Rh} {x : List D → m D} (h : ∀ l, l.length = n → VE X (r l) e (x l)) : PE X e (tE' X.K n r x) := ⟨fun pins s σ H Q I ⟨l, hl, q⟩ => (h l hl).run pins s σ H Q I q⟩
theorem pts_ex {n : Nat} {r : List D → Rh} {x : List D → m Bool} (h : ∀ l, l.length = n → VT_ X (r l) es (x l)) : PTs X es (tP' X.K n r x) := ⟨fun pins s σ H Q I ⟨l, hl, q⟩ => (h l hl).run pins s σ H Q I q⟩
/-- one turn of a comprehension -/
def turnM (pt : Pt) (c : List D → m Bool) (x : List D → m D) (p : D) : m (Option D) := PM.lift (pt.flat p) >>= fun l => c l >>= fun b => if b = true then x l >>= fun y => pure (some y) else pure none
theorem run_turn {pt : Pt} {c : List D → m Bool} {x : List D → m D} {p : D} {K : Option D → Prop} (h : PM.run (turnM pt c x p) K) : ∃ l, pt.flat p = some l ∧ PM.run (c l) fun b => PM.run (if b = true then x l >>= fun y => pure (some y) else pure none) K := by
  unfold turnM at h
  rw [PM.run_bind, PM.run_lift] at h
  obtain ⟨l, e, h⟩ := h
  rw [PM.run_bind] at h
  exact ⟨l, e, h⟩
theorem drop_get {l : List D} {i : Nat} (h : i < l.length) : ∃ p, l[i]? = some p ∧ l.drop i = p :: l.drop (i + 1) := ⟨l[i], List.getElem?_eq_getElem h, List.drop_eq_getElem_cons h⟩
theorem tLc_read {K : PySem.W.Frag} {own : List (Str × Nat)} {pt : Pt} {it : m (List D)} {c : List D → m Bool} {x : List D → m D} {σ : L2.St} {H : Hp} {Q : VK} (hsub : ∀ i ∈ pt.slots, i ∈ own.map (·.2))
    (h : tN K ρ (it >>= fun ps => PM.lift (sizeL ps) >>= fun ps => cmpD (turnM pt c x) ps >>= fun ys => pure (.list ys)) σ H Q) :
    tLc (tI K ρ it) (tG K pt) (tP' K pt.slots.length (fun l => rPuts (rCut ρ (own.map (·.2))) pt.slots l) c) (tE' K pt.slots.length (fun l => rPuts (rCut ρ (own.map (·.2))) pt.slots l) x) (own.map (·.2)) σ H Q := by
  obtain ⟨T, A, w, ev, h⟩ := h
  rw [PM.run_bind] at h
  refine ⟨T, A, w, ev, PM.mono (fun ps h J H1 s1 o1 hJ L nL => ?_) h⟩
  rw [PM.run_bind, PM.run_lift] at h
  obtain ⟨ps', e, h⟩ := h
  obtain ⟨hz, e⟩ := ifs e
  subst e
  rw [PM.run_bind] at h
  have w1 := w.step s1 o1
  have ev1 := ev.step w s1
  have hB : ∀ a, A a ∨ a = L → A a ∨ H1 a = none := fun a q => q.elim .inl fun e => .inr (e ▸ nL)
  have evB := ev1.ext hB
  refine ⟨Mk1 (m := m) K T A H1 L ps.length Q (fun i => cmpD (turnM pt c x) (ps.drop i)), ⟨ps.length, ?_⟩, ?_⟩
  · refine ⟨by simp, Nat.zero_le _, ⟨(w1.laid nL).ok, fun a z => .inl (w1.sub a z), fun a z => ?_⟩, step_new nL, [], [], upd_same, Nat.le_refl _, .nil, ?_⟩
    · by_cases hq : a = L
      · subst hq; rw [upd_same]; trivial
      · rw [upd_ne hq]; exact w1.mu a (z.resolve_right hq)
    · rw [List.drop_zero]
      refine PM.mono (fun ys q v H' o => ?_) h
      rw [PM.run_pure] at q
      exact q v H' (o.after s1 (step_none s1 o1 o.nw))
  · intro i k H2 M
    have hI := hJ _ hB i H2 M.wd (mk1_stA M w1)
    by_cases hlt : i < ps.length
    · obtain ⟨p, ep, ed⟩ := drop_get hlt
      obtain ⟨hgo, hy⟩ := hI.1 p ep
      refine .inr ⟨hgo, fun H' => Mk1 (m := m) K T A H1 L ps.length Q (fun i => cmpD (turnM pt c x) (ps.drop i)) (i + 1) (ps.length - (i + 1)) H', fun H' M' => ⟨_, by have := M.hk; omega, M'⟩, fun xv H3 yv => ?_⟩
      obtain ⟨keep3, ok3, rp3⟩ := hy xv H3 yv
      obtain ⟨acc, ds, eL, hl, hr, q⟩ := M.dn
      have s23 : Step T H2 H3 := fun a o e _ => keep3 a o e
      have w3 := M.wd.step s23 ok3
      have st13 : Step T H1 H3 := M.st.trans s23
      have ev3 : Ev K T (fun a => A a ∨ a = L) ρ σ H3 := evB.stA (munB w1 hB) (st13.stA (fun a z => .inl (w1.sub a z)))
      rw [ed] at q
      rw [show cmpD (turnM pt c x) (p :: ps.drop (i + 1)) = turnM pt c x p >>= fun o => cmpD (turnM pt c x) (ps.drop (i + 1)) >>= fun ys => pure (match o with | some y => y :: ys | none => ys) from rfl, PM.run_bind] at q
      obtain ⟨l, el, q⟩ := run_turn q
      refine ⟨T, _, p, l, w3, rp3, el, fun us hus => ⟨(sPut_wipe _ _ _ _ hsub).trans (wipe_wipe σ _), ?_⟩⟩
      have ev4 := (ev3.cut (own.map (·.2))).puts (is := pt.slots) hus
      refine ⟨l, flat_len _ _ _ el, T, _, w3, ev4, PM.mono (fun bb q H4 s4 o4 => ?_) q⟩
      have w4 := w3.step s4 o4
      cases bb with
      | true =>
        rw [if_pos rfl] at q
        rw [PM.run_bind] at q
        dsimp only
        rw [if_pos rfl]
        refine ⟨l, flat_len _ _ _ el, T, _, w4, ev4.step w3 s4, PM.mono (fun d q yv2 H5 o5 => ?_) q⟩
        rw [PM.run_pure, PM.run_bind] at q
        have nS : ¬ T.S L := fun z => w1.new nL (w1.sub _ z)
        refine ⟨acc, o5.st _ _ (s4 _ _ (s23 _ _ eL nS) nS) nS, by
          have : ps.length ≤ sizeLine := hz
          omega, ?_⟩
        refine mk1_add w1 nL hlt (o5.wd w4) (st13.trans (s4.trans o5.st)) (o5.st _ _ (s4 _ _ (s23 _ _ eL nS) nS) nS) hl (((hr.step M.wd s23).step w3 s4).step w4 o5.st) o5.rp (PM.mono (fun ys q v H' o => ?_) q)
        rw [PM.run_pure] at q
        exact q v H' o
      | false =>
        rw [if_neg Bool.false_ne_true] at q
        dsimp only
        rw [if_neg Bool.false_ne_true]
        rw [PM.run_pure, PM.run_bind] at q
        have nS : ¬ T.S L := fun z => w1.new nL (w1.sub _ z)
        refine ⟨rfl, hlt, w4, st13.trans s4, acc, ds, s4 _ _ (s23 _ _ eL nS) nS, by omega, (hr.step M.wd s23).step w3 s4, PM.mono (fun ys q v H' o => ?_) q⟩
        rw [PM.run_pure] at q
        exact q v H' o
    · have e0 : i = ps.length := Nat.le_antisymm M.hi (Nat.le_of_not_lt hlt)
      refine .inl ⟨hI.2 (Nat.le_of_not_lt hlt), mk1_end M w1 nL ?_⟩
      rw [e0, List.drop_length]
      rfl
/-- [e for t in it if ..] -/
theorem VN.comp {elt iter : Expr} {ifs : List Expr} {scope : Scope} {own : List (Str × Nat)} {pt : Pt} {it : m (List D)} {c : List D → m Bool} {x : List D → m D} (hN : X.N.Nodup) (hi : VI X ρ tg iter it) (ok : blkC X.N X.env.scope scope own = true)
    (hg : ∀ s H C cl fp, VG (Bk X scope s H C cl fp) tg pt) (ht : ∀ s H C cl fp l, l.length = pt.slots.length → VT_ (Bk X scope s H C cl fp) (rPuts (rCut ρ (own.map (·.2))) pt.slots l) ifs (c l))
    (he : ∀ s H C cl fp l, l.length = pt.slots.length → VE (Bk X scope s H C cl fp) (rPuts (rCut ρ (own.map (·.2))) pt.slots l) elt (x l)) (hsub : ∀ i ∈ pt.slots, i ∈ own.map (·.2) := by decide) (hc : X.calm = true := by rfl) (hs : ∀ x, foldedSetIterable iter X.env x = pure x := by intro _; rfl) :
    VN X ρ (.ListComp elt [⟨tg, iter, ifs, 0⟩] scope pos) (it >>= fun ps => PM.lift (sizeL ps) >>= fun ps => cmpD (turnM pt c x) ps >>= fun ys => pure (.list ys)) :=
  imE (pe_lc hc hN hi (blkOk_by ok) (fun s H C cl fp => hg s H C cl fp) (fun s H C cl fp => pts_ex (ht s H C cl fp)) (fun s H C cl fp => pe_ex (he s H C cl fp)) hs) fun σ H Q h => tLc_read hsub h
end
end Qv

namespace Qv
open PySem PySem.Spec PyProof.Rows L2
/-! ## names that own what they hold -/
inductive Kd where
  | sh | ow | fz
  deriving DecidableEq
def kAt : List Kd → Nat → Kd
  | [], _ => .sh
  | k :: _, 0 => k
  | _ :: ks, n + 1 => kAt ks n
def hide : List Kd → Rh → Rh
  | [], ρ => ρ
  | _ :: _, [] => []
  | .ow :: Γ, _ :: ρ => none :: hide Γ ρ
  | _ :: Γ, x :: ρ => x :: hide Γ ρ
theorem hide_len : ∀ (Γ : List Kd) (ρ : Rh), (hide Γ ρ).length = ρ.length
  | [], _ => rfl
  | _ :: _, [] => rfl
  | .ow :: Γ, _ :: ρ => by simp [hide, hide_len Γ ρ]
  | .sh :: Γ, _ :: ρ => by simp [hide, hide_len Γ ρ]
  | .fz :: Γ, _ :: ρ => by simp [hide, hide_len Γ ρ]
theorem hide_at : ∀ (Γ : List Kd) (ρ : Rh) (i : Nat) (p : D), rAt (hide Γ ρ) i = some p → rAt ρ i = some p ∧ kAt Γ i ≠ .ow
  | [], ρ, i, p, h => ⟨h, by simp [kAt]⟩
  | _ :: _, [], i, p, h => by simp [hide, rAt] at h
  | .ow :: Γ, x :: ρ, 0, p, h => by simp [hide, rAt] at h
  | .sh :: Γ, x :: ρ, 0, p, h => ⟨h, by simp [kAt]⟩
  | .fz :: Γ, x :: ρ, 0, p, h => ⟨h, by simp [kAt]⟩
  | .ow :: Γ, x :: ρ, i + 1, p, h => hide_at Γ ρ i p h
  | .sh :: Γ, x :: ρ, i + 1, p, h => hide_at Γ ρ i p h
  | .fz :: Γ, x :: ρ, i + 1, p, h => hide_at Γ ρ i p h
def AT (A : Addr → Prop) (O : Nat → Option Addr) : Addr → Prop := fun a => A a ∨ ∃ i, O i = some a
structure Rl (K : PySem.W.Frag) (T : Tk) (A : Addr → Prop) (Γ : List Kd) (O : Nat → Option Addr) (ρ : Rh) (σ : L2.St) (H : Hp) : Prop where
  len : ρ.length = σ.length
  wd : Wd T (AT A O) H
  sub : ∀ a, T.S a → A a
  sh : ∀ i p, rAt ρ i = some p → kAt Γ i ≠ .ow → ∃ v, σ[i]? = some (some v) ∧ Rep K T (AT A O) H v p
  ow : ∀ i p, rAt ρ i = some p → kAt Γ i = .ow → ∃ a, σ[i]? = some (some (.ref a)) ∧ O i = some a ∧ Own K T (AT A O) H a p
  inj : ∀ i j a, O i = some a → O j = some a → i = j
  dis : ∀ i a, O i = some a → ¬ A a
structure Fr (T : Tk) (Γ : List Kd) (O O' : Nat → Option Addr) (σ σ' : L2.St) (H H' : Hp) : Prop where
  st : ∀ a o, H a = some o → ¬ T.S a → (∀ i, O i ≠ some a) → H' a = some o
  ne : ∀ i a, O' i = some a → (∃ j, O j = some a) ∨ H a = none
  mu : ∀ i a, O i = some a → Mut (H' a)
  fz : ∀ i, kAt Γ i = .fz → σ'[i]? = σ[i]?
section
variable {K : PySem.W.Frag} {T : Tk} {A : Addr → Prop} {Γ : List Kd} {O O' O2 : Nat → Option Addr} {ρ : Rh} {σ σ' σ2 : L2.St} {H H' H2 : Hp}
theorem Rl.wdA (r : Rl K T A Γ O ρ σ H) : Wd T A H := ⟨r.wd.ok, r.sub, fun a h => r.wd.mu a (.inl h)⟩
theorem Rl.hid (r : Rl K T A Γ O ρ σ H) : Ev K T (AT A O) (hide Γ ρ) σ H := ⟨by rw [hide_len, r.len], fun i p h => r.sh i p (hide_at Γ ρ i p h).1 (hide_at Γ ρ i p h).2⟩
theorem Rl.all (r : Rl K T A Γ O ρ σ H) : Ev K T A ρ σ H := ⟨r.len, fun i p h => by
  by_cases k : kAt Γ i = .ow
  · obtain ⟨a, h1, h2, h3⟩ := r.ow i p h k
    exact ⟨_, h1, h3.rep (r.dis i a h2) fun b => .inl⟩
  · obtain ⟨v, h1, h2⟩ := r.sh i p h k
    exact ⟨v, h1, h2.weak fun b => .inl⟩⟩
/-- new things alone, and the draws' own -/
theorem Rl.step (r : Rl K T A Γ O ρ σ H) (s : Step T H H') (ok : T.ok H') : Rl K T A Γ O ρ σ H' := by
  have ss : StA (AT A O) H H' := s.stA r.wd.sub
  refine ⟨r.len, r.wd.step s ok, r.sub, fun i p h k => ?_, fun i p h k => ?_, r.inj, r.dis⟩
  · obtain ⟨v, h1, h2⟩ := r.sh i p h k
    exact ⟨v, h1, h2.stA r.wd.mun ss⟩
  · obtain ⟨a, h1, h2, h3⟩ := r.ow i p h k
    refine ⟨a, h1, h2, h3.stA r.wd.mun ss ?_⟩
    have m := r.wd.mu a (.inr ⟨i, h2⟩)
    cases e : H a with
    | none => rw [e] at m; exact m.elim
    | some o => exact s a o e fun q => r.dis i a h2 (r.sub a q)
theorem Fr.step (r : Rl K T A Γ O ρ σ H) (s : Step T H H') (ok : T.ok H') : Fr T Γ O O σ σ H H' := ⟨fun a o e n _ => s a o e n, fun i a e => .inl ⟨i, e⟩, fun i a e => (r.step s ok).wd.mu a (.inr ⟨i, e⟩), fun _ _ => rfl⟩
theorem Fr.refl (r : Rl K T A Γ O ρ σ H) : Fr T Γ O O σ σ H H := Fr.step r .refl r.wd.ok
theorem Fr.trans (f : Fr T Γ O O' σ σ' H H') (g : Fr T Γ O' O2 σ' σ2 H' H2) (okm : T.ok H') (ok : T.ok H2) : Fr T Γ O O2 σ σ2 H H2 where
  st := fun a o e n h => g.st a o (f.st a o e n h) n fun i q => (f.ne i a q).elim (fun ⟨j, z⟩ => h j z) fun z => by rw [e] at z; cases z
  ne := fun i a e => (g.ne i a e).elim (fun ⟨j, z⟩ => f.ne j a z) fun z => by
    cases q : H a with
    | none => exact .inr rfl
    | some o =>
      by_cases h : ∃ j, O j = some a
      · exact .inl h
      · by_cases n : T.S a
        · have m := T.mu okm n
          rw [z] at m
          exact m.elim
        · rw [f.st a o q n fun j z => h ⟨j, z⟩] at z; cases z
  mu := fun i a e => by
    have m := f.mu i a e
    by_cases h : ∃ j, O' j = some a
    · obtain ⟨j, z⟩ := h
      exact g.mu j a z
    · by_cases n : T.S a
      · exact T.mu ok n
      · cases q : H' a with
        | none => rw [q] at m; exact m.elim
        | some o => rw [g.st a o q n fun j z => h ⟨j, z⟩]; rw [q] at m; exact m
  fz := fun i h => (g.fz i h).trans (f.fz i h)
/-- fewer names known -/
inductive Sub : Rh → Rh → Prop
  | nil : Sub [] []
  | cs {x : Option D} {a b : Rh} : Sub a b → Sub (x :: a) (x :: b)
  | cn {x : Option D} {a b : Rh} : Sub a b → Sub (none :: a) (x :: b)
theorem Sub.len {a b : Rh} (s : Sub a b) : a.length = b.length := by
  induction s with
  | nil => rfl
  | cs _ ih => simp [ih]
  | cn _ ih => simp [ih]
theorem Sub.at {a b : Rh} (s : Sub a b) : ∀ {i : Nat} {p : D}, rAt a i = some p → rAt b i = some p := by
  induction s with
  | nil => intro i p h; exact h
  | cs _ ih =>
    intro i p h
    cases i with
    | zero => exact h
    | succ i => exact ih h
  | cn _ ih =>
    intro i p h
    cases i with
    | zero => simp [rAt] at h
    | succ i => exact ih h
theorem Rl.less {ρ' : Rh} (r : Rl K T A Γ O ρ σ H) (s : Sub ρ' ρ) : Rl K T A Γ O ρ' σ H := ⟨by rw [s.len, r.len], r.wd, r.sub, fun i p h => r.sh i p (s.at h), fun i p h => r.ow i p (s.at h), r.inj, r.dis⟩
theorem Rl.put {i : Nat} {v : V} {d : D} (r : Rl K T A Γ O ρ σ H) (rv : Rep K T (AT A O) H v d) (hk : kAt Γ i = .sh) : Rl K T A Γ O (rPut ρ i d) (σ.set i (some v)) H := by
  refine ⟨by rw [rPut_len, List.length_set, r.len], r.wd, r.sub, fun j p h k => ?_, fun j p h k => ?_, r.inj, r.dis⟩
  · rw [rAt_put] at h
    by_cases hj : j = i
    · rw [if_pos hj] at h
      subst hj
      by_cases hl : j < ρ.length
      · rw [if_pos hl] at h
        cases h
        exact ⟨v, List.getElem?_set_self (by rw [← r.len]; exact hl), rv⟩
      · rw [if_neg hl] at h; cases h
    · rw [if_neg hj] at h
      obtain ⟨u, h1, h2⟩ := r.sh j p h k
      exact ⟨u, by rw [List.getElem?_set_ne (Ne.symm hj)]; exact h1, h2⟩
  · have hj : j ≠ i := fun e => by rw [e, hk] at k; cases k
    rw [rAt_put, if_neg hj] at h
    obtain ⟨a, h1, h2, h3⟩ := r.ow j p h k
    exact ⟨a, by rw [List.getElem?_set_ne (Ne.symm hj)]; exact h1, h2, h3⟩
theorem Fr.put {i : Nat} {v : Option V} (r : Rl K T A Γ O ρ σ H) (hk : kAt Γ i ≠ .fz) : Fr T Γ O O σ (σ.set i v) H H :=
  ⟨fun a o e _ _ => e, fun i a e => .inl ⟨i, e⟩, fun i a e => r.wd.mu a (.inr ⟨i, e⟩), fun j h => List.getElem?_set_ne fun e => hk (by rw [e]; exact h)⟩
theorem Rl.puts : ∀ {is : List Nat} {us : List V} {ds : List D} {ρ : Rh} {σ : L2.St}, Rl K T A Γ O ρ σ H → Reps K T (AT A O) H us ds → (∀ i ∈ is, kAt Γ i = .sh) → Rl K T A Γ O (rPuts ρ is ds) (sPut σ is us) H
  | [], _, _, _, _, r, .nil, _ => r
  | [], _, _, _, _, r, .cons _ _, _ => r
  | _ :: _, _, _, _, _, r, .nil, _ => r
  | i :: is, _, _, ρ, σ, r, .cons q qs, h => Rl.puts (is := is) (r.put q (h i List.mem_cons_self)) qs fun j hj => h j (List.mem_cons_of_mem _ hj)
theorem sPut_out : ∀ (is : List Nat) (us : List V) (σ : L2.St) (j : Nat), j ∉ is → (sPut σ is us)[j]? = σ[j]?
  | [], us, σ, j, _ => by cases us <;> rfl
  | i :: is, [], σ, j, _ => rfl
  | i :: is, u :: us, σ, j, h => by
    show (sPut (σ.set i (some u)) is us)[j]? = _
    rw [sPut_out is us _ j fun e => h (List.mem_cons_of_mem _ e)]
    exact List.getElem?_set_ne fun e => h (by rw [← e]; exact List.mem_cons_self)
theorem Fr.puts {is : List Nat} {us : List V} (r : Rl K T A Γ O ρ σ H) (h : ∀ i ∈ is, kAt Γ i = .sh) : Fr T Γ O O σ (sPut σ is us) H H :=
  ⟨fun a o e _ _ => e, fun i a e => .inl ⟨i, e⟩, fun i a e => r.wd.mu a (.inr ⟨i, e⟩), fun j hj => sPut_out is us σ j fun e => by rw [h j e] at hj; cases hj⟩
end
/-! ## what follows a block -/
structure Kn where
  nx : Rh → Prop
  rt : D → Prop
  bk : Rh → Prop
  ct : Rh → Prop
structure Kn.le (k k' : Kn) : Prop where
  nx : ∀ ρ, k.nx ρ → k'.nx ρ
  rt : ∀ p, k.rt p → k'.rt p
  bk : ∀ ρ, k.bk ρ → k'.bk ρ
  ct : ∀ ρ, k.ct ρ → k'.ct ρ
def StO (T : Tk) (O : Nat → Option Addr) (H H' : Hp) : Prop := ∀ a o, H a = some o → ¬ T.S a → (∀ i, O i ≠ some a) → H' a = some o
def kn (K : PySem.W.Frag) (T : Tk) (A : Addr → Prop) (Γ : List Kd) (O : Nat → Option Addr) (σ : L2.St) (H : Hp) (D : Ends) : Kn where
  nx := fun ρ' => ∀ σ' H' O', Rl K T A Γ O' ρ' σ' H' → Fr T Γ O O' σ σ' H H' → D.nx σ' H'
  rt := fun p => ∀ v H', StO T O H H' → T.ok H' → Rep K T A H' v p → D.rt v H'
  bk := fun ρ' => ∀ σ' H' O', Rl K T A Γ O' ρ' σ' H' → Fr T Γ O O' σ σ' H H' → D.bk σ' H'
  ct := fun ρ' => ∀ σ' H' O', Rl K T A Γ O' ρ' σ' H' → Fr T Γ O O' σ σ' H H' → D.ct σ' H'
section
variable {K : PySem.W.Frag} {T : Tk} {A : Addr → Prop} {Γ : List Kd} {O O' O2 : Nat → Option Addr} {ρ : Rh} {σ σ' σ2 : L2.St} {H H' H2 : Hp} {E : Ends}
theorem kn_le (f : Fr T Γ O O' σ σ' H H') (ok : T.ok H') : (kn K T A Γ O σ H E).le (kn K T A Γ O' σ' H' E) where
  nx := fun ρ h σ2 H2 O2 r g => h σ2 H2 O2 r (f.trans g ok r.wd.ok)
  rt := fun p h v H2 s o r => h v H2 (fun a ob e n q => s a ob (f.st a ob e n q) n fun i z => (f.ne i a z).elim (fun ⟨j, y⟩ => q j y) fun y => by rw [e] at y; cases y) o r
  bk := fun ρ h σ2 H2 O2 r g => h σ2 H2 O2 r (f.trans g ok r.wd.ok)
  ct := fun ρ h σ2 H2 O2 r g => h σ2 H2 O2 r (f.trans g ok r.wd.ok)
end
def tS (K : PySem.W.Frag) (Γ : List Kd) (ρ : Rh) (W : Kn → Prop) : TS := fun D σ H => ∃ T A O, Rl K T A Γ O ρ σ H ∧ W (kn K T A Γ O σ H D)
def Kn.out {α : Type} (k : Kn) (E : α → Rh) : Out α → Prop
  | .nx a => k.nx (E a)
  | .rt v => k.rt v
  | .bk a => k.bk (E a)
  | .ct a => k.ct (E a)
theorem Kn.le.out {α : Type} {k k' : Kn} (h : k.le k') {E : α → Rh} {o : Out α} (q : k.out E o) : k'.out E o := by
  cases o with
  | nx a => exact h.nx _ q
  | rt v => exact h.rt _ q
  | bk a => exact h.bk _ q
  | ct a => exact h.ct _ q
section
variable {m : Type → Type} [PM m] {α β : Type}
abbrev WB (E : α → Rh) (x : m α) : Kn → Prop := fun k => PM.run x fun a => k.nx (E a)
abbrev WT (x : m D) : Kn → Prop := fun k => PM.run x k.rt
abbrev WO (E : α → Rh) (x : m (Out α)) : Kn → Prop := fun k => PM.run x (k.out E)
/-- a block that falls through; that returns; any -/
abbrev VB (X : Cx) (Γ : List Kd) (ρ : Rh) (st : List Stmt) (E : α → Rh) (x : m α) : Prop := PSs X st (tS X.K Γ ρ (WB E x))
abbrev VT (X : Cx) (Γ : List Kd) (ρ : Rh) (st : List Stmt) (x : m D) : Prop := PSs X st (tS X.K Γ ρ (WT x))
abbrev VO (X : Cx) (Γ : List Kd) (ρ : Rh) (st : List Stmt) (E : α → Rh) (x : m (Out α)) : Prop := PSs X st (tS X.K Γ ρ (WO E x))
abbrev SB (X : Cx) (Γ : List Kd) (ρ : Rh) (st : Stmt) (E : α → Rh) (x : m α) : Prop := PS X st (tS X.K Γ ρ (WB E x))
abbrev SO (X : Cx) (Γ : List Kd) (ρ : Rh) (st : Stmt) (E : α → Rh) (x : m (Out α)) : Prop := PS X st (tS X.K Γ ρ (WO E x))
def Mon (W : Kn → Prop) : Prop := ∀ k k', Kn.le k k' → W k → W k'
theorem mon_B {E : α → Rh} {x : m α} : Mon (WB E x) := fun k k' h q => PM.mono (fun a => h.nx _) q
theorem mon_T {x : m D} : Mon (WT x) := fun k k' h q => PM.mono h.rt q
theorem mon_O {E : α → Rh} {x : m (Out α)} : Mon (WO E x) := fun k k' h q => PM.mono (fun a => h.out) q
variable {X : Cx} {Γ : List Kd} {ρ : Rh} {s : Stmt} {rest : List Stmt}
/-- one statement, then the rest for each way it may leave the names -/
theorem seqB {E : α → Rh} {x : m α} {W : α → Kn → Prop} {W' : Kn → Prop} (h1 : SB X Γ ρ s E x) (h2 : ∀ a, PSs X rest (tS X.K Γ (E a) (W a))) (mW : ∀ a, Mon (W a)) (q : ∀ k, W' k → PM.run x fun a => W a k) : PSs X (s :: rest) (tS X.K Γ ρ W') := by
  refine imSs (pss_cons h1 (u := fun D σ H => ∃ a, tS X.K Γ (E a) (W a) D σ H) ⟨fun pins s σ H D I ⟨a, h⟩ => (h2 a).run pins s σ H D I h⟩) fun D σ H ⟨T, A, O, r, w⟩ => ?_
  exact ⟨T, A, O, r, PM.mono (fun a h σ' H' O' r' f => ⟨a, T, A, O', r', mW a _ _ (kn_le f r'.wd.ok) h⟩) (q _ w)⟩
theorem seqO {E : α → Rh} {x : m (Out α)} {W : α → Kn → Prop} {W' : Kn → Prop} (h1 : SO X Γ ρ s E x) (h2 : ∀ a, PSs X rest (tS X.K Γ (E a) (W a))) (mW : ∀ a, Mon (W a)) (q : ∀ k, W' k → PM.run x fun o => match o with | .nx a => W a k | .rt v => k.rt v | .bk _ => False | .ct _ => False) : PSs X (s :: rest) (tS X.K Γ ρ W') := by
  refine imSs (pss_cons h1 (u := fun D σ H => ∃ a, tS X.K Γ (E a) (W a) D σ H) ⟨fun pins s σ H D I ⟨a, h⟩ => (h2 a).run pins s σ H D I h⟩) fun D σ H ⟨T, A, O, r, w⟩ => ?_
  refine ⟨T, A, O, r, PM.mono (fun o h => ?_) (q _ w)⟩
  cases o with
  | nx a => exact fun σ' H' O' r' f => ⟨a, T, A, O', r', mW a _ _ (kn_le f r'.wd.ok) h⟩
  | rt v => exact h
  | bk a => exact h.elim
  | ct a => exact h.elim
theorem VT.cons {E : α → Rh} {x : m α} {k : α → m D} (h1 : SB X Γ ρ s E x) (h2 : ∀ a, VT X Γ (E a) rest (k a)) : VT X Γ ρ (s :: rest) (x >>= k) := seqB h1 h2 (fun _ => mon_T) fun kk w => (PM.run_bind _ _ _).mp w
theorem VB.cons {E : α → Rh} {E2 : β → Rh} {x : m α} {k : α → m β} (h1 : SB X Γ ρ s E x) (h2 : ∀ a, VB X Γ (E a) rest E2 (k a)) : VB X Γ ρ (s :: rest) E2 (x >>= k) := seqB h1 h2 (fun _ => mon_B) fun kk w => (PM.run_bind _ _ _).mp w
theorem VO.cons {E : α → Rh} {E2 : β → Rh} {x : m α} {k : α → m (Out β)} (h1 : SB X Γ ρ s E x) (h2 : ∀ a, VO X Γ (E a) rest E2 (k a)) : VO X Γ ρ (s :: rest) E2 (x >>= k) := seqB h1 h2 (fun _ => mon_O) fun kk w => (PM.run_bind _ _ _).mp w
theorem VT.consO {E : α → Rh} {x : m (Out α)} {k : α → m D} (h1 : SO X Γ ρ s E x) (h2 : ∀ a, VT X Γ (E a) rest (k a)) : VT X Γ ρ (s :: rest) (x >>= thenT k) := seqO h1 h2 (fun _ => mon_T) fun kk w => PM.mono (fun o h => by
  cases o with
  | nx a => exact h
  | rt v => simp only [thenT, thenO] at h; rw [PM.run_pure] at h; exact h
  | bk a => obtain ⟨_, e, _⟩ := (PM.run_lift _ _).mp h; cases e
  | ct a => obtain ⟨_, e, _⟩ := (PM.run_lift _ _).mp h; cases e) ((PM.run_bind _ _ _).mp w)
theorem VO.consO {E : α → Rh} {E2 : β → Rh} {x : m (Out α)} {k : α → m (Out β)} (h1 : SO X Γ ρ s E x) (h2 : ∀ a, VO X Γ (E a) rest E2 (k a)) : VO X Γ ρ (s :: rest) E2 (x >>= thenO k) := seqO h1 h2 (fun _ => mon_O) fun kk w => PM.mono (fun o h => by
  cases o with
  | nx a => exact h
  | rt v => simp only [thenT, thenO] at h; rw [PM.run_pure] at h; exact h
  | bk a => obtain ⟨_, e, _⟩ := (PM.run_lift _ _).mp h; cases e
  | ct a => obtain ⟨_, e, _⟩ := (PM.run_lift _ _).mp h; cases e) ((PM.run_bind _ _ _).mp w)
/-! ### the ends of blocks -/
theorem VB.nil {E : α → Rh} {a : α} (h : Sub (E a) ρ) : VB (m := m) X Γ ρ [] E (pure a) := imSs pss_nil fun D σ H ⟨T, A, O, r, w⟩ => by
  unfold WB at w
  rw [PM.run_pure] at w
  exact w σ H O (r.less h) (.refl r)
theorem VO.nil {E : α → Rh} {a : α} (h : Sub (E a) ρ) : VO (m := m) X Γ ρ [] E (pure (.nx a)) := imSs pss_nil fun D σ H ⟨T, A, O, r, w⟩ => by
  unfold WO at w
  rw [PM.run_pure] at w
  exact w σ H O (r.less h) (.refl r)
theorem VO.cont {E : α → Rh} {a : α} {pos : Pos} {rest : List Stmt} (h : Sub (E a) ρ) : VO (m := m) X Γ ρ (.Continue pos :: rest) E (pure (.ct a)) := imSs (pss_cons ps_continue (u := tNever) pss_never) fun D σ H ⟨T, A, O, r, w⟩ => by
  unfold WO at w
  rw [PM.run_pure] at w
  exact w σ H O (r.less h) (.refl r)
theorem VO.brk {E : α → Rh} {a : α} {pos : Pos} {rest : List Stmt} (h : Sub (E a) ρ) : VO (m := m) X Γ ρ (.Break pos :: rest) E (pure (.bk a)) := imSs (pss_cons ps_break (u := tNever) pss_never) fun D σ H ⟨T, A, O, r, w⟩ => by
  unfold WO at w
  rw [PM.run_pure] at w
  exact w σ H O (r.less h) (.refl r)
theorem ret_read {K : PySem.W.Frag} {e : Expr} {x : m D} {D : Ends} {σ : L2.St} {H : Hp} {T : Tk} {A : Addr → Prop} {O : Nat → Option Addr} (r : Rl K T A Γ O ρ σ H) (w : PM.run x (kn K T A Γ O σ H D).rt) : tE K ρ x σ H D.rt :=
  ⟨T, A, r.wdA, r.all, PM.mono (fun p h v H' q => h v H' (fun a o e n _ => q.st a o e n) q.ok q.rp) w⟩
theorem VT.ret {e : Expr} {x : m D} {pos : Pos} {rest : List Stmt} (h : VE X ρ e x) : VT X Γ ρ (.Return (some e) pos :: rest) x := imSs (pss_cons (ps_ret h) (u := tNever) pss_never) fun D σ H ⟨T, A, O, r, w⟩ => ret_read (e := e) r w
theorem VO.ret {E : α → Rh} {e : Expr} {x : m D} {pos : Pos} {rest : List Stmt} (h : VE X ρ e x) : VO X Γ ρ (.Return (some e) pos :: rest) E (x >>= fun v => pure (.rt v)) := imSs (pss_cons (ps_ret h) (u := tNever) pss_never) fun D σ H ⟨T, A, O, r, w⟩ => by
  unfold WO at w
  rw [PM.run_bind] at w
  exact ret_read (e := e) r (PM.mono (fun v q => by rw [PM.run_pure] at q; exact q) w)
end
end Qv

namespace Qv
open PySem PySem.Spec PyProof.Rows L2
/-! ## what a statement stores -/
def dApp : D → D → Option D
  | .list ds, p => if ds.length < sizeLine then some (.list (ds ++ [p])) else none
  | _, _ => none
def dSet : D → D → D → Option D
  | .list ds, .int k, p => (ixN ds.length k).map fun j => .list (ds.set j p)
  | .dict ds, k, p => if kOk ds k && decide (ds.length < sizeLine) then some (.dict (dPutL ds k p)) else none
  | _, _, _ => none
/-- pop: the last one, and what is left -/
def dPop : D → Option (D × D)
  | .list ds => ds[ds.length - 1]?.map fun p => (p, .list ds.dropLast)
  | _ => none
section
variable {K : PySem.W.Frag} {T : Tk} {A : Addr → Prop} {Γ : List Kd} {O : Nat → Option Addr} {ρ : Rh} {σ : L2.St} {H H' : Hp} {a : Addr} {i : Nat} {p : D} {us us' : List V} {ds' : List D}
theorem Rl.wdU {o : HO} (r : Rl K T A Γ O ρ σ H) (hO : O i = some a) (hm : Mut (some o)) : Wd T (AT A O) (upd H a o) := by
  have nS : ¬ T.S a := fun q => r.dis i a hO (r.sub a q)
  refine ⟨T.keep r.wd.ok fun b q => upd_ne fun e => nS (e ▸ q), r.wd.sub, fun b q => ?_⟩
  by_cases h : b = a
  · subst h; rw [upd_same]; exact hm
  · rw [upd_ne h]; exact r.wd.mu b q
theorem stA_ownU {o : HO} (hO : O i = some a) : StA (AT A O) H (upd H a o) := fun b u e n => by
  rw [upd_ne fun h => n (by rw [h]; exact .inr ⟨i, hO⟩)]; exact e
/-- an owner's new content -/
theorem Rl.writeU {o : HO} {d : D} (r : Rl K T A Γ O ρ σ H) (hi : rAt ρ i = some p) (hk : kAt Γ i = .ow) (hO : O i = some a) (hm : Mut (some o)) (hr : Own K T (AT A O) (upd H a o) a d) : Rl K T A Γ O (rPut ρ i d) σ (upd H a o) := by
  have ss : StA (AT A O) H (upd H a o) := stA_ownU hO
  refine ⟨by rw [rPut_len, r.len], r.wdU hO hm, r.sub, fun j q h k => ?_, fun j q h k => ?_, r.inj, r.dis⟩
  · have hj : j ≠ i := fun e => k (e ▸ hk)
    rw [rAt_put, if_neg hj] at h
    obtain ⟨v, h1, h2⟩ := r.sh j q h k
    exact ⟨v, h1, h2.stA r.wd.mun ss⟩
  · rw [rAt_put] at h
    by_cases hj : j = i
    · subst hj
      rw [if_pos rfl] at h
      by_cases hl : j < ρ.length
      · rw [if_pos hl] at h
        cases h
        obtain ⟨b, h1, h2, _⟩ := r.ow j p hi hk
        rw [hO] at h2
        cases h2
        exact ⟨a, h1, hO, hr⟩
      · rw [if_neg hl] at h; cases h
    · rw [if_neg hj] at h
      obtain ⟨b, h1, h2, h3⟩ := r.ow j q h k
      exact ⟨b, h1, h2, h3.stA r.wd.mun ss (upd_ne fun e => hj (r.inj j i b h2 (e ▸ hO)))⟩
theorem Fr.writeU {o : HO} (r : Rl K T A Γ O ρ σ H) (hO : O i = some a) (hm : Mut (some o)) : Fr T Γ O O σ σ H (upd H a o) :=
  ⟨fun b u e _ h => by rw [upd_ne fun q => h i (by rw [hO, q])]; exact e, fun j b e => .inl ⟨j, e⟩, fun j b e => (r.wdU hO hm).mu b (.inr ⟨j, e⟩), fun _ _ => rfl⟩
theorem Rl.wdW (r : Rl K T A Γ O ρ σ H) (hO : O i = some a) : Wd T (AT A O) (upd H a (.lst us')) := by
  have nS : ¬ T.S a := fun q => r.dis i a hO (r.sub a q)
  refine ⟨T.keep r.wd.ok fun b q => upd_ne fun e => nS (e ▸ q), r.wd.sub, fun b q => ?_⟩
  by_cases h : b = a
  · subst h; rw [upd_same]; trivial
  · rw [upd_ne h]; exact r.wd.mu b q
theorem stA_own (hO : O i = some a) : StA (AT A O) H (upd H a (.lst us')) := fun b o e n => by
  rw [upd_ne fun h => n (by rw [h]; exact .inr ⟨i, hO⟩)]; exact e
theorem Rl.write (r : Rl K T A Γ O ρ σ H) (hi : rAt ρ i = some p) (hk : kAt Γ i = .ow) (hO : O i = some a) (hr : Reps K T (AT A O) H us' ds') : Rl K T A Γ O (rPut ρ i (.list ds')) σ (upd H a (.lst us')) := by
  have ss : StA (AT A O) H (upd H a (.lst us')) := stA_own hO
  refine ⟨by rw [rPut_len, r.len], r.wdW hO, r.sub, fun j q h k => ?_, fun j q h k => ?_, r.inj, r.dis⟩
  · have hj : j ≠ i := fun e => k (e ▸ hk)
    rw [rAt_put, if_neg hj] at h
    obtain ⟨v, h1, h2⟩ := r.sh j q h k
    exact ⟨v, h1, h2.stA r.wd.mun ss⟩
  · rw [rAt_put] at h
    by_cases hj : j = i
    · subst hj
      rw [if_pos rfl] at h
      by_cases hl : j < ρ.length
      · rw [if_pos hl] at h
        cases h
        obtain ⟨b, h1, h2, _⟩ := r.ow j p hi hk
        rw [hO] at h2
        cases h2
        exact ⟨a, h1, hO, .lst upd_same (hr.stA r.wd.mun ss)⟩
      · rw [if_neg hl] at h; cases h
    · rw [if_neg hj] at h
      obtain ⟨b, h1, h2, h3⟩ := r.ow j q h k
      exact ⟨b, h1, h2, h3.stA r.wd.mun ss (upd_ne fun e => hj (r.inj j i b h2 (e ▸ hO)))⟩
theorem Fr.write (r : Rl K T A Γ O ρ σ H) (hO : O i = some a) : Fr T Γ O O σ σ H (upd H a (.lst us')) :=
  ⟨fun b o e _ h => by rw [upd_ne fun q => h i (by rw [hO, q])]; exact e, fun j b e => .inl ⟨j, e⟩, fun j b e => (r.wdW hO).mu b (.inr ⟨j, e⟩), fun _ _ => rfl⟩
def oPut (O : Nat → Option Addr) (i : Nat) (a : Addr) : Nat → Option Addr := fun j => if j = i then some a else O j
theorem Rl.own (r : Rl K T A Γ O ρ σ H) (hk : kAt Γ i = .ow) (q : PostN K T (AT A O) H H' p a) : Rl K T A Γ (oPut O i a) (rPut ρ i p) (σ.set i (some (.ref a))) H' := by
  have r' := r.step q.st q.ok
  have hB : ∀ b, AT A (oPut O i a) b → AT A O b ∨ b = a := fun b h => by
    rcases h with h | ⟨j, h⟩
    · exact .inl (.inl h)
    · unfold oPut at h
      split at h
      · cases h; exact .inr rfl
      · exact .inl (.inr ⟨j, h⟩)
  have hN : ∀ b, AT A (oPut O i a) b → AT A O b ∨ H b = none := fun b h => (hB b h).imp_right fun e => by rw [e]; exact q.nw
  have ss : StA (AT A (oPut O i a)) H H' := (q.st.stA r.sub).weak fun b => .inl
  have mn : MuN (AT A (oPut O i a)) H := fun b h => (hN b h).elim (fun z => .inr (r.wd.mu b z)) .inl
  have wd : Wd T (AT A (oPut O i a)) H' := ⟨q.ok, fun b h => .inl (r.sub b h), fun b h => (hB b h).elim (fun z => r'.wd.mu b z) fun z => by rw [z]; exact q.ow.mu⟩
  refine ⟨by rw [rPut_len, List.length_set, r.len], wd, r.sub, fun j d h k => ?_, fun j d h k => ?_, fun j l b h1 h2 => ?_, fun j b h => ?_⟩
  · have hj : j ≠ i := fun z => k (z ▸ hk)
    rw [rAt_put, if_neg hj] at h
    obtain ⟨v, h1, h2⟩ := r.sh j d h k
    exact ⟨v, by rw [List.getElem?_set_ne (Ne.symm hj)]; exact h1, (h2.ext hN).stA mn ss⟩
  · rw [rAt_put] at h
    by_cases hj : j = i
    · subst hj
      rw [if_pos rfl] at h
      by_cases hl : j < ρ.length
      · rw [if_pos hl] at h
        cases h
        exact ⟨a, List.getElem?_set_self (by rw [← r.len]; exact hl), by simp [oPut], q.ow.weak fun b h => hB b h⟩
      · rw [if_neg hl] at h; cases h
    · rw [if_neg hj] at h
      obtain ⟨b, h1, h2, h3⟩ := r.ow j d h k
      refine ⟨b, by rw [List.getElem?_set_ne (Ne.symm hj)]; exact h1, by simp [oPut, hj, h2], ?_⟩
      refine (h3.ext hN).stA mn ss ?_
      have m := r.wd.mu b (.inr ⟨j, h2⟩)
      cases e : H b with
      | none => rw [e] at m; exact m.elim
      | some o => exact q.st b o e fun z => r.dis j b h2 (r.sub b z)
  · unfold oPut at h1 h2
    have no : ∀ j, O j ≠ some a := fun j z => by
      have := r.wd.mu a (.inr ⟨j, z⟩)
      rw [q.nw] at this
      exact this
    split at h1
    · cases h1
      split at h2
      · rename_i z1 z2; rw [z1, z2]
      · exact absurd h2 (no l)
    · split at h2
      · cases h2
        exact absurd h1 (no j)
      · exact r.inj j l b h1 h2
  · unfold oPut at h
    split at h
    · cases h
      exact r.wdA.new q.nw
    · exact r.dis j b h
theorem Fr.own (r : Rl K T A Γ O ρ σ H) (hk : kAt Γ i = .ow) (q : PostN K T (AT A O) H H' p a) : Fr T Γ O (oPut O i a) σ (σ.set i (some (.ref a))) H H' := by
  have r' := r.step q.st q.ok
  refine ⟨fun b o e n _ => q.st b o e n, fun j b h => ?_, fun j b h => r'.wd.mu b (.inr ⟨j, h⟩), fun j h => List.getElem?_set_ne fun e => by rw [← e, hk] at h; cases h⟩
  unfold oPut at h
  split at h
  · cases h; exact .inr q.nw
  · exact .inl ⟨j, h⟩
end
section
variable {m : Type → Type} [PM m] {α β : Type} {X : Cx} {Γ : List Kd} {ρ : Rh} {e : Expr} {es : List Expr} {x : m D} {xs : m (List D)} {pos : Pos}
/-! ### new lists -/
theorem postN_new {K : PySem.W.Frag} {T : Tk} {A : Addr → Prop} {H : Hp} {a : Addr} {us : List V} {ds : List D} (w : Wd T A H) (n : H a = none) (r : Reps K T A H us ds) : PostN K T A H (upd H a (.lst us)) (.list ds) a :=
  ⟨step_new n, (w.laid n).ok, n, .lst upd_same ((r.ext fun b h => h.imp_right fun e => by rw [e]; exact n).stA (fun b h => h.elim (fun z => .inr (w.mu b z)) fun z => .inl (z ▸ n)) fun b o q z => by rw [upd_ne fun k => z (.inr k)]; exact q)⟩
theorem VN.lst (h : VA X ρ es xs) (hz : es.length ≤ sizeLine := by decide) : VN X ρ (.List es pos) (xs >>= fun l => pure (.list l)) :=
  imE (pe_lst h.pa) fun σ H Q ⟨T, A, w, ev, q⟩ => by
    rw [PM.run_bind] at q
    refine ⟨T, A, w, ev, PM.mono (fun ps q vs H2 s2 o2 r2 => ?_) (h.ln _ q)⟩
    obtain ⟨q, hl⟩ := q
    refine ⟨by rw [r2.length, hl]; exact hz, fun p np => ?_⟩
    rw [PM.run_pure] at q
    exact q _ _ ((postN_new (w.step s2 o2) np r2).after s2 (step_none s2 o2 np))
theorem VN.lstC {ds : List D} (h : VA (m := m) X ρ es (pure ds)) (hz : es.length ≤ sizeLine := by decide) : VN (m := m) X ρ (.List es pos) (pure (.list ds)) :=
  imE (VN.lst h hz) fun _ _ _ ⟨T, A, w, ev, q⟩ => ⟨T, A, w, ev, by rw [PM.run_bind, PM.run_pure]; exact q⟩
/-! ### values for the names -/
def tH (K : PySem.W.Frag) (Γ : List Kd) (ρ : Rh) (x : m D) : TE := fun σ H Q => ∃ T A O, Rl K T A Γ O ρ σ H ∧ PM.run x fun p => ∀ v H', Post K T (AT A O) H H' p v → Q v H'
abbrev VH (X : Cx) (Γ : List Kd) (ρ : Rh) (e : Expr) (x : m D) : Prop := PE X e (tH X.K Γ ρ x)
theorem VH.hid (h : VE X (hide Γ ρ) e x) : VH X Γ ρ e x := imE h fun σ H Q ⟨T, A, O, r, q⟩ => ⟨T, AT A O, r.wd, r.hid, q⟩
theorem VH.plain (h : VE X ρ e x) : VH X [] ρ e x := VH.hid h
theorem VH.imm (h : VE X ρ e x) : VH X Γ ρ e (x >>= fun p => PM.lift (imm p)) := imE h fun σ H Q ⟨T, A, O, r, q⟩ => by
  rw [PM.run_bind] at q
  refine ⟨T, A, r.wdA, r.all, PM.mono (fun p q v H' o => ?_) q⟩
  rw [PM.run_lift] at q
  obtain ⟨d, e, q⟩ := q
  obtain ⟨hp, e⟩ := ifs e
  subst e
  exact q v H' ⟨o.st, o.ok, o.rp.imm hp⟩
/-- a new list for an owner -/
def tNH (K : PySem.W.Frag) (Γ : List Kd) (ρ : Rh) (x : m D) : TE := fun σ H Q => ∃ T A O, Rl K T A Γ O ρ σ H ∧ PM.run x fun p => ∀ a H', PostN K T (AT A O) H H' p a → Q (.ref a) H'
abbrev VNH (X : Cx) (Γ : List Kd) (ρ : Rh) (e : Expr) (x : m D) : Prop := PE X e (tNH X.K Γ ρ x)
theorem VNH.hid (h : VN X (hide Γ ρ) e x) : VNH X Γ ρ e x := imE h fun σ H Q ⟨T, A, O, r, q⟩ => ⟨T, AT A O, r.wd, r.hid, q⟩
theorem VNH.imm (h : VN X ρ e x) : VNH X Γ ρ e (x >>= fun p => PM.lift (immL p)) := imE h fun σ H Q ⟨T, A, O, r, q⟩ => by
  rw [PM.run_bind] at q
  refine ⟨T, A, r.wdA, r.all, PM.mono (fun p q v H' o => ?_) q⟩
  rw [PM.run_lift] at q
  obtain ⟨d, e, q⟩ := q
  have ho := o.ow
  cases ho with
  | lst e1 r1 =>
    obtain ⟨hp, e⟩ := ifs e
    subst e
    exact q v H' ⟨o.st, o.ok, o.nw, .lst e1 (Reps.imm r1 hp)⟩
  | dct e1 r1 => cases e
  | dck _ e1 r1 => cases e
/-! ### name = e -/
theorem asg_put {K : PySem.W.Frag} {i : Nat} {D : Ends} {σ : L2.St} {H H' : Hp} {T : Tk} {A : Addr → Prop} {O : Nat → Option Addr} {p : Qv.D} {v : V} (hk : kAt Γ i = .sh) (r : Rl K T A Γ O ρ σ H) (q : (kn K T A Γ O σ H D).nx (rPut ρ i p)) (o : Post K T (AT A O) H H' p v) : gName i v σ H' D.nx := by
  have r1 := r.step o.st o.ok
  exact q _ _ O (r1.put o.rp hk) ((Fr.step r o.st o.ok).trans (Fr.put r1 (by rw [hk]; decide)) o.ok o.ok)
theorem own_put {K : PySem.W.Frag} {i : Nat} {D : Ends} {σ : L2.St} {H H' : Hp} {T : Tk} {A : Addr → Prop} {O : Nat → Option Addr} {p : Qv.D} {a : Addr} (hk : kAt Γ i = .ow) (r : Rl K T A Γ O ρ σ H) (q : (kn K T A Γ O σ H D).nx (rPut ρ i p)) (o : PostN K T (AT A O) H H' p a) : gName i (.ref a) σ H' D.nx := q _ _ _ (r.own hk o) (Fr.own r hk o)
theorem asg_read {K : PySem.W.Frag} {i : Nat} {D : Ends} {σ : L2.St} {H : Hp} (hk : kAt Γ i = .sh) (h : tS K Γ ρ (WB (fun p => rPut ρ i p) x) D σ H) : tH K Γ ρ x σ H fun v H1 => gName i v σ H1 D.nx := by
  obtain ⟨T, A, O, r, q⟩ := h
  refine ⟨T, A, O, r, PM.mono (fun p q v H' o => ?_) q⟩
  have r1 := r.step o.st o.ok
  exact q _ _ O (r1.put o.rp hk) ((Fr.step r o.st o.ok).trans (Fr.put r1 (by rw [hk]; decide)) o.ok o.ok)
theorem imB {s : Stmt} {E E' : α → Rh} {x : m α} (h : SB X Γ ρ s E x) (e : ∀ a, E' a = E a) : SB X Γ ρ s E' x := by
  have : E' = E := funext e
  rw [this]; exact h
theorem SB.asg {i : Nat} {y : Str} {py : Pos} {E : D → Rh} (h : VH X Γ ρ e x) (hE : ∀ p, E p = rPut ρ i p) (hN : X.N.Nodup) (hk : kAt Γ i = .sh := by rfl) (hi : X.N[i]? = some y := by rfl) (hx : Loc X.env.scope y := by first | exact Or.inl rfl | exact Or.inr rfl) (hs : swapsWith e (some (.Name y py)) pos.line X.env = pure false := by rfl) (hf : X.fn y = true ∨ X.env.scope.names.lookup y = some .local := by first | exact .inl rfl | exact .inr rfl) :
    SB X Γ ρ (.Assign [.Name y py] e pos) E x := imB (imS (ps_set hN hi hx h hs hf) fun D σ H q => asg_read hk q) hE
theorem own_read {K : PySem.W.Frag} {i : Nat} {D : Ends} {σ : L2.St} {H : Hp} (hk : kAt Γ i = .ow) (h : tS K Γ ρ (WB (fun p => rPut ρ i p) x) D σ H) : tNH K Γ ρ x σ H fun v H1 => gName i v σ H1 D.nx := by
  obtain ⟨T, A, O, r, q⟩ := h
  exact ⟨T, A, O, r, PM.mono (fun p q a H' o => q _ _ _ (r.own hk o) (Fr.own r hk o)) q⟩
theorem SB.own {i : Nat} {y : Str} {py : Pos} {E : D → Rh} (h : VNH X Γ ρ e x) (hE : ∀ p, E p = rPut ρ i p) (hN : X.N.Nodup) (hk : kAt Γ i = .ow := by rfl) (hi : X.N[i]? = some y := by rfl) (hx : Loc X.env.scope y := by first | exact Or.inl rfl | exact Or.inr rfl) (hs : swapsWith e (some (.Name y py)) pos.line X.env = pure false := by rfl) (hf : X.fn y = true ∨ X.env.scope.names.lookup y = some .local := by first | exact .inl rfl | exact .inr rfl) :
    SB X Γ ρ (.Assign [.Name y py] e pos) E x := imB (imS (ps_set hN hi hx h hs hf) fun D σ H q => own_read hk q) hE
/-! ### pattern = e -/
theorem SB.asgP {tg : Expr} {pt : Pt} (h : VH X Γ ρ e x) (hg : VG X tg pt) (hk : ∀ i ∈ pt.slots, kAt Γ i = .sh := by decide) (hs : swapsWithSole [tg] e pos.line X.env = pure false := by rfl) (hw : swappedStores [tg] e X.env = pure none := by rfl) (h1 : (assignEach [tg] X.env).map (·.2) = [assign tg X.env] := by rfl) :
    SB X Γ ρ (.Assign [tg] e pos) (fun l => rPuts ρ pt.slots l) (x >>= fun p => PM.lift (pt.flat p)) :=
  imS (ps_asg h hg hs hw h1) fun D σ H ⟨T, A, O, r, q⟩ => by
    unfold WB at q
    rw [PM.run_bind] at q
    refine ⟨T, A, O, r, PM.mono (fun p q v H' o => ?_) q⟩
    rw [PM.run_lift] at q
    obtain ⟨l, el, q⟩ := q
    have r1 := r.step o.st o.ok
    refine ⟨T, AT A O, p, l, r1.wd, o.rp, el, fun us hus => ?_⟩
    exact q _ _ O (r1.puts hus hk) ((Fr.step r o.st o.ok).trans (Fr.puts r1 hk) o.ok o.ok)
/-- then the rest, by the leaves -/
theorem VT.consP {s : Stmt} {rest : List Stmt} {n : Nat} {E : List D → Rh} {y : m (List D)} {k : List D → m D} (h1 : SB X Γ ρ s E y) (hn : ∀ K : List D → Prop, PM.run y K → PM.run y fun l => K l ∧ l.length = n) (h2 : ∀ l, l.length = n → VT X Γ (E l) rest (k l)) : VT X Γ ρ (s :: rest) (y >>= k) :=
  seqB h1 (W := fun l k' => l.length = n ∧ WT (k l) k') (fun l => ⟨fun pins s σ H D I ⟨T, A, O, r, hl, w⟩ => (h2 l hl).run pins s σ H D I ⟨T, A, O, r, w⟩⟩) (fun l k1 k2 h q => ⟨q.1, mon_T k1 k2 h q.2⟩) fun kk w => PM.mono (fun l q => ⟨q.2, q.1⟩) (hn _ ((PM.run_bind _ _ _).mp w))
theorem VB.consP {s : Stmt} {rest : List Stmt} {n : Nat} {E : List D → Rh} {E2 : β → Rh} {y : m (List D)} {k : List D → m β} (h1 : SB X Γ ρ s E y) (hn : ∀ K : List D → Prop, PM.run y K → PM.run y fun l => K l ∧ l.length = n) (h2 : ∀ l, l.length = n → VB X Γ (E l) rest E2 (k l)) : VB X Γ ρ (s :: rest) E2 (y >>= k) :=
  seqB h1 (W := fun l k' => l.length = n ∧ WB E2 (k l) k') (fun l => ⟨fun pins s σ H D I ⟨T, A, O, r, hl, w⟩ => (h2 l hl).run pins s σ H D I ⟨T, A, O, r, w⟩⟩) (fun l k1 k2 h q => ⟨q.1, mon_B k1 k2 h q.2⟩) fun kk w => PM.mono (fun l q => ⟨q.2, q.1⟩) (hn _ ((PM.run_bind _ _ _).mp w))
theorem VO.consP {s : Stmt} {rest : List Stmt} {n : Nat} {E : List D → Rh} {E2 : β → Rh} {y : m (List D)} {k : List D → m (Out β)} (h1 : SB X Γ ρ s E y) (hn : ∀ K : List D → Prop, PM.run y K → PM.run y fun l => K l ∧ l.length = n) (h2 : ∀ l, l.length = n → VO X Γ (E l) rest E2 (k l)) : VO X Γ ρ (s :: rest) E2 (y >>= k) :=
  seqB h1 (W := fun l k' => l.length = n ∧ WO E2 (k l) k') (fun l => ⟨fun pins s σ H D I ⟨T, A, O, r, hl, w⟩ => (h2 l hl).run pins s σ H D I ⟨T, A, O, r, w⟩⟩) (fun l k1 k2 h q => ⟨q.1, mon_O k1 k2 h q.2⟩) fun kk w => PM.mono (fun l q => ⟨q.2, q.1⟩) (hn _ ((PM.run_bind _ _ _).mp w))
theorem flat_ln {pt : Pt} {x : m D} (K : List D → Prop) (h : PM.run (x >>= fun p => PM.lift (pt.flat p)) K) : PM.run (x >>= fun p => PM.lift (pt.flat p)) fun l => K l ∧ l.length = pt.slots.length := by
  rw [PM.run_bind] at h ⊢
  refine PM.mono (fun p h => ?_) h
  rw [PM.run_lift] at h ⊢
  obtain ⟨l, e, h⟩ := h
  exact ⟨l, e, h, flat_len _ _ _ e⟩
/-! ### a, b = x, y -/
theorem SB.par2 {i j : Nat} {y z : Str} {a b : Expr} {py pz pt : Pos} {kt k2 : Nat} {pt2 : Pos} {E : List D → Rh} (h : VA X (hide Γ ρ) [a, b] xs) (hE : ∀ p q, E [p, q] = rPut (rPut ρ i p) j q) (hN : X.N.Nodup) (hij : i ≠ j := by decide) (hki : kAt Γ i = .sh := by rfl) (hkj : kAt Γ j = .sh := by rfl) (hc : X.calm = true := by rfl) (hi : X.N[i]? = some y := by rfl) (hj : X.N[j]? = some z := by rfl)
    (hy : X.env.scope.names.lookup y = some .local := by rfl) (hz : X.env.scope.names.lookup z = some .local := by rfl) (hw : swappedStores [.Tuple [.Name y py, .Name z pz] kt pt] (.Tuple [a, b] k2 pt2) X.env = pure (some [y, z]) := by rfl) (hs : swapsWithSole [.Tuple [.Name y py, .Name z pz] kt pt] (.Tuple [a, b] k2 pt2) pos.line X.env = pure false := by rfl) :
    SB X Γ ρ (.Assign [.Tuple [.Name y py, .Name z pz] kt pt] (.Tuple [a, b] k2 pt2) pos) E xs :=
  imS (ps_par hc hN hi hj hij hy hz h.pa hw hs) fun D σ H ⟨T, A, O, r, q⟩ => by
    refine ⟨T, AT A O, r.wd, r.hid, PM.mono (fun l q vs H' s o rv => ?_) (h.ln _ q)⟩
    obtain ⟨q, hl⟩ := q
    have r1 := r.step s o
    match l, hl with
    | [p, p2], _ =>
      obtain ⟨v, u, rfl, rv1, rv2⟩ := reps2 rv
      refine ⟨v, u, rfl, ?_⟩
      rw [hE] at q
      have r2 := r1.put rv1 hki
      exact q _ _ O (r2.put rv2 hkj) (((Fr.step r s o).trans (Fr.put r1 (by rw [hki]; decide)) o o).trans (Fr.put r2 (by rw [hkj]; decide)) o o)
/-! ### changes -/
theorem app_len : sizeLine = 16777216 := sizeLine_eq
theorem SB.app {i : Nat} {y : Str} {py apos p1 : Pos} {q0 : D} {E : D → Rh} (h : VH X Γ ρ e x) (hr : rAt ρ i = some q0) (hE : ∀ p, E p = rPut ρ i p) (hk : kAt Γ i = .ow := by rfl) (hi : X.N[i]? = some y := by rfl) (hv : Vis X.env.scope y := by first | exact Or.inl rfl | exact Or.inr (Or.inl rfl) | exact Or.inr (Or.inr rfl)) (hd : (y == ("__debug__" : Str)) = false := by decide) (hcd : (y == ("__classdict__" : Str)) = false := by decide)
    (hbase : attributeBase (.Name y py) "append" X.env (eval (.Name y py) X.env) = eval (.Name y py) X.env := by rfl)
    (hfew : ((backTo p1 (starEach [e] X.env)).all (fun x => !x.1) && (backToKw p1 (keywordEach [] X.env)).all (fun x => x.1.isSome) && decide ([e].length + ([] : List Keyword).length + (if ([] : List Keyword).isEmpty then 0 else 1) < 30)) = true := by rfl)
    (hline : (apos.endLine == p1.line) = true := by rfl) (hs : starEach [e] X.env = (false, eval e X.env) :: starEach [] X.env := by rfl) (hplain : (backTo p1 (starEach [] X.env)).any (·.1) = false := by rfl) (hsw : swapsWith (.Call (.Attribute (.Name y py) "append" apos) [e] [] p1) none pos.line X.env = pure false := by rfl) :
    SB X Γ ρ (.Expr (.Call (.Attribute (.Name y py) "append" apos) [e] [] p1) pos) E (x >>= fun p => PM.lift (dApp q0 p)) :=
  imB (imS (ps_expr (pe_bm PySem.F.plainAttrs_list PySem.F.slot_list_append PySem.F.type_list_append mt_append (pe_var hi hv hd hcd) (pa_cons h pa_nil hs) hbase hfew hline hs hplain) hsw) fun D σ H ⟨T, A, O, r, q⟩ => by
    unfold WB at q
    rw [PM.run_bind] at q
    obtain ⟨a, h1, h2, h3⟩ := r.ow i q0 hr hk
    refine ⟨.ref a, h1, ?_, T, A, O, r, PM.mono (fun p q v H' o => ?_) q⟩
    · cases h3 with
      | lst e1 _ => exact .inl ⟨rfl, _, SqL.of e1⟩
      | dct e1 _ => exact (PM.run_no x (PM.mono (fun p q => by
          rw [PM.run_lift] at q
          obtain ⟨d, ed, _⟩ := q
          cases ed) q)).elim
      | dck _ e1 _ => exact (PM.run_no x (PM.mono (fun p q => by
          rw [PM.run_lift] at q
          obtain ⟨d, ed, _⟩ := q
          cases ed) q)).elim
    · rw [PM.run_lift] at q
      obtain ⟨d, ed, q⟩ := q
      have r1 := r.step o.st o.ok
      obtain ⟨a', _, h2', h3'⟩ := r1.ow i q0 hr hk
      rw [h2] at h2'
      cases h2'
      cases h3' with
      | @lst us ds e1 rr =>
        obtain ⟨hz, ed⟩ := ifs ed
        subst ed
        refine ⟨a, us, v, rfl, rfl, e1, by rw [rr.length]; exact hz, ?_⟩
        exact q _ _ O (r1.write hr hk h2 (rr.append (.cons o.rp .nil))) ((Fr.step r o.st o.ok).trans (Fr.write r1 h2) o.ok (r1.wdW h2).ok)
      | dct _ _ => cases ed
      | dck _ _ _ => cases ed) hE
theorem pset_or {X : Cx} {t t' : V → V → V → Hp → (Hp → Prop) → Prop} (h : PSet X t) (h' : PSet X t') : PSet X (fun o i v H Q => t o i v H Q ∨ t' o i v H Q) := by
  intro pins s σ H o i v ov iv u Q I ro ri rv q
  rcases q with q | q
  · exact h pins s σ H o i v ov iv u Q I ro ri rv q
  · exact h' pins s σ H o i v ov iv u Q I ro ri rv q
theorem RepD.len {K : PySem.W.Frag} {T : Tk} {A : Addr → Prop} {H : Hp} : ∀ {xs : List En} {ds : List (D × D)}, RepD K T A H xs ds → xs.length = ds.length
  | _, _, .nil => rfl
  | _, _, .cons _ _ _ r => by rw [List.length_cons, List.length_cons, RepD.len r]
theorem dPutL_ne (ds : List (D × D)) (k v : D) : dPutL ds k v ≠ [] := by
  unfold dPutL
  split
  · rename_i h
    cases ds with
    | nil => cases h
    | cons _ _ => simp
  · simp
theorem SB.set {i : Nat} {y : Str} {py p1 : Pos} {ix : Expr} {xi : m D} {q0 : D} {E : D → Rh} (hu : X.A.units + 64 < cLine) (h : VH X Γ ρ e x) (hx : VE X ρ ix xi) (hr : rAt ρ i = some q0) (hE : ∀ p, E p = rPut ρ i p) (hk : kAt Γ i = .ow := by rfl) (hi : X.N[i]? = some y := by rfl) (hv : Vis X.env.scope y := by first | exact Or.inl rfl | exact Or.inr (Or.inl rfl) | exact Or.inr (Or.inr rfl)) (hd : (y == ("__debug__" : Str)) = false := by decide) (hcd : (y == ("__classdict__" : Str)) = false := by decide)
    (ha : ∀ v, assign (.Subscript (.Name y py) ix p1) X.env v = (do
      let ov ← holding [v] (eval (.Name y py) X.env)
      let iv ← holding [v, ov] (eval ix X.env)
      standAt p1
      holding [v, ov, iv] (setItem ov iv v)
      release [v, ov, iv] []) := by intro _; rfl) (hs : swapsWithSole [.Subscript (.Name y py) ix p1] e pos.line X.env = pure false := by rfl) (hw : swappedStores [.Subscript (.Name y py) ix p1] e X.env = pure none := by rfl) (h1 : (assignEach [.Subscript (.Name y py) ix p1] X.env).map (·.2) = [assign (.Subscript (.Name y py) ix p1) X.env] := by rfl) :
    SB X Γ ρ (.Assign [.Subscript (.Name y py) ix p1] e pos) E (x >>= fun p => xi >>= fun k => PM.lift (dSet q0 k p)) :=
  imB (imS (ps_asg h (pg_sub (pe_var hi hv hd hcd) hx (pset_or set_list (set_dict (by omega))) ha) hs hw h1) fun D σ H ⟨T, A, O, r, q⟩ => by
    unfold WB at q
    rw [PM.run_bind] at q
    refine ⟨T, A, O, r, PM.mono (fun p q v H' o => ?_) q⟩
    have r1 := r.step o.st o.ok
    obtain ⟨a, h1, h2, h3⟩ := r1.ow i q0 hr hk
    rw [PM.run_bind] at q
    refine ⟨.ref a, h1, T, A, r1.wdA, r1.all, PM.mono (fun k q v2 H2 o2 => ?_) q⟩
    rw [PM.run_lift] at q
    obtain ⟨d, ed, q⟩ := q
    have r2 := r1.step o2.st o2.ok
    obtain ⟨a', _, h2', h3'⟩ := r2.ow i q0 hr hk
    rw [h2] at h2'
    cases h2'
    have rv : Rep X.K T (AT A O) H2 v p := o.rp.stA r1.wd.mun (o2.st.stA r1.wd.sub)
    have fin : ∀ ds : List (Qv.D × Qv.D), DicAt X.K T (AT A O) H2 a ds → dSet (.dict ds) k p = some d → rSetD X.K (.ref a) v2 v H2 fun H => D.nx σ H := fun ds hd ed => by
      obtain ⟨hc, ed⟩ := ifs (show (if kOk ds k && decide (ds.length < sizeLine) then some (PyData.dict (dPutL ds k p)) else none) = some d from ed)
      subst ed
      rw [Bool.and_eq_true, decide_eq_true_eq] at hc
      obtain ⟨ho, hz⟩ := hc
      have kimm : noMut k = true := (kOk_of ho).elim (fun ⟨_, _, h⟩ => key_imm h) fun ⟨_, _, h⟩ => keyS_imm h
      refine ⟨T, AT A O, a, ds, k, rfl, ⟨hd, o2.rp.imm kimm, ho⟩, hz, fun xs kk b o3 eb hkk rr => ?_, fun kvs kk hkk rr => ?_⟩
      · subst eb
        have rd := repD_put (b := b) rr hkk (o2.rp.imm kimm) rv
        have ss : StA (AT A O) H2 (upd H2 a (DN a (putE xs kk b v) o3)) := stA_ownU h2
        exact q _ _ O (r2.writeU hr hk h2 trivial (.dct upd_same (rd.stA r2.wd.mun ss))) (((Fr.step r o.st o.ok).trans (Fr.step r1 o2.st o2.ok) o.ok o2.ok).trans (Fr.writeU r2 h2 trivial) o2.ok (r2.wdU (o := DN a (putE xs kk b v) o3) h2 trivial).ok)
      · have rd := repK_put rr hkk rv
        have ss : StA (AT A O) H2 (upd H2 a (.dK (putK kvs kk v))) := stA_ownU h2
        exact q _ _ O (r2.writeU hr hk h2 trivial (.dck (dPutL_ne _ _ _) upd_same (rd.stA r2.wd.mun ss))) (((Fr.step r o.st o.ok).trans (Fr.step r1 o2.st o2.ok) o.ok o2.ok).trans (Fr.writeU r2 h2 trivial) o2.ok (r2.wdU (o := .dK (putK kvs kk v)) h2 trivial).ok)
    cases h3' with
    | @lst us ds e1 rr =>
      cases k with
      | int kk =>
        have rk := o2.rp
        cases rk
        change (ixN ds.length kk).map (fun j => PyData.list (ds.set j p)) = some d at ed
        cases ej : ixN ds.length kk with
        | none => rw [ej] at ed; cases ed
        | some j =>
          rw [ej] at ed
          cases ed
          refine .inl ⟨a, us, kk, j, rfl, rfl, e1, by rw [rr.length]; exact ej, ?_⟩
          exact q _ _ O (r2.write hr hk h2 (rr.set j rv)) (((Fr.step r o.st o.ok).trans (Fr.step r1 o2.st o2.ok) o.ok o2.ok).trans (Fr.write r2 h2) o2.ok (r2.wdW h2).ok)
      | _ => cases ed
    | @dct xs o1 ds e1 rr => exact .inr (fin ds (.inl ⟨_, _, e1, rr⟩) ed)
    | @dck xs ds c e1 rr => exact .inr (fin ds (.inr ⟨_, c, e1, rr⟩) ed)) hE
end
end Qv

namespace Qv
open PySem PySem.Spec PyProof.Rows L2
/-! ## if, for, while; freezing -/
theorem kAt_set {Γ : List Kd} {i : Nat} {k : Kd} (hk : kAt Γ i = .ow) : ∀ j, kAt (Γ.set i k) j = if j = i then k else kAt Γ j := by
  induction Γ generalizing i with
  | nil => cases hk
  | cons c Γ ih =>
    cases i with
    | zero => intro j; cases j <;> simp [kAt]
    | succ i =>
      intro j
      cases j with
      | zero => simp [kAt]
      | succ j => rw [List.set_cons_succ]; simp only [kAt]; rw [ih hk j]; simp
def oDel (O : Nat → Option Addr) (i : Nat) : Nat → Option Addr := fun j => if j = i then none else O j
section
variable {K : PySem.W.Frag} {T : Tk} {A : Addr → Prop} {Γ : List Kd} {O O' O2 : Nat → Option Addr} {ρ : Rh} {σ σ' σ2 : L2.St} {H H' H2 : Hp} {i : Nat}
theorem oDel_at {j : Nat} {a : Addr} (h : oDel O i j = some a) : j ≠ i ∧ O j = some a := by
  unfold oDel at h
  by_cases e : j = i
  · rw [if_pos e] at h; cases h
  · rw [if_neg e] at h; exact ⟨e, h⟩
theorem AT_del {a : Addr} (h : AT A (oDel O i) a) : AT A O a := h.imp_right fun ⟨j, e⟩ => ⟨j, (oDel_at e).2⟩
theorem Rl.freeze (r : Rl K T A Γ O ρ σ H) (hk : kAt Γ i = .ow) : Rl K T A (Γ.set i .sh) (oDel O i) ρ σ H := by
  refine ⟨r.len, ⟨r.wd.ok, fun a h => .inl (r.sub a h), fun a h => r.wd.mu a (AT_del h)⟩, r.sub, fun j p h k => ?_, fun j p h k => ?_, fun a b c h1 h2 => r.inj a b c (oDel_at h1).2 (oDel_at h2).2, fun j a h => r.dis j a (oDel_at h).2⟩
  · by_cases e : j = i
    · subst e
      obtain ⟨a, h1, h2, h3⟩ := r.ow j p h hk
      refine ⟨_, h1, ?_⟩
      refine h3.rep (fun q => ?_) fun b => AT_del
      rcases q with q | ⟨l, q⟩
      · exact r.dis j a h2 q
      · exact (oDel_at q).1 (r.inj _ _ _ (oDel_at q).2 h2)
    · rw [kAt_set hk, if_neg e] at k
      obtain ⟨v, h1, h2⟩ := r.sh j p h k
      exact ⟨v, h1, h2.weak fun b => AT_del⟩
  · by_cases e : j = i
    · rw [kAt_set hk, if_pos e] at k; cases k
    · rw [kAt_set hk, if_neg e] at k
      obtain ⟨a, h1, h2, h3⟩ := r.ow j p h k
      refine ⟨a, h1, by unfold oDel; rw [if_neg e]; exact h2, ?_⟩
      exact h3.weak fun b => AT_del
theorem Fr.freeze (r : Rl K T A Γ O ρ σ H) : Fr T Γ O (oDel O i) σ σ H H :=
  ⟨fun a o e _ _ => e, fun j a e => .inl ⟨j, (oDel_at e).2⟩, fun j a e => r.wd.mu a (.inr ⟨j, e⟩), fun _ _ => rfl⟩
theorem Fr.kd {Γ' : List Kd} (f : Fr T Γ' O O' σ σ' H H') (h : ∀ i, kAt Γ i = .fz → kAt Γ' i = .fz) : Fr T Γ O O' σ σ' H H' := ⟨f.st, f.ne, f.mu, fun i q => f.fz i (h i q)⟩
/-- a name not known may be of any kind -/
theorem Rl.unk (hk : kAt Γ i = .ow) (r : Rl K T A (Γ.set i .sh) O ρ σ H) (hn : rAt ρ i = none) : Rl K T A Γ O ρ σ H := by
  refine ⟨r.len, r.wd, r.sub, fun j p h k => ?_, fun j p h k => ?_, r.inj, r.dis⟩
  · have e : j ≠ i := fun e => by rw [e, hn] at h; cases h
    exact r.sh j p h (by rw [kAt_set hk, if_neg e]; exact k)
  · have e : j ≠ i := fun e => by rw [e, hn] at h; cases h
    exact r.ow j p h (by rw [kAt_set hk, if_neg e]; exact k)
end
section
variable {m : Type → Type} [PM m] {α β : Type} {X : Cx} {Γ Γ' : List Kd} {ρ : Rh} {i : Nat} {rest : List Stmt}
theorem VT.frz {x : m D} (i : Nat) (h : VT X Γ' ρ rest x) (hΓ : Γ' = Γ.set i .sh := by rfl) (hk : kAt Γ i = .ow := by rfl) : VT X Γ ρ rest x := imSs h fun D σ H ⟨T, A, O, r, w⟩ => by
  subst hΓ
  refine ⟨T, A, oDel O i, r.freeze hk, PM.mono (fun p q v H' s => q v H' fun a o e n z => s a o e n fun j q => z j (oDel_at q).2) w⟩
theorem frz_le {K : PySem.W.Frag} {T : Tk} {A : Addr → Prop} {O : Nat → Option Addr} {σ : L2.St} {H : Hp} {D : Ends} (r : Rl K T A Γ O ρ σ H) (hk : kAt Γ i = .ow) :
    (∀ ρ', rAt ρ' i = none → (kn K T A Γ O σ H D).nx ρ' → (kn K T A (Γ.set i .sh) (oDel O i) σ H D).nx ρ') ∧ (∀ ρ', rAt ρ' i = none → (kn K T A Γ O σ H D).bk ρ' → (kn K T A (Γ.set i .sh) (oDel O i) σ H D).bk ρ') ∧ (∀ ρ', rAt ρ' i = none → (kn K T A Γ O σ H D).ct ρ' → (kn K T A (Γ.set i .sh) (oDel O i) σ H D).ct ρ') ∧ (∀ p, (kn K T A Γ O σ H D).rt p → (kn K T A (Γ.set i .sh) (oDel O i) σ H D).rt p) := by
  have kz : ∀ j, kAt Γ j = .fz → kAt (Γ.set i .sh) j = .fz := fun j q => by
    rw [kAt_set hk, if_neg fun e => by rw [e, hk] at q; cases q]; exact q
  have key : ∀ (P : L2.St → Hp → Prop) (ρ' : Rh), rAt ρ' i = none → (∀ σ' H' O', Rl K T A Γ O' ρ' σ' H' → Fr T Γ O O' σ σ' H H' → P σ' H') → ∀ σ' H' O', Rl K T A (Γ.set i .sh) O' ρ' σ' H' → Fr T (Γ.set i .sh) (oDel O i) O' σ σ' H H' → P σ' H' := fun P ρ' hn w σ' H' O' r' f =>
    w σ' H' O' (Rl.unk hk r' hn) ((Fr.freeze (i := i) r).trans (f.kd kz) r.wd.ok r'.wd.ok)
  exact ⟨fun ρ' => key _ ρ', fun ρ' => key _ ρ', fun ρ' => key _ ρ', fun p w v H' s => w v H' fun a o e n z => s a o e n fun j q => z j (oDel_at q).2⟩
theorem VB.frz {E : α → Rh} {x : m α} (i : Nat) (h : VB X Γ' ρ rest E x) (hE : ∀ a, rAt (E a) i = none := by intro _; rfl) (hΓ : Γ' = Γ.set i .sh := by rfl) (hk : kAt Γ i = .ow := by rfl) : VB X Γ ρ rest E x := imSs h fun D σ H ⟨T, A, O, r, w⟩ => by
  subst hΓ
  exact ⟨T, A, oDel O i, r.freeze hk, PM.mono (fun a q => (frz_le r hk).1 _ (hE a) q) w⟩
theorem VO.frz {E : α → Rh} {x : m (Out α)} (i : Nat) (h : VO X Γ' ρ rest E x) (hE : ∀ a, rAt (E a) i = none := by intro _; rfl) (hΓ : Γ' = Γ.set i .sh := by rfl) (hk : kAt Γ i = .ow := by rfl) : VO X Γ ρ rest E x := imSs h fun D σ H ⟨T, A, O, r, w⟩ => by
  subst hΓ
  refine ⟨T, A, oDel O i, r.freeze hk, PM.mono (fun o q => ?_) w⟩
  obtain ⟨k1, k2, k3, k4⟩ := frz_le (D := D) r hk
  cases o with
  | nx a => exact k1 _ (hE a) q
  | rt v => exact k4 _ q
  | bk a => exact k2 _ (hE a) q
  | ct a => exact k3 _ (hE a) q
/-! ### if -/
variable {c : Expr} {a b : List Stmt} {pos : Pos} {t : m Bool}
theorem run_ite {t : m Bool} {x y : m α} {K : α → Prop} : PM.run (t >>= fun c => if c = true then x else y) K ↔ PM.run t fun c => if c = true then PM.run x K else PM.run y K := by
  rw [PM.run_bind]
  constructor
  · exact PM.mono fun c h => by cases c <;> exact h
  · exact PM.mono fun c h => by cases c <;> exact h
theorem if_read {W1 W2 W' : Kn → Prop} {D : Ends} {σ : L2.St} {H : Hp} (m1 : Mon W1) (m2 : Mon W2) (q : ∀ k, W' k → PM.run t fun c => if c = true then W1 k else W2 k) (h : tS X.K Γ ρ W' D σ H) : tIfS (tP X.K ρ t) (tS X.K Γ ρ W1) (tS X.K Γ ρ W2) D σ H := by
  obtain ⟨T, A, O, r, w⟩ := h
  refine ⟨T, A, r.wdA, r.all, PM.mono (fun c h H' s o => ?_) (q _ w)⟩
  have r1 := r.step s o
  have l := kn_le (K := X.K) (A := A) (E := D) (Fr.step r s o) o
  cases c with
  | true => exact ⟨T, A, O, r1, m1 _ _ l h⟩
  | false => exact ⟨T, A, O, r1, m2 _ _ l h⟩
theorem SB.ite {E : α → Rh} {x y : m α} (hc : VP X ρ c t) (h1 : VB X Γ ρ a E x) (h2 : VB X Γ ρ b E y) : SB X Γ ρ (.If c a b pos) E (t >>= fun c => if c = true then x else y) :=
  imS (ps_if hc h1 h2) fun D σ H h => if_read mon_B mon_B (fun k => run_ite.mp) h
theorem SO.ite {E : α → Rh} {x y : m (Out α)} (hc : VP X ρ c t) (h1 : VO X Γ ρ a E x) (h2 : VO X Γ ρ b E y) : SO X Γ ρ (.If c a b pos) E (t >>= fun c => if c = true then x else y) :=
  imS (ps_if hc h1 h2) fun D σ H h => if_read mon_O mon_O (fun k => run_ite.mp) h
/-- .. return in the branch: VT's block has no next -/
theorem VT.ifE {x y : m D} (hc : VP X ρ c t) (h1 : VT X Γ ρ a x) (h2 : VT X Γ ρ rest y) : VT X Γ ρ (.If c a [] pos :: rest) (t >>= fun c => if c = true then x else y) :=
  imSs (pss_cons (ps_if hc h1 pss_nil) h2) fun D σ H ⟨T, A, O, r, w⟩ => by
    have w := run_ite.mp w
    refine ⟨T, A, r.wdA, r.all, PM.mono (fun c h H' s o => ?_) w⟩
    have r1 := r.step s o
    have l := kn_le (K := X.K) (A := A) (E := D) (Fr.step r s o) o
    cases c with
    | true => exact ⟨T, A, O, r1, PM.mono (fun p => l.rt p) h⟩
    | false => exact ⟨T, A, O, r1, mon_T _ _ l h⟩
theorem VT.if2 {x y : m D} (hc : VP X ρ c t) (h1 : VT X Γ ρ a x) (h2 : VT X Γ ρ b y) : VT X Γ ρ (.If c a b pos :: rest) (t >>= fun c => if c = true then x else y) :=
  imSs (pss_cons (ps_if hc h1 h2) (u := tNever) pss_never) fun D σ H ⟨T, A, O, r, w⟩ => by
    have w := run_ite.mp w
    refine ⟨T, A, r.wdA, r.all, PM.mono (fun c h H' s o => ?_) w⟩
    have r1 := r.step s o
    have l := kn_le (K := X.K) (A := A) (E := D) (Fr.step r s o) o
    cases c with
    | true => exact ⟨T, A, O, r1, PM.mono (fun p => l.rt p) h⟩
    | false => exact ⟨T, A, O, r1, PM.mono (fun p => l.rt p) h⟩
/-- a block that never falls through, as VO -/
def OutN (o : Out α) : Prop := match o with | .nx _ => False | _ => True
theorem VO.ifE {E : α → Rh} {x : m (Out α)} {y : m (Out α)} (hc : VP X ρ c t) (h1 : VO X Γ ρ a E x) (hx : ∀ K, PM.run x K → PM.run x fun o => K o ∧ OutN o) (h2 : VO X Γ ρ rest E y) : VO X Γ ρ (.If c a [] pos :: rest) E (t >>= fun c => if c = true then x else y) :=
  imSs (pss_cons (ps_if hc h1 pss_nil) h2) fun D σ H ⟨T, A, O, r, w⟩ => by
    have w := run_ite.mp w
    refine ⟨T, A, r.wdA, r.all, PM.mono (fun c h H' s o => ?_) w⟩
    have r1 := r.step s o
    have l := kn_le (K := X.K) (A := A) (E := D) (Fr.step r s o) o
    cases c with
    | true =>
      refine ⟨T, A, O, r1, PM.mono (fun o q => ?_) (hx _ h)⟩
      obtain ⟨q, n⟩ := q
      have q := Kn.le.out l q
      cases o with
      | nx a => exact n.elim
      | rt v => exact q
      | bk a => exact q
      | ct a => exact q
    | false => exact ⟨T, A, O, r1, mon_O _ _ l h⟩
theorem VO.if2 {E : α → Rh} {x y : m (Out α)} (hc : VP X ρ c t) (h1 : VO X Γ ρ a E x) (hx : ∀ K, PM.run x K → PM.run x fun o => K o ∧ OutN o) (h2 : VO X Γ ρ b E y) (hy : ∀ K, PM.run y K → PM.run y fun o => K o ∧ OutN o) : VO X Γ ρ (.If c a b pos :: rest) E (t >>= fun c => if c = true then x else y) :=
  imSs (pss_cons (ps_if hc h1 h2) (u := tNever) pss_never) fun D σ H ⟨T, A, O, r, w⟩ => by
    have w := run_ite.mp w
    refine ⟨T, A, r.wdA, r.all, PM.mono (fun c h H' s o => ?_) w⟩
    have r1 := r.step s o
    have l := kn_le (K := X.K) (A := A) (E := D) (Fr.step r s o) o
    cases c with
    | true =>
      refine ⟨T, A, O, r1, PM.mono (fun o q => ?_) (hx _ h)⟩
      obtain ⟨q, n⟩ := q
      have q := Kn.le.out l q
      cases o with
      | nx a => exact n.elim
      | rt v => exact q
      | bk a => exact q
      | ct a => exact q
    | false =>
      refine ⟨T, A, O, r1, PM.mono (fun o q => ?_) (hy _ h)⟩
      obtain ⟨q, n⟩ := q
      have q := Kn.le.out l q
      cases o with
      | nx a => exact n.elim
      | rt v => exact q
      | bk a => exact q
      | ct a => exact q
theorem outN_rt {x : m D} (K : Out α → Prop) (h : PM.run (x >>= fun v => pure (Out.rt v)) K) : PM.run (x >>= fun v => pure (Out.rt v : Out α)) fun o => K o ∧ OutN o := by
  rw [PM.run_bind] at h ⊢
  refine PM.mono (fun v h => ?_) h
  rw [PM.run_pure] at h ⊢
  exact ⟨h, trivial⟩
theorem outN_ct {a : α} (K : Out α → Prop) (h : PM.run (pure (Out.ct a) : m (Out α)) K) : PM.run (pure (Out.ct a) : m (Out α)) fun o => K o ∧ OutN o := by
  rw [PM.run_pure] at h ⊢; exact ⟨h, trivial⟩
theorem outN_bk {a : α} (K : Out α → Prop) (h : PM.run (pure (Out.bk a) : m (Out α)) K) : PM.run (pure (Out.bk a) : m (Out α)) fun o => K o ∧ OutN o := by
  rw [PM.run_pure] at h ⊢; exact ⟨h, trivial⟩
theorem outN_bind {x : m β} {f : β → m (Out α)} (hf : ∀ b K, PM.run (f b) K → PM.run (f b) fun o => K o ∧ OutN o) (K : Out α → Prop) (h : PM.run (x >>= f) K) : PM.run (x >>= f) fun o => K o ∧ OutN o := by
  rw [PM.run_bind] at h ⊢
  exact PM.mono (fun b h => hf b _ h) h
/-- a block that falls through, where one that may leave is asked for -/
theorem VO.ofB {E : α → Rh} {x : m α} {st : List Stmt} (h : VB X Γ ρ st E x) : VO X Γ ρ st E (x >>= fun a => pure (.nx a)) := imSs h fun D σ H ⟨T, A, O, r, w⟩ => ⟨T, A, O, r, by
  have w := (PM.run_bind _ _ _).mp w
  exact PM.mono (fun a h => by rw [PM.run_pure] at h; exact h) w⟩
end
end Qv

namespace Qv
open PySem PySem.Spec PyProof.Rows L2
/-! ## loops -/
/-- what a for of a def walks -/
def tIH {m : Type → Type} [PM m] (K : PySem.W.Frag) (Γ : List Kd) (ρ : Rh) (x : m (List D)) : TI := fun σ H R => ∃ T A O, Rl K T A Γ O ρ σ H ∧ PM.run x fun ps => ∀ J H', Step T H H' → T.ok H' → ItOk K T (AT A O) J ps H' → R J H'
section
variable {m : Type → Type} [PM m] {α β : Type} {X : Cx} {Γ Γ' : List Kd} {ρ : Rh} {i : Nat} {body rest : List Stmt} {tg iter a b e : Expr} {es : List Expr} {it : m (List D)} {xs : m (List D)} {pos : Pos}
abbrev VIH (X : Cx) (Γ : List Kd) (ρ : Rh) (tg e : Expr) (x : m (List D)) : Prop := PI X tg e (tIH X.K Γ ρ x)
theorem VIH.hid (h : VI X (hide Γ ρ) tg e it) : VIH X Γ ρ tg e it := imI h fun σ H R ⟨T, A, O, r, q⟩ => ⟨T, AT A O, r.wd, r.hid, q⟩
theorem VIH.range1 {p : Pos} (hm : X.mg "range" = none) (ha : VA X ρ [a] xs) (hg : Gl X "range" := by rfl) (hs : starEach [a] X.env = [(false, eval a X.env)] := by rfl) : VIH X Γ ρ tg (.Call (.Name "range" p) [a] [] pos) (xs >>= fun l => PM.lift (rng1L l)) :=
  imI (pi_range1 hg hm ha.pa hs) fun σ H R ⟨T, A, O, r, q⟩ => by
    rw [PM.run_bind] at q
    refine ⟨T, A, r.wdA, r.all, PM.mono (fun l q vs H1 s1 o1 r1 => ?_) q⟩
    rw [PM.run_lift] at q
    obtain ⟨ps, e1, q⟩ := q
    match l, e1 with
    | [.int n], e1 =>
      obtain ⟨v, rfl, rv⟩ := reps1 r1
      cases rv
      obtain ⟨h, e1⟩ := ifs e1
      subst e1
      simp only [okR, Bool.and_eq_true, decide_eq_true_eq] at h
      exact ⟨n, rfl, h.1, h.2, q _ _ s1 o1 itRng⟩
theorem VIH.range2 {p : Pos} (hm : X.mg "range" = none) (ha : VA X ρ [a, b] xs) (hg : Gl X "range" := by rfl) (hs : starEach [a, b] X.env = [(false, eval a X.env), (false, eval b X.env)] := by rfl) (hs2 : starEach [b] X.env = [(false, eval b X.env)] := by rfl) : VIH X Γ ρ tg (.Call (.Name "range" p) [a, b] [] pos) (xs >>= fun l => PM.lift (rng2L l)) :=
  imI (pi_range2 hg hm ha.pa hs hs2) fun σ H R ⟨T, A, O, r, q⟩ => by
    rw [PM.run_bind] at q
    refine ⟨T, A, r.wdA, r.all, PM.mono (fun l q vs H1 s1 o1 r1 => ?_) q⟩
    rw [PM.run_lift] at q
    obtain ⟨ps, e1, q⟩ := q
    match l, e1 with
    | [.int n, .int k], e1 =>
      obtain ⟨v, u, rfl, rv, ru⟩ := reps2 r1
      cases rv
      cases ru
      obtain ⟨h, e1⟩ := ifs e1
      subst e1
      simp only [okR, Bool.and_eq_true, decide_eq_true_eq] at h
      exact ⟨n, k, rfl, ⟨h.1.1, h.1.2, h.2.1, h.2.2⟩, q _ _ s1 o1 itRng⟩
/-- at turn i -/
structure LI (K : PySem.W.Frag) (T : Tk) (A : Addr → Prop) (Γ : List Kd) (O : Nat → Option Addr) (n : Nat) (σ1 : L2.St) (H1 : Hp) (E : α → Rh) (G : Nat → α → Prop) (i k : Nat) (σ : L2.St) (H : Hp) : Prop where
  hk : k = n - i
  hi : i ≤ n
  dn : ∃ a O', Rl K T A Γ O' (E a) σ H ∧ Fr T Γ O O' σ1 σ H1 H ∧ G i a
/-- what stands, of the walked things -/
theorem li_item {K : PySem.W.Frag} {T : Tk} {A : Addr → Prop} {O O' : Nat → Option Addr} {σ1 σ : L2.St} {H1 H : Hp} {J : It} {ps : List D} {ρ1 ρ2 : Rh} {j : Nat} (r1 : Rl K T A Γ O ρ1 σ1 H1) (hJ : ItOk K T (AT A O) J ps H1) (r : Rl K T A Γ O' ρ2 σ H) (f : Fr T Γ O O' σ1 σ H1 H) :
    (∀ p, ps[j]? = some p → J.go j H ∧ ∀ x H', J.yld j H x H' → (∀ a o, H a = some o → H' a = some o) ∧ T.ok H' ∧ Rep K T (AT A O') H' x p) ∧ (ps.length ≤ j → J.stop j H) := by
  have hI := hJ (fun a => AT A O a ∨ AT A O' a) (fun a q => q.elim .inl fun q => q.elim (fun z => .inl (.inl z)) fun ⟨k, z⟩ => (f.ne k a z).elim (fun ⟨l, y⟩ => .inl (.inr ⟨l, y⟩)) .inr) j H
    ⟨r.wd.ok, fun a q => .inl (.inl (r.sub a q)), fun a q => q.elim (fun q => q.elim (fun z => r.wd.mu a (.inl z)) fun ⟨k, z⟩ => f.mu k a z) fun q => r.wd.mu a q⟩
    (fun a o e n => f.st a o e (fun q => n (.inl (.inl (r.sub a q)))) fun k q => n (.inl (.inr ⟨k, q⟩)))
  refine ⟨fun p e => ?_, hI.2⟩
  obtain ⟨h1, h2⟩ := hI.1 p e
  refine ⟨h1, fun x H' y => ?_⟩
  obtain ⟨k1, k2, k3⟩ := h2 x H' y
  exact ⟨k1, k2, k3.weak fun b => .inr⟩
/-- for t in it: .. -/
theorem SB.for {pt : Pt} {E : α → Rh} {a0 : α} {f : α → D → m α} {g : α → List D → m α} (hi : VIH X Γ ρ tg iter it) (hg : VG X tg pt)
    (hf : ∀ s p K, PM.run (f s p) K → ∃ l, pt.flat p = some l ∧ PM.run (g s l) K) (h0 : Sub (E a0) ρ) (hb : ∀ s l, l.length = pt.slots.length → VB X Γ (rPuts (E s) pt.slots l) body E (g s l)) (hk : ∀ i ∈ pt.slots, kAt Γ i = .sh := by decide)
    (hp : PassesOwn (model X.prog X.w) X.A X.env X.xe := by exact PassesOwn.never) (hc : X.calm = true := by rfl) (hs : ∀ x, foldedSetIterable iter X.env x = pure x := by intro _; rfl) :
    SB X Γ ρ (.For tg iter body [] pos) E (it >>= fun ps => forB f a0 ps) :=
  imS (ps_for hp hc hi hg (PSs.mk (t := fun D σ H => ∃ s l, l.length = pt.slots.length ∧ tS X.K Γ (rPuts (E s) pt.slots l) (WB E (g s l)) D σ H) fun pins s σ H D I ⟨st, l, hl, q⟩ => (hb st l hl).run pins s σ H D I q) hs) fun D σ H ⟨T, A, O, r, w⟩ => by
    have w := (PM.run_bind _ _ _).mp w
    refine ⟨T, A, O, r, PM.mono (fun ps w J H1 s1 o1 hJ => ?_) w⟩
    have r1 := r.step s1 o1
    have f1 := Fr.step (σ := σ) r s1 o1
    refine ⟨LI X.K T A Γ O ps.length σ H1 E fun i a => PM.run (forB f a (ps.drop i)) fun a => (kn X.K T A Γ O σ H D).nx (E a), ⟨ps.length, by simp, Nat.zero_le _, a0, O, r1.less h0, .refl r1, by rw [List.drop_zero]; exact w⟩, fun i k σ2 H2 L => ?_⟩
    obtain ⟨a, O2, r2, f2, w2⟩ := L.dn
    obtain ⟨it1, it2⟩ := li_item (j := i) r1 hJ r2 f2
    by_cases hlt : i < ps.length
    · obtain ⟨p, ep, ed⟩ := drop_get hlt
      obtain ⟨hgo, hy⟩ := it1 p ep
      refine .inr ⟨hgo, fun σ' H' => LI X.K T A Γ O ps.length σ H1 E (fun i a => PM.run (forB f a (ps.drop i)) fun a => (kn X.K T A Γ O σ H D).nx (E a)) (i + 1) (ps.length - (i + 1)) σ' H', fun σ' H' n => ⟨_, by have := L.hk; omega, n⟩, fun x H3 y => ?_⟩
      obtain ⟨keep3, ok3, rp3⟩ := hy x H3 y
      have s23 : Step T H2 H3 := fun a o e _ => keep3 a o e
      have r3 := r2.step s23 ok3
      have f3 := f2.trans (Fr.step (σ := σ2) r2 s23 ok3) r2.wd.ok ok3
      rw [ed] at w2
      have w2 := (PM.run_bind _ _ _).mp (show PM.run (f a p >>= fun s' => forB f s' (ps.drop (i + 1))) _ from w2)
      obtain ⟨l, el, w2⟩ := hf a p _ w2
      refine ⟨T, AT A O2, p, l, r3.wd, rp3, el, fun us hus => ⟨a, l, flat_len _ _ _ el, T, A, O2, r3.puts hus hk, PM.mono (fun a' w' σ4 H4 O4 r4 f4 => ⟨rfl, hlt, a', O4, r4, f3.trans ((Fr.puts r3 hk).trans f4 ok3 r4.wd.ok) ok3 r4.wd.ok, w'⟩) w2⟩⟩
    · have e0 : i = ps.length := Nat.le_antisymm L.hi (Nat.le_of_not_lt hlt)
      refine .inl ⟨it2 (Nat.le_of_not_lt hlt), ?_⟩
      rw [e0, List.drop_length] at w2
      have w2 := (PM.run_pure _ _).mp w2
      exact w2 _ _ _ r2 (f1.trans f2 o1 r2.wd.ok)
theorem SO.for {pt : Pt} {E : α → Rh} {a0 : α} {f : α → D → m (Out α)} {g : α → List D → m (Out α)} (hi : VIH X Γ ρ tg iter it) (hg : VG X tg pt)
    (hf : ∀ s p K, PM.run (f s p) K → ∃ l, pt.flat p = some l ∧ PM.run (g s l) K) (h0 : Sub (E a0) ρ) (hb : ∀ s l, l.length = pt.slots.length → VO X Γ (rPuts (E s) pt.slots l) body E (g s l)) (hk : ∀ i ∈ pt.slots, kAt Γ i = .sh := by decide)
    (hp : PassesOwn (model X.prog X.w) X.A X.env X.xe := by exact PassesOwn.never) (hc : X.calm = true := by rfl) (hs : ∀ x, foldedSetIterable iter X.env x = pure x := by intro _; rfl) :
    SO X Γ ρ (.For tg iter body [] pos) E (it >>= fun ps => forO f a0 ps) :=
  imS (ps_for hp hc hi hg (PSs.mk (t := fun D σ H => ∃ s l, l.length = pt.slots.length ∧ tS X.K Γ (rPuts (E s) pt.slots l) (WO E (g s l)) D σ H) fun pins s σ H D I ⟨st, l, hl, q⟩ => (hb st l hl).run pins s σ H D I q) hs) fun D σ H ⟨T, A, O, r, w⟩ => by
    have w := (PM.run_bind _ _ _).mp w
    refine ⟨T, A, O, r, PM.mono (fun ps w J H1 s1 o1 hJ => ?_) w⟩
    have r1 := r.step s1 o1
    have f1 := Fr.step (σ := σ) r s1 o1
    refine ⟨LI X.K T A Γ O ps.length σ H1 E fun i a => PM.run (forO f a (ps.drop i)) ((kn X.K T A Γ O σ H D).out E), ⟨ps.length, by simp, Nat.zero_le _, a0, O, r1.less h0, .refl r1, by rw [List.drop_zero]; exact w⟩, fun i k σ2 H2 L => ?_⟩
    obtain ⟨a, O2, r2, f2, w2⟩ := L.dn
    obtain ⟨it1, it2⟩ := li_item (j := i) r1 hJ r2 f2
    by_cases hlt : i < ps.length
    · obtain ⟨p, ep, ed⟩ := drop_get hlt
      obtain ⟨hgo, hy⟩ := it1 p ep
      refine .inr ⟨hgo, fun σ' H' => LI X.K T A Γ O ps.length σ H1 E (fun i a => PM.run (forO f a (ps.drop i)) ((kn X.K T A Γ O σ H D).out E)) (i + 1) (ps.length - (i + 1)) σ' H', fun σ' H' n => ⟨_, by have := L.hk; omega, n⟩, fun x H3 y => ?_⟩
      obtain ⟨keep3, ok3, rp3⟩ := hy x H3 y
      have s23 : Step T H2 H3 := fun a o e _ => keep3 a o e
      have r3 := r2.step s23 ok3
      have f3 := f2.trans (Fr.step (σ := σ2) r2 s23 ok3) r2.wd.ok ok3
      rw [ed] at w2
      have w2 := (PM.run_bind _ _ _).mp (show PM.run (f a p >>= fun o => match o with
        | .nx s' => forO f s' (ps.drop (i + 1))
        | .ct s' => forO f s' (ps.drop (i + 1))
        | .bk s' => pure (.nx s')
        | .rt v => pure (.rt v)) _ from w2)
      obtain ⟨l, el, w2⟩ := hf a p _ w2
      refine ⟨T, AT A O2, p, l, r3.wd, rp3, el, fun us hus => ⟨a, l, flat_len _ _ _ el, T, A, O2, r3.puts hus hk, PM.mono (fun o w' => ?_) w2⟩⟩
      have fa := f3.trans (Fr.puts r3 (us := us) hk) ok3 ok3
      have fb := f1.trans fa o1 ok3
      cases o with
      | nx a' => exact fun σ4 H4 O4 r4 f4 => ⟨rfl, hlt, a', O4, r4, fa.trans f4 ok3 r4.wd.ok, w'⟩
      | ct a' => exact fun σ4 H4 O4 r4 f4 => ⟨rfl, hlt, a', O4, r4, fa.trans f4 ok3 r4.wd.ok, w'⟩
      | bk a' =>
        have w' := (PM.run_pure _ _).mp w'
        exact fun σ4 H4 O4 r4 f4 => w' _ _ _ r4 (fb.trans f4 ok3 r4.wd.ok)
      | rt v =>
        have w' := (PM.run_pure _ _).mp w'
        exact (kn_le (K := X.K) (A := A) (E := D) fb ok3).rt v w'
    · have e0 : i = ps.length := Nat.le_antisymm L.hi (Nat.le_of_not_lt hlt)
      refine .inl ⟨it2 (Nat.le_of_not_lt hlt), ?_⟩
      rw [e0, List.drop_length] at w2
      have w2 := (PM.run_pure _ _).mp w2
      exact w2 _ _ _ r2 (f1.trans f2 o1 r2.wd.ok)
/-- the turn's two readings -/
theorem turn1 {γ : Type} {i : Nat} {f : α → D → m γ} (s : α) (p : D) (K : γ → Prop) (h : PM.run (f s p) K) : ∃ l, (Pt.n i).flat p = some l ∧ PM.run (un1 (f s) l) K := ⟨[p], rfl, h⟩
theorem turnP {γ : Type} {pt : Pt} {g : α → List D → m γ} (s : α) (p : D) (K : γ → Prop) (h : PM.run (PM.lift (pt.flat p) >>= g s) K) : ∃ l, pt.flat p = some l ∧ PM.run (g s l) K := by
  rw [PM.run_bind, PM.run_lift] at h
  exact h
theorem len1 {P : List D → Prop} (h : ∀ a, P [a]) : ∀ l, l.length = 1 → P l := fun l e => match l, e with | [a], _ => h a
theorem len2 {P : List D → Prop} (h : ∀ a b, P [a, b]) : ∀ l, l.length = 2 → P l := fun l e => match l, e with | [a, b], _ => h a b
theorem len3 {P : List D → Prop} (h : ∀ a b c, P [a, b, c]) : ∀ l, l.length = 3 → P l := fun l e => match l, e with | [a, b, c], _ => h a b c
theorem len4 {P : List D → Prop} (h : ∀ a b c d, P [a, b, c, d]) : ∀ l, l.length = 4 → P l := fun l e => match l, e with | [a, b, c, d], _ => h a b c d
theorem len5 {P : List D → Prop} (h : ∀ a b c d e, P [a, b, c, d, e]) : ∀ l, l.length = 5 → P l := fun l e => match l, e with | [a, b, c, d, e], _ => h a b c d e
theorem len6 {P : List D → Prop} (h : ∀ a b c d e f, P [a, b, c, d, e, f]) : ∀ l, l.length = 6 → P l := fun l e => match l, e with | [a, b, c, d, e, f], _ => h a b c d e f
/-! ### while -/
def WhI (K : PySem.W.Frag) (T : Tk) (A : Addr → Prop) (Γ : List Kd) (O : Nat → Option Addr) (σ1 : L2.St) (H1 : Hp) (E : α → Rh) (G : Nat → α → Prop) (k : Nat) (σ : L2.St) (H : Hp) : Prop := ∃ a O', Rl K T A Γ O' (E a) σ H ∧ Fr T Γ O O' σ1 σ H1 H ∧ G k a
theorem SB.wh {c : Expr} {E : α → Rh} {a0 : α} {ct : α → m Bool} {f : α → m α} {fu : Nat} (hc : ∀ a, VP X (E a) c (ct a)) (hb : ∀ a, VB X Γ (E a) body E (f a)) (h0 : Sub (E a0) ρ) (hp : PassesOwn (model X.prog X.w) X.A X.env X.xe := by exact PassesOwn.never) :
    SB X Γ ρ (.While c body [] pos) E (whB ct f fu a0) :=
  imS (ps_while hp (PT.mk (t := fun σ H Q => ∃ a, tP X.K (E a) (ct a) σ H Q) fun pins s σ H Q I ⟨a, q⟩ => (hc a).run pins s σ H Q I q) (PSs.mk (t := fun D σ H => ∃ a, tS X.K Γ (E a) (WB E (f a)) D σ H) fun pins s σ H D I ⟨a, q⟩ => (hb a).run pins s σ H D I q)) fun D σ H ⟨T, A, O, r, w⟩ => by
    refine ⟨WhI X.K T A Γ O σ H E fun n a => PM.run (whB ct f n a) fun a => (kn X.K T A Γ O σ H D).nx (E a), ⟨fu, a0, O, r.less h0, .refl r, w⟩, fun n σ2 H2 ⟨a, O2, r2, f2, w2⟩ => ?_⟩
    cases n with
    | zero => obtain ⟨_, e, _⟩ := (PM.run_lift _ _).mp w2; cases e
    | succ n =>
      have w2 := run_ite.mp (show PM.run (ct a >>= fun b => if b = true then f a >>= whB ct f n else pure a) _ from w2)
      refine ⟨a, T, A, r2.wdA, r2.all, PM.mono (fun b w3 H3 s3 o3 => ?_) w2⟩
      have r3 := r2.step s3 o3
      have f3 := f2.trans (Fr.step (σ := σ2) r2 s3 o3) r2.wd.ok o3
      cases b with
      | true =>
        dsimp only
        rw [if_pos rfl] at w3 ⊢
        have w3 := (PM.run_bind _ _ _).mp w3
        exact ⟨WhI X.K T A Γ O σ H E (fun n a => PM.run (whB ct f n a) fun a => (kn X.K T A Γ O σ H D).nx (E a)) n, fun σ' H' q => ⟨n, Nat.lt_succ_self n, q⟩, a, T, A, O2, r3, PM.mono (fun a' w' σ4 H4 O4 r4 f4 => ⟨a', O4, r4, f3.trans f4 o3 r4.wd.ok, w'⟩) w3⟩
      | false =>
        dsimp only
        rw [if_neg Bool.false_ne_true] at w3 ⊢
        have w3 := (PM.run_pure _ _).mp w3
        exact w3 _ _ _ r3 f3
theorem SO.wh {c : Expr} {E : α → Rh} {a0 : α} {ct : α → m Bool} {f : α → m (Out α)} {fu : Nat} (hc : ∀ a, VP X (E a) c (ct a)) (hb : ∀ a, VO X Γ (E a) body E (f a)) (h0 : Sub (E a0) ρ) (hp : PassesOwn (model X.prog X.w) X.A X.env X.xe := by exact PassesOwn.never) :
    SO X Γ ρ (.While c body [] pos) E (whO ct f fu a0) :=
  imS (ps_while hp (PT.mk (t := fun σ H Q => ∃ a, tP X.K (E a) (ct a) σ H Q) fun pins s σ H Q I ⟨a, q⟩ => (hc a).run pins s σ H Q I q) (PSs.mk (t := fun D σ H => ∃ a, tS X.K Γ (E a) (WO E (f a)) D σ H) fun pins s σ H D I ⟨a, q⟩ => (hb a).run pins s σ H D I q)) fun D σ H ⟨T, A, O, r, w⟩ => by
    refine ⟨WhI X.K T A Γ O σ H E fun n a => PM.run (whO ct f n a) ((kn X.K T A Γ O σ H D).out E), ⟨fu, a0, O, r.less h0, .refl r, w⟩, fun n σ2 H2 ⟨a, O2, r2, f2, w2⟩ => ?_⟩
    cases n with
    | zero => obtain ⟨_, e, _⟩ := (PM.run_lift _ _).mp w2; cases e
    | succ n =>
      have w2 := run_ite.mp (show PM.run (ct a >>= fun b => if b = true then f a >>= fun o => (match o with
        | .nx s' => whO ct f n s'
        | .ct s' => whO ct f n s'
        | .bk s' => pure (.nx s')
        | .rt v => pure (.rt v)) else pure (.nx a)) _ from w2)
      refine ⟨a, T, A, r2.wdA, r2.all, PM.mono (fun b w3 H3 s3 o3 => ?_) w2⟩
      have r3 := r2.step s3 o3
      have f3 := f2.trans (Fr.step (σ := σ2) r2 s3 o3) r2.wd.ok o3
      cases b with
      | true =>
        dsimp only
        rw [if_pos rfl] at w3 ⊢
        have w3 := (PM.run_bind _ _ _).mp w3
        refine ⟨WhI X.K T A Γ O σ H E (fun n a => PM.run (whO ct f n a) ((kn X.K T A Γ O σ H D).out E)) n, fun σ' H' q => ⟨n, Nat.lt_succ_self n, q⟩, a, T, A, O2, r3, PM.mono (fun o w' => ?_) w3⟩
        cases o with
        | nx a' => exact fun σ4 H4 O4 r4 f4 => ⟨a', O4, r4, f3.trans f4 o3 r4.wd.ok, w'⟩
        | ct a' => exact fun σ4 H4 O4 r4 f4 => ⟨a', O4, r4, f3.trans f4 o3 r4.wd.ok, w'⟩
        | bk a' =>
          have w' := (PM.run_pure _ _).mp w'
          exact fun σ4 H4 O4 r4 f4 => w' _ _ _ r4 (f3.trans f4 o3 r4.wd.ok)
        | rt v =>
          have w' := (PM.run_pure _ _).mp w'
          exact (kn_le (K := X.K) (A := A) (E := D) f3 o3).rt v w'
      | false =>
        dsimp only
        rw [if_neg Bool.false_ne_true] at w3 ⊢
        have w3 := (PM.run_pure _ _).mp w3
        exact w3 _ _ _ r3 f3
end
end Qv

namespace Qv
open PySem PySem.Spec PyProof.Rows L2
/-! ## a def, by its body -/
def startR (N : List Str) (ds : List D) : Rh := ds.map some ++ List.replicate (N.length - ds.length) none
theorem rAt_get : ∀ (ρ : Rh) (i : Nat) (p : D), rAt ρ i = some p → ρ[i]? = some (some p)
  | [], i, p, h => by cases h
  | x :: ρ, 0, p, h => by
    have h : x = some p := h
    rw [h]; rfl
  | x :: ρ, i + 1, p, h => rAt_get ρ i p h
theorem at_startR {N : List Str} {ds : List D} {i : Nat} {p : D} (h : rAt (startR N ds) i = some p) : ds[i]? = some p := by
  have h := rAt_get _ _ _ h
  unfold startR at h
  by_cases hi : i < ds.length
  · rw [List.getElem?_append_left (by simpa using hi), List.getElem?_map] at h
    cases e : ds[i]? with
    | none => rw [e] at h; cases h
    | some q => rw [e] at h; cases h; rfl
  · rw [List.getElem?_append_right (by simpa using hi), List.getElem?_replicate] at h
    split at h <;> cases h
section
variable {K : PySem.W.Frag} {T : Tk} {A : Addr → Prop} {H : Hp}
theorem start_at {N : List Str} {vs : List V} {i : Nat} {v : V} (h : vs[i]? = some v) : (L2.start N vs)[i]? = some (some v) := by
  unfold L2.start
  have hi : i < vs.length := (List.getElem?_eq_some_iff.mp h).1
  rw [List.getElem?_append_left (by simpa using hi), List.getElem?_map, h]
  rfl
theorem Rl.start0 {Γ : List Kd} {N : List Str} {vs : List V} {ds : List D} (w : Wd T A H) (r : Reps K T A H vs ds) (hΓ : ∀ i, i < ds.length → kAt Γ i ≠ .ow) : Rl K T A Γ (fun _ => none) (startR N ds) (L2.start N vs) H := by
  have hA : ∀ a, AT A (fun _ => none) a → A a := fun a q => q.elim id fun ⟨_, e⟩ => by cases e
  refine ⟨?_, ⟨w.ok, fun a h => .inl (w.sub a h), fun a h => w.mu a (hA a h)⟩, w.sub, fun i p h k => ?_, fun i p h k => ?_, fun i j a h => (nomatch h), fun i a h => (nomatch h)⟩
  · unfold startR L2.start
    simp [r.length]
  · obtain ⟨v, h1, h2⟩ := r.get (at_startR h)
    exact ⟨v, start_at h1, h2.weak hA⟩
  · have hi := (List.getElem?_eq_some_iff.mp (at_startR h)).1
    exact absurd k (hΓ i hi)
end
section
variable {m : Type → Type} [PM m] {P : Program} {w : World} {K : PySem.W.Frag} {mg : Str → Option Value} {base : Heap}
abbrev XF (P : Program) (w : World) (K : PySem.W.Frag) (mg : Str → Option Value) (base : Heap) (N : List Str) (x : Str) (sc : Scope) (f : Addr) (cdv : Value) (A : Around) (outer : List Env) (s : Shared) (H : Hp) (E : XK) : Cx := (cxOf CX0 P w K mg base N x sc f cdv A outer s H E).nox
theorem FC.mk' {x : Str} {st : Stmt} {f : Addr} {fd : FuncData} {N ps : List Str} {k : Nat} {C : List D → m D} (Γ : List Kd) (F : Fun K x x st f fd) (S : FnScope N ps (defScope st)) (hmg : mg x = some (.ref f))
    (hb : ∀ (kV doc pm : Value) (an : Option Addr) (cdv ct : Value) (us : List Value), us.length = ps.length → bindArgs (PySem.W.fnOf x x (defArgs st) (defBody st) (defScope st) .none kV doc pm an cdv ct) ⟨us, []⟩ = pure (ps.zip us))
    (hC : ∀ (ds : List D) (Kp : D → Prop), PM.run (C ds) Kp → ds.length = ps.length)
    (body : ∀ (cdv : Value) (A : Around) (outer : List Env) (s : Shared) (H : Hp) (E : XK), Room k (A.deeper (envOfC x (defScope st) s.heap.objs.size f cdv)) → ∀ ds : List D, ds.length = ps.length → VT (XF P w K mg base N x (defScope st) f cdv A outer s H E) Γ (startR N ds) (defBody st) (C ds))
    (hΓ : ∀ i, i < ps.length → kAt Γ i ≠ .ow := by decide) : FC P w K mg base (k + 1) x C := by
  refine ⟨f, fd, ps, F.ok S (fun vs H Q E h => ?_) (fun cdv A outer s H vs Q E hr h => ?_), hmg, F.kp, F.binds hb⟩
  · obtain ⟨T, A, ds, w0, r, h⟩ := h
    rw [r.length]; exact hC ds _ h
  · obtain ⟨T, A', ds, w0, r, h⟩ := h
    have hl := hC ds _ h
    exact ⟨_, body cdv A outer s H E hr ds hl, T, A', fun _ => none, Rl.start0 w0 r (by rw [hl]; exact hΓ), PM.mono (fun p h v H' s o r => h v H' ⟨fun a ob e n => s a ob e n (by intro i z; cases z), o, r⟩) h⟩
/-- nothing is promised -/
theorem FC.zero {x : Str} {st : Stmt} {f : Addr} {fd : FuncData} {N ps : List Str} {k : Nat} (F : Fun K x x st f fd) (S : FnScope N ps (defScope st)) (hmg : mg x = some (.ref f))
    (hb : ∀ (kV doc pm : Value) (an : Option Addr) (cdv ct : Value) (us : List Value), us.length = ps.length → bindArgs (PySem.W.fnOf x x (defArgs st) (defBody st) (defScope st) .none kV doc pm an cdv ct) ⟨us, []⟩ = pure (ps.zip us)) : FC (m := Option) P w K mg base (k + 1) x fun _ => none :=
  ⟨f, fd, ps, F.ok S (fun vs H Q E h => by obtain ⟨T, A, ds, w0, r, _, e, _⟩ := h; cases e) (fun cdv A outer s H vs Q E hr h => by obtain ⟨T, A, ds, w0, r, _, e, _⟩ := h; cases e), hmg, F.kp, F.binds hb⟩
theorem un1_len {f : D → m D} (ds : List D) (Kp : D → Prop) (h : PM.run (un1 f ds) Kp) : ds.length = 1 := by
  match ds, h with
  | [_], _ => rfl
  | [], h => obtain ⟨_, e, _⟩ := (PM.run_lift _ _).mp h; cases e
  | _ :: _ :: _, h => obtain ⟨_, e, _⟩ := (PM.run_lift _ _).mp h; cases e
theorem un2_len {f : D → D → m D} (ds : List D) (Kp : D → Prop) (h : PM.run (un2 f ds) Kp) : ds.length = 2 := by
  match ds, h with
  | [_, _], _ => rfl
  | [], h => obtain ⟨_, e, _⟩ := (PM.run_lift _ _).mp h; cases e
  | [_], h => obtain ⟨_, e, _⟩ := (PM.run_lift _ _).mp h; cases e
  | _ :: _ :: _ :: _, h => obtain ⟨_, e, _⟩ := (PM.run_lift _ _).mp h; cases e
theorem un3_len {f : D → D → D → m D} (ds : List D) (Kp : D → Prop) (h : PM.run (un3 f ds) Kp) : ds.length = 3 := by
  match ds, h with
  | [_, _, _], _ => rfl
  | [], h => obtain ⟨_, e, _⟩ := (PM.run_lift _ _).mp h; cases e
  | [_], h => obtain ⟨_, e, _⟩ := (PM.run_lift _ _).mp h; cases e
  | [_, _], h => obtain ⟨_, e, _⟩ := (PM.run_lift _ _).mp h; cases e
  | _ :: _ :: _ :: _ :: _, h => obtain ⟨_, e, _⟩ := (PM.run_lift _ _).mp h; cases e
theorem un4_len {f : D → D → D → D → m D} (ds : List D) (Kp : D → Prop) (h : PM.run (un4 f ds) Kp) : ds.length = 4 := by
  match ds, h with
  | [_, _, _, _], _ => rfl
  | [], h => obtain ⟨_, e, _⟩ := (PM.run_lift _ _).mp h; cases e
  | [_], h => obtain ⟨_, e, _⟩ := (PM.run_lift _ _).mp h; cases e
  | [_, _], h => obtain ⟨_, e, _⟩ := (PM.run_lift _ _).mp h; cases e
  | [_, _, _], h => obtain ⟨_, e, _⟩ := (PM.run_lift _ _).mp h; cases e
  | _ :: _ :: _ :: _ :: _ :: _, h => obtain ⟨_, e, _⟩ := (PM.run_lift _ _).mp h; cases e
theorem un5_len {f : D → D → D → D → D → m D} (ds : List D) (Kp : D → Prop) (h : PM.run (un5 f ds) Kp) : ds.length = 5 := by
  match ds, h with
  | [_, _, _, _, _], _ => rfl
  | [], h => obtain ⟨_, e, _⟩ := (PM.run_lift _ _).mp h; cases e
  | [_], h => obtain ⟨_, e, _⟩ := (PM.run_lift _ _).mp h; cases e
  | [_, _], h => obtain ⟨_, e, _⟩ := (PM.run_lift _ _).mp h; cases e
  | [_, _, _], h => obtain ⟨_, e, _⟩ := (PM.run_lift _ _).mp h; cases e
  | [_, _, _, _], h => obtain ⟨_, e, _⟩ := (PM.run_lift _ _).mp h; cases e
  | _ :: _ :: _ :: _ :: _ :: _ :: _, h => obtain ⟨_, e, _⟩ := (PM.run_lift _ _).mp h; cases e
/-- no parameters -/
def un0 (f : m D) : List D → m D | [] => f | _ => fail
theorem un0_len {f : m D} (ds : List D) (Kp : D → Prop) (h : PM.run (un0 f ds) Kp) : ds.length = 0 := by
  match ds, h with
  | [], _ => rfl
  | _ :: _, h => obtain ⟨_, e, _⟩ := (PM.run_lift _ _).mp h; cases e
theorem len0 {P : List D → Prop} (h : P []) : ∀ l, l.length = 0 → P l := fun l e => match l, e with | [], _ => h
end
end Qv

namespace Qv
open PySem PySem.Spec PyProof.Rows L2
/-! ## the same rules where parts are values already -/
section
variable {m : Type → Type} [PM m] {X : Cx} {Γ : List Kd} {ρ : Rh} {a b c e tg : Expr} {es : List Expr} {xa xb x : m D} {xs : m (List D)} {pos : Pos} {p q : D} {ds : List D} {α β : Type}
theorem VE.eqv {y : m D} (h : VE X ρ e x) (i : ∀ K, PM.run y K → PM.run x K) : VE X ρ e y := imE h fun σ H Q ⟨T, A, w, ev, q⟩ => ⟨T, A, w, ev, i _ q⟩
theorem VP.eqv {x y : m Bool} (h : VP X ρ e x) (i : ∀ K, PM.run y K → PM.run x K) : VP X ρ e y := imT h fun σ H Q ⟨T, A, w, ev, q⟩ => ⟨T, A, w, ev, i _ q⟩
theorem VH.eqv {y : m D} (h : VH X Γ ρ e x) (i : ∀ K, PM.run y K → PM.run x K) : VH X Γ ρ e y := imE h fun σ H Q ⟨T, A, O, w, q⟩ => ⟨T, A, O, w, i _ q⟩
theorem VN.eqv {y : m D} (h : VN X ρ e x) (i : ∀ K, PM.run y K → PM.run x K) : VN X ρ e y := imE h fun σ H Q ⟨T, A, w, ev, q⟩ => ⟨T, A, w, ev, i _ q⟩
theorem VI.eqv {x y : m (List D)} (h : VI X ρ tg e x) (i : ∀ K, PM.run y K → PM.run x K) : VI X ρ tg e y := imI h fun σ H Q ⟨T, A, w, ev, q⟩ => ⟨T, A, w, ev, i _ q⟩
theorem VIH.eqv {x y : m (List D)} (h : VIH X Γ ρ tg e x) (i : ∀ K, PM.run y K → PM.run x K) : VIH X Γ ρ tg e y := imI h fun σ H Q ⟨T, A, O, w, q⟩ => ⟨T, A, O, w, i _ q⟩
theorem rp {f : α → m β} {v : α} (K : β → Prop) (h : PM.run (f v) K) : PM.run (pure v >>= f) K := (PM.run_bind _ _ _).mpr ((PM.run_pure _ _).mpr h)
theorem rb {γ : Type} {y : m γ} {f g : γ → m β} (h : ∀ v K, PM.run (f v) K → PM.run (g v) K) (K : β → Prop) (q : PM.run (y >>= f) K) : PM.run (y >>= g) K := (PM.run_bind _ _ _).mpr (PM.mono (fun v => h v K) ((PM.run_bind _ _ _).mp q))
section
variable {op : Operator} {r : R2} {f : D → D → Option D}
theorem VE.op_pp (ho : OpR X (binaryOp op) r) (hr : OkR X.K f r) (ha : VE (m := m) X ρ a (pure p)) (hb : VE (m := m) X ρ b (pure q)) : VE (m := m) X ρ (.BinOp a op b pos) (PM.lift (f p q)) := VE.eqv (VE.op ho hr ha hb) fun K h => rp K (rp K h)
theorem VE.op_px (ho : OpR X (binaryOp op) r) (hr : OkR X.K f r) (ha : VE (m := m) X ρ a (pure p)) (hb : VE X ρ b xb) : VE X ρ (.BinOp a op b pos) (xb >>= fun q => PM.lift (f p q)) := VE.eqv (VE.op ho hr ha hb) fun K h => rp K h
theorem VE.op_xp (ho : OpR X (binaryOp op) r) (hr : OkR X.K f r) (ha : VE X ρ a xa) (hb : VE (m := m) X ρ b (pure q)) : VE X ρ (.BinOp a op b pos) (xa >>= fun p => PM.lift (f p q)) := VE.eqv (VE.op ho hr ha hb) (rb fun v K h => rp K h)
end
section
variable {op : CmpOp} {r : R2} {f : D → D → Option D}
theorem VE.cmp_pp (ho : OpR X (compareOp op) r) (hr : OkR X.K f r) (ha : VE (m := m) X ρ a (pure p)) (hb : VE (m := m) X ρ b (pure q)) (hm : behindInMarks op b = false) : VE (m := m) X ρ (.Compare a [op] [b] pos) (PM.lift (f p q)) := VE.eqv (VE.cmp ho hr ha hb hm) fun K h => rp K (rp K h)
theorem VE.cmp_px (ho : OpR X (compareOp op) r) (hr : OkR X.K f r) (ha : VE (m := m) X ρ a (pure p)) (hb : VE X ρ b xb) (hm : behindInMarks op b = false) : VE X ρ (.Compare a [op] [b] pos) (xb >>= fun q => PM.lift (f p q)) := VE.eqv (VE.cmp ho hr ha hb hm) fun K h => rp K h
theorem VE.cmp_xp (ho : OpR X (compareOp op) r) (hr : OkR X.K f r) (ha : VE X ρ a xa) (hb : VE (m := m) X ρ b (pure q)) (hm : behindInMarks op b = false) : VE X ρ (.Compare a [op] [b] pos) (xa >>= fun p => PM.lift (f p q)) := VE.eqv (VE.cmp ho hr ha hb hm) (rb fun v K h => rp K h)
theorem VP.cmp_pp (ho : OpR X (compareOp op) r) (hr : OkR X.K f r) (ha : VE (m := m) X ρ a (pure p)) (hb : VE (m := m) X ρ b (pure q)) (hm : behindInMarks op b = false) : VP (m := m) X ρ (.Compare a [op] [b] pos) (PM.lift ((f p q).bind dBool)) := VP.eqv (VP.cmp ho hr ha hb hm) fun K h => rp K (rp K h)
theorem VP.cmp_px (ho : OpR X (compareOp op) r) (hr : OkR X.K f r) (ha : VE (m := m) X ρ a (pure p)) (hb : VE X ρ b xb) (hm : behindInMarks op b = false) : VP X ρ (.Compare a [op] [b] pos) (xb >>= fun q => PM.lift ((f p q).bind dBool)) := VP.eqv (VP.cmp ho hr ha hb hm) fun K h => rp K h
theorem VP.cmp_xp (ho : OpR X (compareOp op) r) (hr : OkR X.K f r) (ha : VE X ρ a xa) (hb : VE (m := m) X ρ b (pure q)) (hm : behindInMarks op b = false) : VP X ρ (.Compare a [op] [b] pos) (xa >>= fun p => PM.lift ((f p q).bind dBool)) := VP.eqv (VP.cmp ho hr ha hb hm) (rb fun v K h => rp K h)
end
theorem VE.ix_pp (hu : X.A.units + 64 < cLine) (ha : VE (m := m) X ρ a (pure p)) (hb : VE (m := m) X ρ b (pure q)) (hs : PlainIx b := by exact fun _ _ => rfl) : VE (m := m) X ρ (.Subscript a b pos) (PM.lift (dIx p q)) := VE.eqv (VE.ix hu ha hb hs) fun K h => rp K (rp K h)
theorem VE.ix_px (hu : X.A.units + 64 < cLine) (ha : VE (m := m) X ρ a (pure p)) (hb : VE X ρ b xb) (hs : PlainIx b := by exact fun _ _ => rfl) : VE X ρ (.Subscript a b pos) (xb >>= fun q => PM.lift (dIx p q)) := VE.eqv (VE.ix hu ha hb hs) fun K h => rp K h
theorem VE.ix_xp (hu : X.A.units + 64 < cLine) (ha : VE X ρ a xa) (hb : VE (m := m) X ρ b (pure q)) (hs : PlainIx b := by exact fun _ _ => rfl) : VE X ρ (.Subscript a b pos) (xa >>= fun p => PM.lift (dIx p q)) := VE.eqv (VE.ix hu ha hb hs) (rb fun v K h => rp K h)
theorem VE.un_p {op : UnaryOp} {r : V → Hp → VK → Prop} {f : D → Option D} (ho : UnR X (unaryOp op) r) (hr : OkU X.K f r) (ha : VE (m := m) X ρ a (pure p)) : VE (m := m) X ρ (.UnaryOp op a pos) (PM.lift (f p)) := VE.eqv (VE.un ho hr ha) fun K h => rp K h
theorem VP.val_p (h : VE (m := m) X ρ e (pure p)) (he : ∀ whole, isTrue e X.env whole = (do let v ← whole; standAt e.pos; holding [v] (truthy v)) := by intro _; rfl) : VP (m := m) X ρ e (PM.lift (dBool p)) := VP.eqv (VP.val h he) fun K h => rp K h
theorem VP.tru_p (h : VE (m := m) X ρ e (pure p)) (he : ∀ whole, isTrue e X.env whole = (do let v ← whole; standAt e.pos; holding [v] (truthy v)) := by intro _; rfl) : VP (m := m) X ρ e (PM.lift (dTruth p)) := VP.eqv (VP.tru h he) fun K h => rp K h
theorem VP.w {x : m Bool} (h : VW X ρ e x) : VP X ρ e x := h.pt
/-! arguments -/
theorem VA.eqv {x y : m (List D)} (h : VA X ρ es x) (i : ∀ K, PM.run y K → PM.run x K) (j : ∀ K, PM.run x K → PM.run y K) : VA X ρ es y := ⟨imA h.pa fun σ H Q ⟨T, A, w, ev, q⟩ => ⟨T, A, w, ev, i _ q⟩, fun K q => j _ (h.ln K (i K q))⟩
theorem rp' {f : α → m β} {v : α} (K : β → Prop) (h : PM.run (pure v >>= f) K) : PM.run (f v) K := by
  rw [PM.run_bind, PM.run_pure] at h
  exact h
theorem VA.cons_px (ha : VE (m := m) X ρ e (pure p)) (hr : VA X ρ es xs) (hs : starEach (e :: es) X.env = (false, eval e X.env) :: starEach es X.env := by rfl) : VA X ρ (e :: es) (xs >>= fun l => pure (p :: l)) := VA.eqv (VA.cons ha hr hs) (fun K h => rp K h) fun K h => rp' (v := p) (f := fun a => xs >>= fun l => pure (a :: l)) K h
theorem VA.cons_xp (ha : VE X ρ e xa) (hr : VA (m := m) X ρ es (pure ds)) (hs : starEach (e :: es) X.env = (false, eval e X.env) :: starEach es X.env := by rfl) : VA X ρ (e :: es) (xa >>= fun p => pure (p :: ds)) := VA.eqv (VA.cons ha hr hs) (rb fun v K h => rp K h) (rb fun v K h => rp' (v := ds) (f := fun l => pure (v :: l)) K h)
/-! calls -/
section
variable {x : Str} {pn : Pos}
theorem VE.bi_p {id : String} {r : List V → Hp → VK → Prop} {f : List D → Option D} (hc : CallR X (.builtin id) r) (hk : OkC X.K f r) (hm : X.mg x = none) (hv : bootBuiltins x = some (.builtin id)) (ha : VA (m := m) X ρ (e :: es) (pure ds)) (hg : Gl X x := by rfl) (hn : x ≠ "__name__" := by decide) (hdb : (x == ("__debug__" : Str)) = false := by decide)
    (he : starEach (e :: es) X.env = (false, eval e X.env) :: starEach es X.env := by rfl) (hpl : (backTo pos (starEach es X.env)).any (·.1) = false := by rfl) : VE (m := m) X ρ (.Call (.Name x pn) (e :: es) [] pos) (PM.lift (f ds)) := VE.eqv (VE.bi hc hk hm hv ha hg hn hdb he hpl) fun K h => rp K h
theorem VE.ty_p {id : String} {r : List V → Hp → VK → Prop} {f : List D → Option D} (hc : CallR X (.type id) r) (hk : OkC X.K f r) (hm : X.mg x = none) (hv : bootBuiltins x = some (.type id)) (ha : VA (m := m) X ρ (e :: es) (pure ds)) (hg : Gl X x := by rfl) (hn : x ≠ "__name__" := by decide) (hdb : (x == ("__debug__" : Str)) = false := by decide)
    (he : starEach (e :: es) X.env = (false, eval e X.env) :: starEach es X.env := by rfl) (hpl : (backTo pos (starEach es X.env)).any (·.1) = false := by rfl) : VE (m := m) X ρ (.Call (.Name x pn) (e :: es) [] pos) (PM.lift (f ds)) := VE.eqv (VE.ty hc hk hm hv ha hg hn hdb he hpl) fun K h => rp K h
theorem VE.fun_p {id : String} {r : List V → Hp → VK → Prop} {f : List D → Option D} (hc : CallR X (.builtin id) r) (hk : OkC X.K f r) (hm : X.mg x = some (.builtin id)) (ha : VA (m := m) X ρ (e :: es) (pure ds)) (hg : Gl X x := by rfl) (hdb : (x == ("__debug__" : Str)) = false := by decide)
    (he : starEach (e :: es) X.env = (false, eval e X.env) :: starEach es X.env := by rfl) (hpl : (backTo pos (starEach es X.env)).any (·.1) = false := by rfl) : VE (m := m) X ρ (.Call (.Name x pn) (e :: es) [] pos) (PM.lift (f ds)) := VE.eqv (VE.fun hc hk hm ha hg hdb he hpl) fun K h => rp K h
theorem VE.call_p {k : Nat} {C : List D → Option D} (F : FC X.prog X.w X.K X.mg X.base k x C) (hr : Room k X.A) (ha : VA (m := m) X ρ (e :: es) (pure ds)) (hg : Gl X x := by rfl) (hdb : (x == ("__debug__" : Str)) = false := by decide)
    (he : starEach (e :: es) X.env = (false, eval e X.env) :: starEach es X.env := by rfl) (hpl : (backTo pos (starEach es X.env)).any (·.1) = false := by rfl) : VE (m := m) X ρ (.Call (.Name x pn) (e :: es) [] pos) (PM.lift (C ds)) := VE.eqv (VE.call F hr ha hg hdb he hpl) fun K h => rp K h
theorem VE.callP_p {k : Nat} {C : List D → PP D} (F : FC X.prog X.w X.K X.mg X.base k x C) (hr : Room k X.A) (ha : VA (m := PP) X ρ (e :: es) (pure ds)) (hg : Gl X x := by rfl) (hdb : (x == ("__debug__" : Str)) = false := by decide)
    (he : starEach (e :: es) X.env = (false, eval e X.env) :: starEach es X.env := by rfl) (hpl : (backTo pos (starEach es X.env)).any (·.1) = false := by rfl) : VE X ρ (.Call (.Name x pn) (e :: es) [] pos) (C ds) := VE.eqv (VE.callP F hr ha hg hdb he hpl) fun K h => rp (m := PP) K h
end
theorem VE.isi_p {T : String} {g : D → Bool} {p1 p2 : Pos} {x : Str} (hc : CallR X (.builtin "isinstance") (rIsP X.K (.ty T) g)) (hm : X.mg "isinstance" = none) (hmx : X.mg x = none) (hvx : bootBuiltins x = some (.type T)) (ha : VE (m := m) X ρ a (pure p)) (hg : Gl X "isinstance" := by rfl) (hgx : Gl X x := by rfl) (hn : x ≠ "__name__" := by decide) (hdb : (x == ("__debug__" : Str)) = false := by decide)
    (he : starEach [a, .Name x p2] X.env = (false, eval a X.env) :: starEach [.Name x p2] X.env := by rfl) (he2 : starEach [.Name x p2] X.env = (false, eval (.Name x p2) X.env) :: starEach [] X.env := by rfl) (hpl : (backTo pos (starEach [.Name x p2] X.env)).any (·.1) = false := by rfl) :
    VE (m := m) X ρ (.Call (.Name "isinstance" p1) [a, .Name x p2] [] pos) (PM.lift (plainB g p)) := VE.eqv (VE.isi hc hm hmx hvx ha hg hgx hn hdb he he2 hpl) fun K h => rp K h
/-! what is walked -/
theorem VI.any_p (h : VE (m := m) X ρ e (pure p)) : VI (m := m) X ρ tg e (PM.lift (dIter p)) := VI.eqv (VI.any h) fun K h => rp K h
theorem VI.range1_p {pn : Pos} (hm : X.mg "range" = none) (ha : VA (m := m) X ρ [a] (pure ds)) (hg : Gl X "range" := by rfl) (hs : starEach [a] X.env = [(false, eval a X.env)] := by rfl) : VI (m := m) X ρ tg (.Call (.Name "range" pn) [a] [] pos) (PM.lift (rng1L ds)) := VI.eqv (VI.range1 hm ha hg hs) fun K h => rp K h
theorem VI.range2_p {pn : Pos} (hm : X.mg "range" = none) (ha : VA (m := m) X ρ [a, b] (pure ds)) (hg : Gl X "range" := by rfl) (hs : starEach [a, b] X.env = [(false, eval a X.env), (false, eval b X.env)] := by rfl) (hs2 : starEach [b] X.env = [(false, eval b X.env)] := by rfl) : VI (m := m) X ρ tg (.Call (.Name "range" pn) [a, b] [] pos) (PM.lift (rng2L ds)) := VI.eqv (VI.range2 hm ha hg hs hs2) fun K h => rp K h
theorem VIH.range1_p {pn : Pos} (hm : X.mg "range" = none) (ha : VA (m := m) X ρ [a] (pure ds)) (hg : Gl X "range" := by rfl) (hs : starEach [a] X.env = [(false, eval a X.env)] := by rfl) : VIH (m := m) X Γ ρ tg (.Call (.Name "range" pn) [a] [] pos) (PM.lift (rng1L ds)) := VIH.eqv (VIH.range1 hm ha hg hs) fun K h => rp K h
theorem VIH.range2_p {pn : Pos} (hm : X.mg "range" = none) (ha : VA (m := m) X ρ [a, b] (pure ds)) (hg : Gl X "range" := by rfl) (hs : starEach [a, b] X.env = [(false, eval a X.env), (false, eval b X.env)] := by rfl) (hs2 : starEach [b] X.env = [(false, eval b X.env)] := by rfl) : VIH (m := m) X Γ ρ tg (.Call (.Name "range" pn) [a, b] [] pos) (PM.lift (rng2L ds)) := VIH.eqv (VIH.range2 hm ha hg hs hs2) fun K h => rp K h
/-! slices: the bounds -/
theorem VO_.some_p (h : VE (m := m) X ρ e (pure p)) : VO_ (m := m) X ρ (Option.some e) (PM.lift (dIntO p)) := imO (VO_.some h) fun σ H Q ⟨T, A, w, ev, q⟩ => ⟨T, A, w, ev, rp _ q⟩
/-! blocks -/
variable {rest : List Stmt} {s : Stmt}
theorem seqV {E : D → Rh} {W' : Kn → Prop} (h1 : SB (m := m) X Γ ρ s E (pure p)) (h2 : PSs X rest (tS X.K Γ (E p) W')) (mW : Mon W') : PSs X (s :: rest) (tS X.K Γ ρ W') :=
  seqB h1 (W := fun v k => v = p ∧ W' k) (fun v => ⟨fun pins s σ H D I ⟨T, A, O, r, e, w⟩ => h2.run pins s σ H D I ⟨T, A, O, by rw [← e]; exact r, w⟩⟩) (fun v k k' h q => ⟨q.1, mW _ _ h q.2⟩) fun k w => (PM.run_pure _ _).mpr ⟨rfl, w⟩
theorem VT.consV {E : D → Rh} {y : m D} (h1 : SB (m := m) X Γ ρ s E (pure p)) (h2 : VT X Γ (E p) rest y) : VT X Γ ρ (s :: rest) y := seqV h1 h2 mon_T
theorem VB.consV {E : D → Rh} {E2 : β → Rh} {y : m β} (h1 : SB (m := m) X Γ ρ s E (pure p)) (h2 : VB X Γ (E p) rest E2 y) : VB X Γ ρ (s :: rest) E2 y := seqV h1 h2 mon_B
theorem VO.consV {E : D → Rh} {E2 : β → Rh} {y : m (Out β)} (h1 : SB (m := m) X Γ ρ s E (pure p)) (h2 : VO X Γ (E p) rest E2 y) : VO X Γ ρ (s :: rest) E2 y := seqV h1 h2 mon_O
theorem VT.at {ρ' : Rh} {st : List Stmt} {x : m D} (h : VT X Γ ρ' st x) (e : ρ = ρ' := by rfl) : VT X Γ ρ st x := by rw [e]; exact h
theorem VB.at {ρ' : Rh} {st : List Stmt} {E : α → Rh} {x : m α} (h : VB X Γ ρ' st E x) (e : ρ = ρ' := by rfl) : VB X Γ ρ st E x := by rw [e]; exact h
theorem VO.at {ρ' : Rh} {st : List Stmt} {E : α → Rh} {x : m (Out α)} (h : VO X Γ ρ' st E x) (e : ρ = ρ' := by rfl) : VO X Γ ρ st E x := by rw [e]; exact h
theorem VE.at {ρ' : Rh} {x : m D} (h : VE X ρ' e x) (e' : ρ = ρ' := by rfl) : VE X ρ e x := by rw [e']; exact h
end
end Qv

namespace Qv
open PySem PySem.Spec PyProof.Rows L2
/-! ## comprehensions of two clauses -/
def sizeS (l : List D) : Option (List D) := if l.length ≤ 4000 then some l else none
section
variable {m : Type → Type} [PM m] {X : Cx} {ρ : Rh} {a b c e tg tg1 : Expr} {es : List Expr} {pos : Pos}
structure Mk2 (K : PySem.W.Frag) (T : Tk) (A : Addr → Prop) (H1 : Hp) (L : Addr) (n : Nat) (bd : Nat → Nat) (G : Nat → List D → Prop) (i k : Nat) (H : Hp) : Prop where
  hk : k = n - i
  hi : i ≤ n
  wd : Wd T (fun a => A a ∨ a = L) H
  st : Step T H1 H
  dn : ∃ acc ds, H L = some (.lst acc) ∧ acc.length ≤ bd i ∧ Reps K T (fun a => A a ∨ a = L) H acc ds ∧ G i ds
def turn2 (pt pt1 : Pt) (c : List D → m Bool) (it : List D → m (List D)) (c1 : List D → List D → m Bool) (x : List D → List D → m D) (p : D) : m (List D) :=
  PM.lift (pt.flat p) >>= fun l => c l >>= fun b => if b = true then it l >>= fun qs => PM.lift (sizeS qs) >>= fun qs => cmpD (turnM pt1 (c1 l) (x l)) qs else pure []
def tI' (K : PySem.W.Frag) (n : Nat) (ρ : List D → Rh) (x : List D → m (List D)) : TI := fun σ H R => ∃ l, l.length = n ∧ tI K (ρ l) (x l) σ H R
theorem pi_ex {n : Nat} {r : List D → Rh} {x : List D → m (List D)} {tg e : Expr} (h : ∀ l, l.length = n → VI X (r l) tg e (x l)) : PI X tg e (tI' X.K n r x) := ⟨fun pins s σ H R I ⟨l, hl, q⟩ => (h l hl).run pins s σ H R I q⟩
def tE2 (K : PySem.W.Frag) (n n1 : Nat) (ρ : List D → List D → Rh) (x : List D → List D → m D) : TE := fun σ H Q => ∃ l l1, l.length = n ∧ l1.length = n1 ∧ tE K (ρ l l1) (x l l1) σ H Q
def tP2 (K : PySem.W.Frag) (n n1 : Nat) (ρ : List D → List D → Rh) (x : List D → List D → m Bool) : TT := fun σ H Q => ∃ l l1, l.length = n ∧ l1.length = n1 ∧ tP K (ρ l l1) (x l l1) σ H Q
theorem pe_ex2 {n n1 : Nat} {r : List D → List D → Rh} {x : List D → List D → m D} (h : ∀ l l1, l.length = n → l1.length = n1 → VE X (r l l1) e (x l l1)) : PE X e (tE2 X.K n n1 r x) := ⟨fun pins s σ H Q I ⟨l, l1, hl, hl1, q⟩ => (h l l1 hl hl1).run pins s σ H Q I q⟩
theorem pts_ex2 {n n1 : Nat} {r : List D → List D → Rh} {x : List D → List D → m Bool} (h : ∀ l l1, l.length = n → l1.length = n1 → VT_ X (r l l1) es (x l l1)) : PTs X es (tP2 X.K n n1 r x) := ⟨fun pins s σ H Q I ⟨l, l1, hl, hl1, q⟩ => (h l l1 hl hl1).run pins s σ H Q I q⟩
structure Mk3 (K : PySem.W.Frag) (T : Tk) (A : Addr → Prop) (H1 H5 : Hp) (L : Addr) (n b0 : Nat) (G : Nat → List D → Prop) (i k : Nat) (H : Hp) : Prop where
  hk : k = n - i
  hi : i ≤ n
  wd : Wd T (fun a => A a ∨ a = L) H
  st : Step T H1 H
  sa : StA (fun a => A a ∨ a = L) H5 H
  dn : ∃ acc ds, H L = some (.lst acc) ∧ acc.length ≤ b0 + i ∧ Reps K T (fun a => A a ∨ a = L) H acc ds ∧ G i ds
theorem mk3_add {K : PySem.W.Frag} {T : Tk} {A : Addr → Prop} {H1 H5 H4 : Hp} {L : Addr} {n b0 : Nat} {G : Nat → List D → Prop} {i : Nat} {y : V} {d : D} {acc : List V} {ds : List D} (w1 : Wd T A H1) (nL : H1 L = none) (hi : i < n)
    (w4 : Wd T (fun a => A a ∨ a = L) H4) (s4 : Step T H1 H4) (sa : StA (fun a => A a ∨ a = L) H5 H4) (hl : acc.length ≤ b0 + i) (r4 : Reps K T (fun a => A a ∨ a = L) H4 acc ds) (ry : Rep K T (fun a => A a ∨ a = L) H4 y d)
    (q : G (i + 1) (ds ++ [d])) : Mk3 K T A H1 H5 L n b0 G (i + 1) (n - (i + 1)) (upd H4 L (.lst (acc ++ [y]))) := by
  have nS : ¬ T.S L := fun z => w1.new nL (w1.sub _ z)
  have keep : ∀ a, T.S a → upd H4 L (.lst (acc ++ [y])) a = H4 a := fun a z => upd_ne fun e => nS (e ▸ z)
  have st : StA (fun a => A a ∨ a = L) H4 (upd H4 L (.lst (acc ++ [y]))) := fun a o e z => by
    rw [upd_ne fun q => z (.inr q)]; exact e
  refine ⟨rfl, hi, ⟨T.keep w4.ok keep, fun a z => .inl (w1.sub a z), fun a z => ?_⟩, fun a o e z => ?_, sa.trans st, acc ++ [y], ds ++ [d], upd_same, by simp; omega, (r4.stA w4.mun st).append (.cons (ry.stA w4.mun st) .nil), q⟩
  · by_cases h : a = L
    · subst h; rw [upd_same]; trivial
    · rw [upd_ne h]; exact w4.mu a z
  · rw [upd_ne (ne_of_none e nL)]; exact s4 a o e z
theorem tLc2_read {K : PySem.W.Frag} {own : List (Str × Nat)} {pt pt1 : Pt} {it : m (List D)} {c : List D → m Bool} {it1 : List D → m (List D)} {c1 : List D → List D → m Bool} {x : List D → List D → m D} {σ : L2.St} {H : Hp} {Q : VK} (hsub : ∀ i ∈ pt.slots, i ∈ own.map (·.2))
    (h : tN K ρ (it >>= fun ps => PM.lift (sizeS ps) >>= fun ps => catD (turn2 pt pt1 c it1 c1 x) ps >>= fun ys => pure (.list ys)) σ H Q) :
    tLc2 (tI K ρ it) (tG K pt) (tP' K pt.slots.length (fun l => rPuts (rCut ρ (own.map (·.2))) pt.slots l) c) (tI' K pt.slots.length (fun l => rPuts (rCut ρ (own.map (·.2))) pt.slots l) it1) (tG K pt1)
      (tP2 K pt.slots.length pt1.slots.length (fun l l1 => rPuts (rCut (rPuts (rCut ρ (own.map (·.2))) pt.slots l) pt1.slots) pt1.slots l1) c1) (tE2 K pt.slots.length pt1.slots.length (fun l l1 => rPuts (rCut (rPuts (rCut ρ (own.map (·.2))) pt.slots l) pt1.slots) pt1.slots l1) x) (own.map (·.2)) pt1.slots σ H Q := by
  obtain ⟨T, A, w, ev, h⟩ := h
  rw [PM.run_bind] at h
  refine ⟨T, A, w, ev, PM.mono (fun ps h J H1 s1 o1 hJ L nL => ?_) h⟩
  rw [PM.run_bind, PM.run_lift] at h
  obtain ⟨ps', e, h⟩ := h
  obtain ⟨hz, e⟩ := ifs e
  subst e
  rw [PM.run_bind] at h
  have w1 := w.step s1 o1
  have ev1 := ev.step w s1
  have nS : ¬ T.S L := fun z => w1.new nL (w1.sub _ z)
  have hB : ∀ a, A a ∨ a = L → A a ∨ H1 a = none := fun a q => q.elim .inl fun e => .inr (e ▸ nL)
  have evB := ev1.ext hB
  let G : Nat → List D → Prop := fun i ds => PM.run (catD (turn2 pt pt1 c it1 c1 x) (ps.drop i)) fun ys => ∀ v H', PostN K T A H1 H' (.list (ds ++ ys)) v → Q (.ref v) H'
  have stA1 : ∀ {H2 : Hp}, Step T H1 H2 → StA (fun a => A a ∨ a = L) H1 H2 := fun s => (s.stA w1.sub).weak fun _ => .inl
  refine ⟨Mk2 K T A H1 L ps.length (fun i => 4000 * i) G, ⟨ps.length, ?_⟩, ?_⟩
  · refine ⟨by simp, Nat.zero_le _, ⟨(w1.laid nL).ok, fun a z => .inl (w1.sub a z), fun a z => ?_⟩, step_new nL, [], [], upd_same, Nat.le_refl _, .nil, ?_⟩
    · by_cases hq : a = L
      · subst hq; rw [upd_same]; trivial
      · rw [upd_ne hq]; exact w1.mu a (z.resolve_right hq)
    · show PM.run (catD _ (ps.drop 0)) _
      rw [List.drop_zero]
      refine PM.mono (fun ys q v H' o => ?_) h
      rw [PM.run_pure] at q
      exact q v H' (o.after s1 (step_none s1 o1 o.nw))
  · intro i k H2 M
    have hI := hJ _ hB i H2 M.wd (stA1 M.st)
    by_cases hlt : i < ps.length
    · obtain ⟨p, ep, ed⟩ := drop_get hlt
      obtain ⟨hgo, hy⟩ := hI.1 p ep
      refine .inr ⟨hgo, fun H' => Mk2 K T A H1 L ps.length (fun i => 4000 * i) G (i + 1) (ps.length - (i + 1)) H', fun H' M' => ⟨_, by have := M.hk; omega, M'⟩, fun xv H3 yv => ?_⟩
      obtain ⟨keep3, ok3, rp3⟩ := hy xv H3 yv
      obtain ⟨acc, ds, eL, hl, hr, q⟩ := M.dn
      have s23 : Step T H2 H3 := fun a o e _ => keep3 a o e
      have w3 := M.wd.step s23 ok3
      have st13 : Step T H1 H3 := M.st.trans s23
      have ev3 : Ev K T (fun a => A a ∨ a = L) ρ σ H3 := evB.stA (munB w1 hB) (stA1 st13)
      have q : PM.run (catD (turn2 pt pt1 c it1 c1 x) (ps.drop i)) fun ys => ∀ v H', PostN K T A H1 H' (.list (ds ++ ys)) v → Q (.ref v) H' := q
      rw [ed] at q
      have q := (PM.run_bind _ _ _).mp (show PM.run (turn2 pt pt1 c it1 c1 x p >>= fun y => catD (turn2 pt pt1 c it1 c1 x) (ps.drop (i + 1)) >>= fun ys => pure (y ++ ys)) _ from q)
      have q := (PM.run_bind _ _ _).mp (show PM.run (PM.lift (pt.flat p) >>= fun l => c l >>= fun b => if b = true then it1 l >>= fun qs => PM.lift (sizeS qs) >>= fun qs => cmpD (turnM pt1 (c1 l) (x l)) qs else pure []) _ from q)
      rw [PM.run_lift] at q
      obtain ⟨l, el, q⟩ := q
      have q := (PM.run_bind _ _ _).mp q
      have hll := flat_len _ _ _ el
      refine ⟨T, _, p, l, w3, rp3, el, fun us hus => ⟨(sPut_wipe _ _ _ _ hsub).trans (wipe_wipe σ _), ?_⟩⟩
      have ev4 := (ev3.cut (own.map (·.2))).puts (is := pt.slots) hus
      refine ⟨l, hll, T, _, w3, ev4, PM.mono (fun bb q H4 s4 o4 => ?_) q⟩
      have w4 := w3.step s4 o4
      have eL4 : H4 L = some (.lst acc) := s4 _ _ (s23 _ _ eL nS) nS
      have hr4 := (hr.step M.wd s23).step w3 s4
      have st14 := st13.trans s4
      have ev44 := ev4.step w3 s4
      cases bb with
      | false =>
        rw [if_neg Bool.false_ne_true] at q
        dsimp only
        rw [if_neg Bool.false_ne_true]
        rw [PM.run_pure] at q
        refine ⟨rfl, hlt, w4, st14, acc, ds, eL4, by omega, hr4, ?_⟩
        have q := (PM.run_bind _ _ _).mp q
        exact PM.mono (fun ys q v H' o => by rw [PM.run_pure] at q; exact q v H' o) q
      | true =>
        rw [if_pos rfl] at q
        dsimp only
        rw [if_pos rfl]
        have q := (PM.run_bind _ _ _).mp q
        refine ⟨l, hll, T, _, w4, ev44, PM.mono (fun qs q J1 H5 s5 o5 hJ1 => ?_) q⟩
        rw [PM.run_bind, PM.run_lift] at q
        obtain ⟨qs', e5, q⟩ := q
        obtain ⟨hz1, e5⟩ := ifs e5
        subst e5
        have w5 := w4.step s5 o5
        have eL5 : H5 L = some (.lst acc) := s5 _ _ eL4 nS
        have hr5 := hr4.step w4 s5
        have st15 := st14.trans s5
        have ev5 := ev44.step w4 s5
        let G1 : Nat → List D → Prop := fun j es => PM.run (cmpD (turnM pt1 (c1 l) (x l)) (qs.drop j)) fun zs => PM.run (catD (turn2 pt pt1 c it1 c1 x) (ps.drop (i + 1)) >>= fun ys => pure (zs ++ ys)) fun ys => ∀ v H', PostN K T A H1 H' (.list (es ++ ys)) v → Q (.ref v) H'
        refine ⟨Mk3 K T A H1 H5 L qs.length (4000 * i) G1, ⟨qs.length, ⟨by simp, Nat.zero_le _, w5, st15, .refl, acc, ds, eL5, by simpa using hl, hr5, ?_⟩⟩, ?_⟩
        · show PM.run (cmpD _ (qs.drop 0)) _
          rw [List.drop_zero]
          exact q
        · intro j k1 H6 M1
          -- the leaves' things stand below L alone
          have fin : ∀ {H7 : Hp} {acc' : List V} {es : List D}, Wd T (fun a => A a ∨ a = L) H7 → Step T H1 H7 → H7 L = some (.lst acc') → acc'.length ≤ 4000 * (i + 1) → Reps K T (fun a => A a ∨ a = L) H7 acc' es → G1 qs.length es → Mk2 K T A H1 L ps.length (fun i => 4000 * i) G (i + 1) (ps.length - (i + 1)) H7 := fun {H7 acc' es} w7 s7 e7 l7 r7 g7 => by
            refine ⟨rfl, hlt, w7, s7, acc', es, e7, l7, r7, ?_⟩
            have g7 : PM.run (cmpD (turnM pt1 (c1 l) (x l)) (qs.drop qs.length)) _ := g7
            rw [List.drop_length] at g7
            rw [show cmpD (turnM pt1 (c1 l) (x l)) [] = pure [] from rfl, PM.run_pure] at g7
            have g7 := (PM.run_bind _ _ _).mp g7
            exact PM.mono (fun ys q v H' o => by rw [PM.run_pure, List.nil_append] at q; exact q v H' o) g7
          have hJ6 := hJ1 (fun a => A a ∨ a = L) (fun a z => .inl z) j H6 M1.wd M1.sa
          obtain ⟨acc6, es6, e6, l6, r6, g6⟩ := M1.dn
          by_cases hj : j < qs.length
          · obtain ⟨p1, ep1, ed1⟩ := drop_get hj
            obtain ⟨hgo1, hy1⟩ := hJ6.1 p1 ep1
            refine .inr ⟨hgo1, fun H' => Mk3 K T A H1 H5 L qs.length (4000 * i) G1 (j + 1) (qs.length - (j + 1)) H', fun H' M' => ⟨_, by have := M1.hk; omega, M'⟩, fun xv1 H7 yv1 => ?_⟩
            obtain ⟨keep7, ok7, rp7⟩ := hy1 xv1 H7 yv1
            have s67 : Step T H6 H7 := fun a o e _ => keep7 a o e
            have a67 : StA (fun a => A a ∨ a = L) H6 H7 := fun a o e _ => keep7 a o e
            have w7 := M1.wd.step s67 ok7
            have ev7 := ev5.stA w5.mun (M1.sa.trans a67)
            have g6 : PM.run (cmpD (turnM pt1 (c1 l) (x l)) (qs.drop j)) fun zs => PM.run (catD (turn2 pt pt1 c it1 c1 x) (ps.drop (i + 1)) >>= fun ys => pure (zs ++ ys)) fun ys => ∀ v H', PostN K T A H1 H' (.list (es6 ++ ys)) v → Q (.ref v) H' := g6
            rw [ed1] at g6
            have g6 := (PM.run_bind _ _ _).mp (show PM.run (turnM pt1 (c1 l) (x l) p1 >>= fun o => cmpD (turnM pt1 (c1 l) (x l)) (qs.drop (j + 1)) >>= fun ys => pure (match o with | some y => y :: ys | none => ys)) _ from g6)
            obtain ⟨l1, el1, g6⟩ := run_turn g6
            have hl1 := flat_len _ _ _ el1
            refine ⟨T, _, p1, l1, w7, rp7, el1, fun us1 hus1 => ⟨(sPut_wipe _ _ _ _ fun i hi => hi).trans (wipe_wipe _ _), ?_⟩⟩
            have ev8 := (ev7.cut pt1.slots).puts (is := pt1.slots) hus1
            refine ⟨l, l1, hll, hl1, T, _, w7, ev8, PM.mono (fun bb g8 H8 s8 o8 => ?_) g6⟩
            have w8 := w7.step s8 o8
            have e8 : H8 L = some (.lst acc6) := s8 _ _ (keep7 _ _ e6) nS
            have r8 := (r6.stA M1.wd.mun a67).step w7 s8
            have a8 : StA (fun a => A a ∨ a = L) H5 H8 := (M1.sa.trans a67).trans (s8.stA fun a z => .inl (w1.sub a z))
            have st8 := (M1.st.trans s67).trans s8
            cases bb with
            | true =>
              rw [if_pos rfl, PM.run_bind] at g8
              dsimp only
              rw [if_pos rfl]
              refine ⟨l, l1, hll, hl1, T, _, w8, ev8.step w7 s8, PM.mono (fun d g9 yv2 H9 o9 => ?_) g8⟩
              rw [PM.run_pure, PM.run_bind] at g9
              have a9 := a8.trans (o9.st.stA fun a z => .inl (w1.sub a z))
              have e9 : H9 L = some (.lst acc6) := o9.st _ _ e8 nS
              refine ⟨acc6, e9, ?_, mk3_add w1 nL hj (o9.wd w8) (st8.trans o9.st) a9 l6 (r8.step w8 o9.st) o9.rp ?_⟩
              · rw [sizeLine_eq]; have := hz; have := hz1; omega
              · refine PM.mono (fun zs g => ?_) g9
                rw [PM.run_pure, PM.run_bind] at g
                rw [PM.run_bind]
                refine PM.mono (fun ys g => ?_) g
                rw [PM.run_pure] at g ⊢
                intro v H' o
                refine g v H' ?_
                rw [show es6 ++ ((d :: zs) ++ ys) = es6 ++ [d] ++ (zs ++ ys) by simp]
                exact o
            | false =>
              rw [if_neg Bool.false_ne_true, PM.run_pure, PM.run_bind] at g8
              dsimp only
              rw [if_neg Bool.false_ne_true]
              refine ⟨rfl, hj, w8, st8, a8, acc6, es6, e8, by omega, r8, PM.mono (fun zs g => ?_) g8⟩
              rw [PM.run_pure] at g
              exact g
          · have ej : j = qs.length := Nat.le_antisymm M1.hi (Nat.le_of_not_lt hj)
            exact .inl ⟨hJ6.2 (Nat.le_of_not_lt hj), fin M1.wd M1.st e6 (by omega) r6 (ej ▸ g6)⟩
    · have e0 : i = ps.length := Nat.le_antisymm M.hi (Nat.le_of_not_lt hlt)
      refine .inl ⟨hI.2 (Nat.le_of_not_lt hlt), ?_⟩
      obtain ⟨acc, ds, e, _, r, q⟩ := M.dn
      have q : PM.run (catD (turn2 pt pt1 c it1 c1 x) (ps.drop i)) fun ys => ∀ v H', PostN K T A H1 H' (.list (ds ++ ys)) v → Q (.ref v) H' := q
      rw [e0, List.drop_length] at q
      have q := (PM.run_pure _ _).mp q
      exact q _ _ ⟨M.st, M.wd.ok, nL, by rw [List.append_nil]; exact .lst e r⟩
/-- [e for t in it if .. for t1 in it1 if ..] -/
theorem VN.comp2 {elt iter iter1 : Expr} {ifs ifs1 : List Expr} {scope : Scope} {own : List (Str × Nat)} {pt pt1 : Pt} {it : m (List D)} {c : List D → m Bool} {it1 : List D → m (List D)} {c1 : List D → List D → m Bool} {x : List D → List D → m D} (hN : X.N.Nodup) (hi : VI X ρ tg iter it) (ok : blkC X.N X.env.scope scope own = true)
    (hg : ∀ s H C cl fp, VG (Bk X scope s H C cl fp) tg pt) (ht : ∀ s H C cl fp l, l.length = pt.slots.length → VT_ (Bk X scope s H C cl fp) (rPuts (rCut ρ (own.map (·.2))) pt.slots l) ifs (c l))
    (hi1 : ∀ s H C cl fp l, l.length = pt.slots.length → VI (Bk X scope s H C cl fp) (rPuts (rCut ρ (own.map (·.2))) pt.slots l) tg1 iter1 (it1 l)) (hg1 : ∀ s H C cl fp, VG (Bk X scope s H C cl fp) tg1 pt1)
    (ht1 : ∀ s H C cl fp l l1, l.length = pt.slots.length → l1.length = pt1.slots.length → VT_ (Bk X scope s H C cl fp) (rPuts (rCut (rPuts (rCut ρ (own.map (·.2))) pt.slots l) pt1.slots) pt1.slots l1) ifs1 (c1 l l1))
    (he : ∀ s H C cl fp l l1, l.length = pt.slots.length → l1.length = pt1.slots.length → VE (Bk X scope s H C cl fp) (rPuts (rCut (rPuts (rCut ρ (own.map (·.2))) pt.slots l) pt1.slots) pt1.slots l1) elt (x l l1))
    (hsub : ∀ i ∈ pt.slots, i ∈ own.map (·.2) := by decide) (hsub1 : ∀ i ∈ pt1.slots, i ∈ own.map (·.2) := by decide) (hc : X.calm = true := by rfl) (hs : ∀ x, foldedSetIterable iter X.env x = pure x := by intro _; rfl) (hs1 : ∀ env x, foldedSetIterable iter1 env x = pure x := by intro _ _; rfl) :
    VN X ρ (.ListComp elt [⟨tg, iter, ifs, 0⟩, ⟨tg1, iter1, ifs1, 0⟩] scope pos) (it >>= fun ps => PM.lift (sizeS ps) >>= fun ps => catD (turn2 pt pt1 c it1 c1 x) ps >>= fun ys => pure (.list ys)) :=
  imE (pe_lc2 hc hN hi (blkOk_by ok) hsub1 (fun s H C cl fp => hg s H C cl fp) (fun s H C cl fp => pts_ex (ht s H C cl fp)) (fun s H C cl fp => pi_ex (hi1 s H C cl fp)) (fun s H C cl fp => hg1 s H C cl fp) (fun s H C cl fp => pts_ex2 (ht1 s H C cl fp)) (fun s H C cl fp => pe_ex2 (he s H C cl fp)) hs hs1) fun σ H Q h => tLc2_read hsub h
/-! ### y = [..] -/
abbrev SC (X : Cx) (ρ : Rh) (i : Nat) (s : Stmt) (x : m D) : Prop := PS X s (tAsg (tN X.K ρ x) (gName i))
theorem SC.c1 {elt iter : Expr} {ifs : List Expr} {scope : Scope} {own : List (Str × Nat)} {pt : Pt} {it : m (List D)} {c : List D → m Bool} {x : List D → m D} {i : Nat} {y : Str} {py spos : Pos} (hN : X.N.Nodup) (hi : VI X ρ tg iter it) (ok : blkC X.N X.env.scope scope own = true)
    (hg : ∀ s H C cl fp, VG (Bk X scope s H C cl fp) tg pt) (ht : ∀ s H C cl fp l, l.length = pt.slots.length → VT_ (Bk X scope s H C cl fp) (rPuts (rCut ρ (own.map (·.2))) pt.slots l) ifs (c l))
    (he : ∀ s H C cl fp l, l.length = pt.slots.length → VE (Bk X scope s H C cl fp) (rPuts (rCut ρ (own.map (·.2))) pt.slots l) elt (x l)) (hy : X.N[i]? = some y := by rfl) (hyl : X.env.scope.names.lookup y = some .local := by rfl)
    (hsw : swapsWith (.ListComp elt [⟨tg, iter, ifs, 0⟩] scope pos) (some (.Name y py)) spos.line X.env = pure true := by exact sw_true rfl rfl rfl (by decide +kernel)) (hsub : ∀ i ∈ pt.slots, i ∈ own.map (·.2) := by decide) (hc : X.calm = true := by rfl) (hs : ∀ x, foldedSetIterable iter X.env x = pure x := by intro _; rfl) :
    SC X ρ i (.Assign [.Name y py] (.ListComp elt [⟨tg, iter, ifs, 0⟩] scope pos) spos) (it >>= fun ps => PM.lift (sizeL ps) >>= fun ps => cmpD (turnM pt c x) ps >>= fun ys => pure (.list ys)) :=
  imS (ps_setLc hc hN hy hyl hsw hi (blkOk_by ok) (fun s H C cl fp => hg s H C cl fp) (fun s H C cl fp => pts_ex (ht s H C cl fp)) (fun s H C cl fp => pe_ex (he s H C cl fp)) hs) fun D σ H h => tLc_read hsub h
theorem SC.c2 {elt iter iter1 : Expr} {ifs ifs1 : List Expr} {scope : Scope} {own : List (Str × Nat)} {pt pt1 : Pt} {it : m (List D)} {c : List D → m Bool} {it1 : List D → m (List D)} {c1 : List D → List D → m Bool} {x : List D → List D → m D} {i : Nat} {y : Str} {py spos : Pos} (hN : X.N.Nodup) (hi : VI X ρ tg iter it) (ok : blkC X.N X.env.scope scope own = true)
    (hg : ∀ s H C cl fp, VG (Bk X scope s H C cl fp) tg pt) (ht : ∀ s H C cl fp l, l.length = pt.slots.length → VT_ (Bk X scope s H C cl fp) (rPuts (rCut ρ (own.map (·.2))) pt.slots l) ifs (c l))
    (hi1 : ∀ s H C cl fp l, l.length = pt.slots.length → VI (Bk X scope s H C cl fp) (rPuts (rCut ρ (own.map (·.2))) pt.slots l) tg1 iter1 (it1 l)) (hg1 : ∀ s H C cl fp, VG (Bk X scope s H C cl fp) tg1 pt1)
    (ht1 : ∀ s H C cl fp l l1, l.length = pt.slots.length → l1.length = pt1.slots.length → VT_ (Bk X scope s H C cl fp) (rPuts (rCut (rPuts (rCut ρ (own.map (·.2))) pt.slots l) pt1.slots) pt1.slots l1) ifs1 (c1 l l1))
    (he : ∀ s H C cl fp l l1, l.length = pt.slots.length → l1.length = pt1.slots.length → VE (Bk X scope s H C cl fp) (rPuts (rCut (rPuts (rCut ρ (own.map (·.2))) pt.slots l) pt1.slots) pt1.slots l1) elt (x l l1)) (hy : X.N[i]? = some y := by rfl) (hyl : X.env.scope.names.lookup y = some .local := by rfl)
    (hsw : swapsWith (.ListComp elt [⟨tg, iter, ifs, 0⟩, ⟨tg1, iter1, ifs1, 0⟩] scope pos) (some (.Name y py)) spos.line X.env = pure true := by exact sw_true rfl rfl rfl (by decide +kernel))
    (hsub : ∀ i ∈ pt.slots, i ∈ own.map (·.2) := by decide) (hsub1 : ∀ i ∈ pt1.slots, i ∈ own.map (·.2) := by decide) (hc : X.calm = true := by rfl) (hs : ∀ x, foldedSetIterable iter X.env x = pure x := by intro _; rfl) (hs1 : ∀ env x, foldedSetIterable iter1 env x = pure x := by intro _ _; rfl) :
    SC X ρ i (.Assign [.Name y py] (.ListComp elt [⟨tg, iter, ifs, 0⟩, ⟨tg1, iter1, ifs1, 0⟩] scope pos) spos) (it >>= fun ps => PM.lift (sizeS ps) >>= fun ps => catD (turn2 pt pt1 c it1 c1 x) ps >>= fun ys => pure (.list ys)) :=
  imS (ps_setLc2 hc hN hy hyl hsw hi (blkOk_by ok) hsub1 (fun s H C cl fp => hg s H C cl fp) (fun s H C cl fp => pts_ex (ht s H C cl fp)) (fun s H C cl fp => pi_ex (hi1 s H C cl fp)) (fun s H C cl fp => hg1 s H C cl fp) (fun s H C cl fp => pts_ex2 (ht1 s H C cl fp)) (fun s H C cl fp => pe_ex2 (he s H C cl fp)) hs hs1) fun D σ H h => tLc2_read hsub h
/-- a new list comes to an owner's heap, its things unchangeable -/
theorem PostN.immO {K : PySem.W.Frag} {T : Tk} {A : Addr → Prop} {Γ : List Kd} {O : Nat → Option Addr} {σ : L2.St} {H H' : Hp} {p d : D} {a : Addr} (o : PostN K T A H H' p a) (e : immL p = some d) : PostN K T (AT A O) H H' d a := by
  have ho := o.ow
  cases ho with
  | lst e1 r1 =>
    obtain ⟨hp, e⟩ := ifs e
    subst e
    exact ⟨o.st, o.ok, o.nw, .lst e1 (Reps.imm r1 hp)⟩
  | dct e1 r1 => cases e
  | dck _ e1 r1 => cases e
section
variable {Γ : List Kd} {i : Nat} {s : Stmt} {x : m D} {E : D → Rh}
theorem SB.scH (h : SC X (hide Γ ρ) i s x) (hE : ∀ p, E p = rPut ρ i p) (hk : kAt Γ i = .sh := by rfl) : SB X Γ ρ s E x := imB (imS h fun D σ H ⟨T, A, O, r, q⟩ => ⟨T, AT A O, r.wd, r.hid, PM.mono (fun p q a H' o => asg_put hk r q (o.post r.wd)) q⟩) hE
theorem SB.ocH (h : SC X (hide Γ ρ) i s x) (hE : ∀ p, E p = rPut ρ i p) (hk : kAt Γ i = .ow := by rfl) : SB X Γ ρ s E x := imB (imS h fun D σ H ⟨T, A, O, r, q⟩ => ⟨T, AT A O, r.wd, r.hid, PM.mono (fun p q a H' o => own_put hk r q o) q⟩) hE
theorem SB.scI (h : SC X ρ i s x) (hE : ∀ p, E p = rPut ρ i p) (hk : kAt Γ i = .sh := by rfl) : SB X Γ ρ s E (x >>= fun p => PM.lift (immL p)) := imB (imS h fun D σ H ⟨T, A, O, r, q⟩ => ⟨T, A, r.wdA, r.all, PM.mono (fun p q a H' o => by
  rw [PM.run_lift] at q
  obtain ⟨d, e, q⟩ := q
  exact asg_put hk r q ((o.immO (O := O) (Γ := Γ) (σ := σ) e).post r.wd)) ((PM.run_bind _ _ _).mp q)⟩) hE
theorem SB.ocI (h : SC X ρ i s x) (hE : ∀ p, E p = rPut ρ i p) (hk : kAt Γ i = .ow := by rfl) : SB X Γ ρ s E (x >>= fun p => PM.lift (immL p)) := imB (imS h fun D σ H ⟨T, A, O, r, q⟩ => ⟨T, A, r.wdA, r.all, PM.mono (fun p q a H' o => by
  rw [PM.run_lift] at q
  obtain ⟨d, e, q⟩ := q
  exact own_put hk r q (o.immO (O := O) (Γ := Γ) (σ := σ) e)) ((PM.run_bind _ _ _).mp q)⟩) hE
/-! ### new lists: +, *, list(..), slices -/
def dAddL : D → D → Option D
  | .list xs, .list ys => if xs.length + ys.length ≤ sizeLine then some (.list (xs ++ ys)) else none
  | _, _ => none
def dMulL : D → D → Option D
  | .list xs, .int k => if decide (-(2 ^ 63) ≤ k) && decide (k < 2 ^ 63) && decide (xs.length * k.toNat ≤ sizeLine) then some (.list (List.replicate k.toNat xs).flatten) else none
  | _, _ => none
def OkN (K : PySem.W.Frag) (f : D → D → Option D) (r : R2) : Prop := ∀ (T : Tk) (A : Addr → Prop) (H : Hp) (x y : V) (p q d : D) (Q : VK), Wd T A H → Rep K T A H x p → Rep K T A H y q → f p q = some d → (∀ a H', PostN K T A H H' d a → Q (.ref a) H') → r x y H Q
theorem okAddN {K : PySem.W.Frag} : OkN K dAddL (rAddD K) := by
  intro T A H x y p q d Q w rx ry e k
  cases rx with
  | @lst a xs ds n hs hr =>
    cases ry with
    | @lst b ys es n' hs' hr' =>
      obtain ⟨h, e⟩ := ifs e
      subst e
      exact .inr (.inl ⟨a, b, xs, ys, rfl, rfl, hs, hs', by rw [hr.length, hr'.length]; exact h, fun p np => k _ _ (postN_new w np (hr.append hr'))⟩)
    | _ => cases e
  | _ => cases e
theorem okMulN {K : PySem.W.Frag} : OkN K dMulL (rMulD K) := by
  intro T A H x y p q d Q w rx ry e k
  cases rx with
  | @lst a xs ds n hs hr =>
    cases ry with
    | int j =>
      obtain ⟨h, e⟩ := ifs e
      subst e
      simp only [Bool.and_eq_true, decide_eq_true_eq] at h
      exact .inr (.inl ⟨a, j, xs, rfl, rfl, hs, h.1.1, h.1.2, by rw [hr.length]; exact h.2, fun p np => k _ _ (postN_new w np (hr.flat _))⟩)
    | _ => cases e
  | _ => cases e
theorem VN.op {op : Operator} {r : R2} {f : D → D → Option D} {xa xb : m D} (ho : OpR X (binaryOp op) r) (hr : OkN X.K f r) (ha : VE X ρ a xa) (hb : VE X ρ b xb) : VN X ρ (.BinOp a op b pos) (xa >>= fun p => xb >>= fun q => PM.lift (f p q)) :=
  imE (pe_op ho ha hb) fun σ H Q ⟨T, A, w, ev, h⟩ => by
    rw [PM.run_bind] at h
    refine ⟨T, A, w, ev, PM.mono (fun p h v H1 o1 => ?_) h⟩
    rw [PM.run_bind] at h
    have w1 := o1.wd w
    refine ⟨T, A, w1, ev.step w o1.st, PM.mono (fun q h u H2 o2 => ?_) h⟩
    rw [PM.run_lift] at h
    obtain ⟨d, e, h⟩ := h
    have s := o1.st.trans o2.st
    exact hr T A H2 v u p q d Q (o2.wd w1) (o1.rp.step w1 o2.st) o2.rp e fun a H' o => h a H' (o.after s (step_none s o2.ok o.nw))
theorem VN.list {p0 : Pos} {xs : m (List D)} (hm : X.mg "list" = none) (ha : VA X ρ [e] xs) (hg : Gl X "list" := by rfl)
    (he : starEach [e] X.env = (false, eval e X.env) :: starEach [] X.env := by rfl) (hpl : (backTo pos (starEach [] X.env)).any (·.1) = false := by rfl) : VN X ρ (.Call (.Name "list" p0) [e] [] pos) (xs >>= fun l => PM.lift (f1 dList l)) :=
  imE (pe_callTy call_list_of hg hm boot_list ha.pa (by decide) (by decide) he hpl) fun σ H Q ⟨T, A, w, ev, h⟩ => by
    rw [PM.run_bind] at h
    refine ⟨T, A, w, ev, PM.mono (fun l h vs H1 s1 o1 r1 => ?_) h⟩
    rw [PM.run_lift] at h
    obtain ⟨d, e, h⟩ := h
    match l, r1 with
    | [p], .cons r .nil =>
      cases r with
      | @lst a us ds n h2 hr => cases e; exact ⟨a, us, rfl, .inl (SqL.of h2), fun l nl => h _ _ ((postN_new (w.step s1 o1) nl hr).after s1 (step_none s1 o1 nl))⟩
      | @tup a us ds h2 hr => cases e; exact ⟨a, us, rfl, .inr h2, fun l nl => h _ _ ((postN_new (w.step s1 o1) nl hr).after s1 (step_none s1 o1 nl))⟩
      | _ => cases e
    | [], .nil => cases e
    | _ :: _ :: _, .cons _ (.cons _ _) => cases e
/-- xs[lo:hi] of a list -/
def dSliceL (x : D) (lo hi : Option Int) : Option D := match x with
  | .list xs => some (.list (cutD xs lo hi))
  | _ => none
theorem VN.slice {lo hi : Option Expr} {xa : m D} {xl xh : m (Option Int)} {p2 : Pos} (ha : VE X ρ a xa) (hl : VO_ X ρ lo xl) (hh : VO_ X ρ hi xh) : VN X ρ (.Subscript a (.Slice lo hi none p2) pos) (xa >>= fun p => xl >>= fun l => xh >>= fun u => PM.lift (dSliceL p l u)) :=
  imE (pe_slice sl_seq ha hl hh) fun σ H Q ⟨T, A, w, ev, h⟩ => by
    rw [PM.run_bind] at h
    refine ⟨T, A, w, ev, PM.mono (fun p h v H1 o1 => ?_) h⟩
    have w1 := o1.wd w
    rw [PM.run_bind] at h
    refine ⟨T, A, w1, ev.step w o1.st, PM.mono (fun l h H2 s2 o2 => ?_) h⟩
    rw [PM.run_bind] at h
    refine ⟨T, A, w1.step s2 o2, (ev.step w o1.st).step w1 s2, PM.mono (fun u h H3 s3 o3 => ?_) h⟩
    rw [PM.run_lift] at h
    obtain ⟨d, e, k⟩ := h
    have w3 := (w1.step s2 o2).step s3 o3
    have rp3 := (o1.rp.step w1 s2).step (w1.step s2 o2) s3
    have s := (o1.st.trans s2).trans s3
    cases rp3 with
    | @lst a us ds n hs hr =>
      cases e
      refine .inl ⟨a, us, rfl, SqL.of hs, fun p np => ?_⟩
      refine k _ _ ((postN_new w3 np ?_).after s (step_none s o3 np))
      unfold cutV cutD
      rw [hr.length]
      exact (hr.drop _).take _
    | _ => cases e
end
end
end Qv

namespace Qv
open PySem PySem.Spec PyProof.Rows L2
/-! ## for the printed texts -/
section
variable {m : Type → Type} [PM m] {X : Cx} {Γ Γ' : List Kd} {ρ : Rh} {e tg : Expr} {es : List Expr} {x : m D} {p : D} {α β : Type} {rest : List Stmt} {s : Stmt}
theorem VH.imm_p (h : VE (m := m) X ρ e (pure p)) : VH (m := m) X Γ ρ e (PM.lift (Qv.imm p)) := VH.eqv (VH.imm h) fun K q => rp K q
def compM (it : m (List D)) (pt : Pt) (c : List D → m Bool) (x : List D → m D) : m D := it >>= fun ps => PM.lift (sizeL ps) >>= fun ps => cmpD (turnM pt c x) ps >>= fun ys => pure (.list ys)
def comp2M (it : m (List D)) (pt pt1 : Pt) (c : List D → m Bool) (it1 : List D → m (List D)) (c1 : List D → List D → m Bool) (x : List D → List D → m D) : m D := it >>= fun ps => PM.lift (sizeS ps) >>= fun ps => catD (turn2 pt pt1 c it1 c1 x) ps >>= fun ys => pure (.list ys)
def unl1 (f : D → List D → m β) : List D → List D → m β | [a], l => f a l | _, _ => fail
def unl2 (f : D → D → List D → m β) : List D → List D → m β | [a, b], l => f a b l | _, _ => fail
def unl3 (f : D → D → D → List D → m β) : List D → List D → m β | [a, b, c], l => f a b c l | _, _ => fail
theorem lenl1_1 {P : List D → List D → Prop} (h : ∀ a b, P [a] [b]) : ∀ l l1, l.length = 1 → l1.length = 1 → P l l1 := fun l l1 e f => match l, l1, e, f with | [a], [b], _, _ => h a b
theorem lenl1_2 {P : List D → List D → Prop} (h : ∀ a b c, P [a] [b, c]) : ∀ l l1, l.length = 1 → l1.length = 2 → P l l1 := fun l l1 e f => match l, l1, e, f with | [a], [b, c], _, _ => h a b c
theorem lenl2_1 {P : List D → List D → Prop} (h : ∀ a b c, P [a, b] [c]) : ∀ l l1, l.length = 2 → l1.length = 1 → P l l1 := fun l l1 e f => match l, l1, e, f with | [a, b], [c], _, _ => h a b c
theorem lenl2_2 {P : List D → List D → Prop} (h : ∀ a b c d, P [a, b] [c, d]) : ∀ l l1, l.length = 2 → l1.length = 2 → P l l1 := fun l l1 e f => match l, l1, e, f with | [a, b], [c, d], _, _ => h a b c d
theorem lenl1_3 {P : List D → List D → Prop} (h : ∀ a b c d, P [a] [b, c, d]) : ∀ l l1, l.length = 1 → l1.length = 3 → P l l1 := fun l l1 e f => match l, l1, e, f with | [a], [b, c, d], _, _ => h a b c d
theorem VT_.at {ρ' : Rh} {x : m Bool} (h : VT_ X ρ' es x) (e' : ρ = ρ' := by rfl) : VT_ X ρ es x := by rw [e']; exact h
theorem VI.at {ρ' : Rh} {x : m (List D)} (h : VI X ρ' tg e x) (e' : ρ = ρ' := by rfl) : VI X ρ tg e x := by rw [e']; exact h
/-- the kind of a name that is not known may be chosen -/
theorem Rl.unk0 {K : PySem.W.Frag} {T : Tk} {A : Addr → Prop} {O : Nat → Option Addr} {σ : L2.St} {H : Hp} {i : Nat} (r : Rl K T A Γ O ρ σ H) (h : ∀ j, j ≠ i → kAt Γ' j = kAt Γ j) (hn : rAt ρ i = none) : Rl K T A Γ' O ρ σ H := by
  refine ⟨r.len, r.wd, r.sub, fun j p q k => ?_, fun j p q k => ?_, r.inj, r.dis⟩
  · have e : j ≠ i := fun e => by rw [e, hn] at q; cases q
    exact r.sh j p q (by rw [← h j e]; exact k)
  · have e : j ≠ i := fun e => by rw [e, hn] at q; cases q
    exact r.ow j p q (by rw [← h j e]; exact k)
def kSub (Γ Γ' : List Kd) (i : Nat) : Nat → Bool
  | 0 => true
  | n + 1 => (n == i || (decide (kAt Γ' n = kAt Γ n))) && kSub Γ Γ' i n
theorem kSub_at {i : Nat} : ∀ {n : Nat}, kSub Γ Γ' i n = true → ∀ j, j < n → j ≠ i → kAt Γ' j = kAt Γ j
  | n + 1, h, j, hj, hi => by
    simp only [kSub, Bool.and_eq_true, Bool.or_eq_true, beq_iff_eq, decide_eq_true_eq] at h
    rcases Nat.lt_succ_iff_lt_or_eq.mp hj with q | q
    · exact kSub_at h.2 j q hi
    · subst q; exact h.1.resolve_left hi
theorem kAt_out : ∀ {Γ : List Kd} {j : Nat}, Γ.length ≤ j → kAt Γ j = .sh
  | [], _, _ => rfl
  | _ :: _, 0, h => by simp at h
  | _ :: Γ, j + 1, h => kAt_out (Γ := Γ) (by simpa using h)
theorem kSub_all {i n : Nat} (h : kSub Γ Γ' i n = true) (h1 : Γ.length ≤ n) (h2 : Γ'.length ≤ n) : ∀ j, j ≠ i → kAt Γ' j = kAt Γ j := fun j hi => by
  by_cases hj : j < n
  · exact kSub_at h j hj hi
  · rw [kAt_out (by omega), kAt_out (by omega)]
def noFz (Γ : List Kd) : Bool := Γ.all fun k => match k with | .fz => false | _ => true
theorem noFz_at : ∀ {Γ : List Kd}, noFz Γ = true → ∀ j, kAt Γ j ≠ .fz
  | [], _, j => by simp [kAt]
  | k :: Γ, h, j => by
    simp only [noFz, List.all_cons, Bool.and_eq_true] at h
    cases j with
    | zero => cases k <;> simp [kAt] at h ⊢
    | succ j => exact noFz_at (Γ := Γ) h.2 j
theorem VT.kind {x : m D} (i : Nat) (h : VT X Γ' ρ rest x) (hn : rAt ρ i = none := by rfl) (hs : kSub Γ Γ' i (max Γ.length Γ'.length) = true := by decide) : VT X Γ ρ rest x := imSs h fun D σ H ⟨T, A, O, r, w⟩ =>
  ⟨T, A, O, r.unk0 (kSub_all hs (Nat.le_max_left _ _) (Nat.le_max_right _ _)) hn, w⟩
theorem kind_le {K : PySem.W.Frag} {T : Tk} {A : Addr → Prop} {O : Nat → Option Addr} {σ : L2.St} {H : Hp} {D : Ends} {i : Nat} (hs : ∀ j, j ≠ i → kAt Γ' j = kAt Γ j) (hz : noFz Γ = true) :
    (∀ ρ', rAt ρ' i = none → (kn K T A Γ O σ H D).nx ρ' → (kn K T A Γ' O σ H D).nx ρ') ∧ (∀ ρ', rAt ρ' i = none → (kn K T A Γ O σ H D).bk ρ' → (kn K T A Γ' O σ H D).bk ρ') ∧ (∀ ρ', rAt ρ' i = none → (kn K T A Γ O σ H D).ct ρ' → (kn K T A Γ' O σ H D).ct ρ') := by
  have key : ∀ (P : L2.St → Hp → Prop) (ρ' : Rh), rAt ρ' i = none → (∀ σ' H' O', Rl K T A Γ O' ρ' σ' H' → Fr T Γ O O' σ σ' H H' → P σ' H') → ∀ σ' H' O', Rl K T A Γ' O' ρ' σ' H' → Fr T Γ' O O' σ σ' H H' → P σ' H' := fun P ρ' hn w σ' H' O' r' f =>
    w σ' H' O' (r'.unk0 (i := i) (fun j hj => (hs j hj).symm) hn) (f.kd fun j hj => absurd hj (noFz_at hz j))
  exact ⟨fun ρ' => key _ ρ', fun ρ' => key _ ρ', fun ρ' => key _ ρ'⟩
theorem VB.kind {E : α → Rh} {x : m α} (i : Nat) (h : VB X Γ' ρ rest E x) (hE : ∀ a, rAt (E a) i = none := by intro _; rfl) (hn : rAt ρ i = none := by rfl) (hs : kSub Γ Γ' i (max Γ.length Γ'.length) = true := by decide) (hz : noFz Γ = true := by decide) : VB X Γ ρ rest E x := imSs h fun D σ H ⟨T, A, O, r, w⟩ =>
  have hs := kSub_all hs (Nat.le_max_left _ _) (Nat.le_max_right _ _)
  ⟨T, A, O, r.unk0 hs hn, PM.mono (fun a q => (kind_le hs hz).1 _ (hE a) q) w⟩
theorem VO.kind {E : α → Rh} {x : m (Out α)} (i : Nat) (h : VO X Γ' ρ rest E x) (hE : ∀ a, rAt (E a) i = none := by intro _; rfl) (hn : rAt ρ i = none := by rfl) (hs : kSub Γ Γ' i (max Γ.length Γ'.length) = true := by decide) (hz : noFz Γ = true := by decide) : VO X Γ ρ rest E x := imSs h fun D σ H ⟨T, A, O, r, w⟩ => by
  have hs := kSub_all hs (Nat.le_max_left _ _) (Nat.le_max_right _ _)
  refine ⟨T, A, O, r.unk0 hs hn, PM.mono (fun o q => ?_) w⟩
  obtain ⟨k1, k2, k3⟩ := kind_le (K := X.K) (T := T) (A := A) (O := O) (σ := σ) (H := H) (D := D) hs hz
  cases o with
  | nx a => exact k1 _ (hE a) q
  | rt v => exact q
  | bk a => exact k2 _ (hE a) q
  | ct a => exact k3 _ (hE a) q
/-- a pattern's leaves are values already -/
theorem seqL {E : List D → Rh} {W' : Kn → Prop} {l : List D} (h1 : SB (m := m) X Γ ρ s E (pure l)) (h2 : PSs X rest (tS X.K Γ (E l) W')) (mW : Mon W') : PSs X (s :: rest) (tS X.K Γ ρ W') :=
  seqB h1 (W := fun v k => v = l ∧ W' k) (fun v => ⟨fun pins s σ H D I ⟨T, A, O, r, e, w⟩ => h2.run pins s σ H D I ⟨T, A, O, by rw [← e]; exact r, w⟩⟩) (fun v k k' h q => ⟨q.1, mW _ _ h q.2⟩) fun k w => (PM.run_pure _ _).mpr ⟨rfl, w⟩
theorem VT.consL {E : List D → Rh} {l : List D} {y : m D} (h1 : SB (m := m) X Γ ρ s E (pure l)) (h2 : VT X Γ (E l) rest y) : VT X Γ ρ (s :: rest) y := seqL h1 h2 mon_T
theorem VB.consL {E : List D → Rh} {E2 : β → Rh} {l : List D} {y : m β} (h1 : SB (m := m) X Γ ρ s E (pure l)) (h2 : VB X Γ (E l) rest E2 y) : VB X Γ ρ (s :: rest) E2 y := seqL h1 h2 mon_B
theorem VO.consL {E : List D → Rh} {E2 : β → Rh} {l : List D} {y : m (Out β)} (h1 : SB (m := m) X Γ ρ s E (pure l)) (h2 : VO X Γ (E l) rest E2 y) : VO X Γ ρ (s :: rest) E2 y := seqL h1 h2 mon_O
theorem VT.consA {ρ' : Rh} {n : Nat} {xs : m (List D)} {E : List D → Rh} {k : List D → m D} (f : VA X ρ' es xs → SB X Γ ρ s E xs) (h : VA X ρ' es xs) (h2 : ∀ l, l.length = n → VT X Γ (E l) rest (k l)) (hl : es.length = n := by rfl) : VT X Γ ρ (s :: rest) (xs >>= k) := VT.consP (f h) (fun K q => by rw [← hl]; exact h.ln K q) h2
theorem VB.consA {ρ' : Rh} {n : Nat} {xs : m (List D)} {E : List D → Rh} {E2 : β → Rh} {k : List D → m β} (f : VA X ρ' es xs → SB X Γ ρ s E xs) (h : VA X ρ' es xs) (h2 : ∀ l, l.length = n → VB X Γ (E l) rest E2 (k l)) (hl : es.length = n := by rfl) : VB X Γ ρ (s :: rest) E2 (xs >>= k) := VB.consP (f h) (fun K q => by rw [← hl]; exact h.ln K q) h2
theorem VO.consA {ρ' : Rh} {n : Nat} {xs : m (List D)} {E : List D → Rh} {E2 : β → Rh} {k : List D → m (Out β)} (f : VA X ρ' es xs → SB X Γ ρ s E xs) (h : VA X ρ' es xs) (h2 : ∀ l, l.length = n → VO X Γ (E l) rest E2 (k l)) (hl : es.length = n := by rfl) : VO X Γ ρ (s :: rest) E2 (xs >>= k) := VO.consP (f h) (fun K q => by rw [← hl]; exact h.ln K q) h2
/-- a, b = (1, 2): constants, taken apart -/
theorem SB.asgPV {tg : Expr} {pt : Pt} {pos : Pos} {l : List D} {E : List D → Rh} (h : VH (m := m) X Γ ρ e (pure p)) (hg : VG X tg pt) (hE : ∀ l, E l = rPuts ρ pt.slots l) (hl : pt.flat p = some l := by rfl) (hk : ∀ i ∈ pt.slots, kAt Γ i = .sh := by decide) (hs : swapsWithSole [tg] e pos.line X.env = pure false := by rfl) (hw : swappedStores [tg] e X.env = pure none := by rfl) (h1 : (assignEach [tg] X.env).map (·.2) = [assign tg X.env] := by rfl) :
    SB (m := m) X Γ ρ (.Assign [tg] e pos) E (pure l) := imB (imS (SB.asgP h hg hk hs hw h1) fun D σ H ⟨T, A, O, r, q⟩ => ⟨T, A, O, r, rp _ (by
  have q : PM.run (pure l : m (List Qv.D)) _ := q
  rw [PM.run_pure] at q
  rw [PM.run_lift]
  exact ⟨l, hl, q⟩)⟩) hE
end
end Qv

namespace Qv
open PySem PySem.Spec PyProof.Rows L2
/-! ## owners in a pattern -/
section
variable {K : PySem.W.Frag} {T : Tk} {A : Addr → Prop} {Γ : List Kd} {O : Nat → Option Addr} {ρ : Rh} {σ : L2.St} {H H' : Hp} {a : Addr} {i : Nat} {p : D}
theorem rCut1_at {j : Nat} {d : D} (h : rAt (rCut ρ [i]) j = some d) : j ≠ i ∧ rAt ρ j = some d := by
  have h2 := rAt_cut ρ j [i]
  rw [h] at h2
  by_cases e : j ∈ [i]
  · rw [if_pos e] at h2; cases h2
  · rw [if_neg e] at h2
    exact ⟨fun z => e (by rw [z]; exact List.mem_cons_self), h2.symm⟩
/-- a new list stands, for a name that comes -/
theorem Rl.hold (r : Rl K T A Γ O ρ σ H) (q : PostN K T (AT A O) H H' p a) : Rl K T A Γ (oPut O i a) (rCut ρ [i]) σ H' ∧ Own K T (AT A (oPut O i a)) H' a p := by
  have r' := r.step q.st q.ok
  have hB : ∀ b, AT A (oPut O i a) b → AT A O b ∨ b = a := fun b h => by
    rcases h with h | ⟨j, h⟩
    · exact .inl (.inl h)
    · unfold oPut at h
      split at h
      · cases h; exact .inr rfl
      · exact .inl (.inr ⟨j, h⟩)
  have hN : ∀ b, AT A (oPut O i a) b → AT A O b ∨ H b = none := fun b h => (hB b h).imp_right fun e => by rw [e]; exact q.nw
  have ss : StA (AT A (oPut O i a)) H H' := (q.st.stA r.sub).weak fun b => .inl
  have mn : MuN (AT A (oPut O i a)) H := fun b h => (hN b h).elim (fun z => .inr (r.wd.mu b z)) .inl
  have wd : Wd T (AT A (oPut O i a)) H' := ⟨q.ok, fun b h => .inl (r.sub b h), fun b h => (hB b h).elim (fun z => r'.wd.mu b z) fun z => by rw [z]; exact q.ow.mu⟩
  refine ⟨⟨by rw [rCut_len, r.len], wd, r.sub, fun j d h k => ?_, fun j d h k => ?_, fun j l b h1 h2 => ?_, fun j b h => ?_⟩, q.ow.weak hB⟩
  · obtain ⟨v, h1, h2⟩ := r.sh j d (rCut1_at h).2 k
    exact ⟨v, h1, (h2.ext hN).stA mn ss⟩
  · obtain ⟨hj, h⟩ := rCut1_at h
    obtain ⟨b, h1, h2, h3⟩ := r.ow j d h k
    refine ⟨b, h1, by simp [oPut, hj, h2], ?_⟩
    refine (h3.ext hN).stA mn ss ?_
    have m := r.wd.mu b (.inr ⟨j, h2⟩)
    cases e : H b with
    | none => rw [e] at m; exact m.elim
    | some o => exact q.st b o e fun z => r.dis j b h2 (r.sub b z)
  · unfold oPut at h1 h2
    have no : ∀ j, O j ≠ some a := fun j z => by
      have := r.wd.mu a (.inr ⟨j, z⟩)
      rw [q.nw] at this
      exact this
    split at h1
    · cases h1
      split at h2
      · rename_i z1 z2; rw [z1, z2]
      · exact absurd h2 (no l)
    · split at h2
      · cases h2
        exact absurd h1 (no j)
      · exact r.inj j l b h1 h2
  · unfold oPut at h
    split at h
    · cases h
      exact r.wdA.new q.nw
    · exact r.dis j b h
theorem Fr.hold (r : Rl K T A Γ O ρ σ H) (q : PostN K T (AT A O) H H' p a) : Fr T Γ O (oPut O i a) σ σ H H' := by
  have r' := r.step q.st q.ok
  refine ⟨fun b o e n _ => q.st b o e n, fun j b h => ?_, fun j b h => r'.wd.mu b (.inr ⟨j, h⟩), fun j h => rfl⟩
  unfold oPut at h
  split at h
  · cases h; exact .inr q.nw
  · exact .inl ⟨j, h⟩
/-- the name comes -/
theorem Rl.take (r : Rl K T A Γ O ρ σ H) (hk : kAt Γ i = .ow) (hO : O i = some a) (o : Own K T (AT A O) H a p) : Rl K T A Γ O (rPut ρ i p) (σ.set i (some (.ref a))) H := by
  refine ⟨by rw [rPut_len, List.length_set, r.len], r.wd, r.sub, fun j d h k => ?_, fun j d h k => ?_, r.inj, r.dis⟩
  · have hj : j ≠ i := fun z => k (z ▸ hk)
    rw [rAt_put, if_neg hj] at h
    obtain ⟨v, h1, h2⟩ := r.sh j d h k
    exact ⟨v, by rw [List.getElem?_set_ne (Ne.symm hj)]; exact h1, h2⟩
  · rw [rAt_put] at h
    by_cases hj : j = i
    · subst hj
      rw [if_pos rfl] at h
      by_cases hl : j < ρ.length
      · rw [if_pos hl] at h
        cases h
        exact ⟨a, List.getElem?_set_self (by rw [← r.len]; exact hl), hO, o⟩
      · rw [if_neg hl] at h; cases h
    · rw [if_neg hj] at h
      obtain ⟨b, h1, h2, h3⟩ := r.ow j d h k
      exact ⟨b, by rw [List.getElem?_set_ne (Ne.symm hj)]; exact h1, h2, h3⟩
theorem Own.step (r : Rl K T A Γ O ρ σ H) (hO : O i = some a) (o : Own K T (AT A O) H a p) (s : Step T H H') : Own K T (AT A O) H' a p := by
  have nS : ¬ T.S a := fun q => r.dis i a hO (r.sub a q)
  cases o with
  | lst e rr => exact .lst (s a _ e nS) (rr.stA r.wd.mun (s.stA r.wd.sub))
  | dct e rr => exact .dct (s a _ e nS) (rr.stA r.wd.mun (s.stA r.wd.sub))
  | dck c e rr => exact .dck c (s a _ e nS) (rr.stA r.wd.mun (s.stA r.wd.sub))
end
section
variable {m : Type → Type} [PM m] {X : Cx} {Γ : List Kd} {ρ : Rh} {a b c : Expr} {x y w : m D} {pos : Pos} {E : List D → Rh}
theorem rPut_cut1 : ∀ {i : Nat} {ρ : Rh} {p : D}, rPut (rCut1 ρ i) i p = rPut ρ i p
  | _, [], _ => rfl
  | 0, _ :: _, _ => rfl
  | i + 1, x :: ρ, p => by
    show x :: rPut (rCut1 ρ i) i p = x :: rPut ρ i p
    rw [rPut_cut1]
theorem rPut_cut {i : Nat} {ρ : Rh} {p : D} : rPut (rCut ρ [i]) i p = rPut ρ i p := rPut_cut1
theorem rPut_swap {i j : Nat} {ρ : Rh} {p q : D} (h : i ≠ j) : rPut (rPut ρ i p) j q = rPut (rPut ρ j q) i p := by
  induction ρ generalizing i j with
  | nil => rfl
  | cons x ρ ih =>
    cases i with
    | zero =>
      cases j with
      | zero => exact absurd rfl h
      | succ j => rfl
    | succ i =>
      cases j with
      | zero => rfl
      | succ j =>
        show x :: rPut (rPut ρ i p) j q = x :: rPut (rPut ρ j q) i p
        rw [ih fun e => h (by rw [e])]
/-- an owner and a plain name -/
theorem SB.par2oh {i j : Nat} {y1 z1 : Str} {py pz pt : Pos} {kt k2 : Nat} {pt2 : Pos} (h1 : VNH X Γ ρ a x) (h2 : VH X Γ (rCut ρ [i]) b y) (hE : ∀ p q, E [p, q] = rPut (rPut ρ i p) j q) (hN : X.N.Nodup) (hij : i ≠ j := by decide) (hki : kAt Γ i = .ow := by rfl) (hkj : kAt Γ j = .sh := by rfl) (hc : X.calm = true := by rfl) (hi : X.N[i]? = some y1 := by rfl) (hj : X.N[j]? = some z1 := by rfl)
    (hy : X.env.scope.names.lookup y1 = some .local := by rfl) (hz : X.env.scope.names.lookup z1 = some .local := by rfl) (he1 : starEach [a, b] X.env = (false, eval a X.env) :: starEach [b] X.env := by rfl) (he2 : starEach [b] X.env = (false, eval b X.env) :: starEach [] X.env := by rfl) (hw : swappedStores [.Tuple [.Name y1 py, .Name z1 pz] kt pt] (.Tuple [a, b] k2 pt2) X.env = pure (some [y1, z1]) := by rfl) (hs : swapsWithSole [.Tuple [.Name y1 py, .Name z1 pz] kt pt] (.Tuple [a, b] k2 pt2) pos.line X.env = pure false := by rfl) :
    SB X Γ ρ (.Assign [.Tuple [.Name y1 py, .Name z1 pz] kt pt] (.Tuple [a, b] k2 pt2) pos) E (x >>= fun p => y >>= fun q => pure [p, q]) :=
  imS (ps_par hc hN hi hj hij hy hz (pa_cons h1 (pa_cons h2 pa_nil he2) he1) hw hs) fun D σ H ⟨T, A, O, r, q⟩ => by
    refine ⟨T, A, O, r, PM.mono (fun p q ad H1 o1 => ?_) ((PM.run_bind _ _ _).mp q)⟩
    obtain ⟨r1, w1⟩ := r.hold (i := i) o1
    have f1 := Fr.hold (i := i) r o1
    refine ⟨T, A, _, r1, PM.mono (fun d q v H2 o2 => ?_) ((PM.run_bind _ _ _).mp q)⟩
    have hO : oPut O i ad i = some ad := by simp [oPut]
    have w2 := w1.step r1 hO o2.st
    have r2 := r1.step o2.st o2.ok
    have f2 := f1.trans (Fr.step (σ := σ) r1 o2.st o2.ok) o1.ok o2.ok
    have q := (PM.run_pure _ _).mp q
    rw [hE] at q
    refine ⟨_, _, rfl, ?_⟩
    have r3 := r2.take hki hO w2
    rw [rPut_cut] at r3
    have r4 := r3.put o2.rp hkj
    exact q _ _ _ r4 ((f2.trans (Fr.put r2 (by rw [hki]; decide)) o2.ok o2.ok).trans (Fr.put r3 (by rw [hkj]; decide)) o2.ok o2.ok)
/-- two owners -/
theorem SB.par2oo {i j : Nat} {y1 z1 : Str} {py pz pt : Pos} {kt k2 : Nat} {pt2 : Pos} (h1 : VNH X Γ ρ a x) (h2 : VNH X Γ (rCut ρ [i]) b y) (hE : ∀ p q, E [p, q] = rPut (rPut ρ i p) j q) (hN : X.N.Nodup) (hij : i ≠ j := by decide) (hki : kAt Γ i = .ow := by rfl) (hkj : kAt Γ j = .ow := by rfl) (hc : X.calm = true := by rfl) (hi : X.N[i]? = some y1 := by rfl) (hj : X.N[j]? = some z1 := by rfl)
    (hy : X.env.scope.names.lookup y1 = some .local := by rfl) (hz : X.env.scope.names.lookup z1 = some .local := by rfl) (he1 : starEach [a, b] X.env = (false, eval a X.env) :: starEach [b] X.env := by rfl) (he2 : starEach [b] X.env = (false, eval b X.env) :: starEach [] X.env := by rfl) (hw : swappedStores [.Tuple [.Name y1 py, .Name z1 pz] kt pt] (.Tuple [a, b] k2 pt2) X.env = pure (some [y1, z1]) := by rfl) (hs : swapsWithSole [.Tuple [.Name y1 py, .Name z1 pz] kt pt] (.Tuple [a, b] k2 pt2) pos.line X.env = pure false := by rfl) :
    SB X Γ ρ (.Assign [.Tuple [.Name y1 py, .Name z1 pz] kt pt] (.Tuple [a, b] k2 pt2) pos) E (x >>= fun p => y >>= fun q => pure [p, q]) :=
  imS (ps_par hc hN hi hj hij hy hz (pa_cons h1 (pa_cons h2 pa_nil he2) he1) hw hs) fun D σ H ⟨T, A, O, r, q⟩ => by
    refine ⟨T, A, O, r, PM.mono (fun p q ad H1 o1 => ?_) ((PM.run_bind _ _ _).mp q)⟩
    obtain ⟨r1, w1⟩ := r.hold (i := i) o1
    have f1 := Fr.hold (i := i) r o1
    refine ⟨T, A, _, r1, PM.mono (fun d q v H2 o2 => ?_) ((PM.run_bind _ _ _).mp q)⟩
    have hO : oPut O i ad i = some ad := by simp [oPut]
    have w2 := w1.step r1 hO o2.st
    have r2 := r1.step o2.st o2.ok
    have f2 := f1.trans (Fr.step (σ := σ) r1 o2.st o2.ok) o1.ok o2.ok
    have q := (PM.run_pure _ _).mp q
    rw [hE] at q
    refine ⟨_, _, rfl, ?_⟩
    have r3 := r1.own hkj o2
    have f3 := Fr.own r1 hkj o2
    have hO3 : oPut (oPut O i ad) j v i = some ad := by simp [oPut, hij]
    have w3 : Own X.K T (AT A (oPut (oPut O i ad) j v)) H2 ad p := by
      have hB : ∀ b, AT A (oPut (oPut O i ad) j v) b → AT A (oPut O i ad) b ∨ H1 b = none := fun b h => by
        rcases h with h | ⟨l, h⟩
        · exact .inl (.inl h)
        · unfold oPut at h
          split at h
          · cases h; exact .inr o2.nw
          · exact .inl (.inr ⟨l, h⟩)
      have hN1 : MuN (AT A (oPut (oPut O i ad) j v)) H1 := fun b h => (hB b h).elim (fun z => .inr (r1.wd.mu b z)) .inl
      cases w1 with
      | lst e rr =>
        have nS : ¬ T.S ad := fun z => r1.dis i ad hO (r1.sub ad z)
        exact .lst (o2.st _ _ e nS) ((rr.ext hB).stA hN1 ((o2.st.stA r1.sub).weak fun b => .inl))
      | dct e rr =>
        have nS : ¬ T.S ad := fun z => r1.dis i ad hO (r1.sub ad z)
        exact .dct (o2.st _ _ e nS) ((rr.ext hB).stA hN1 ((o2.st.stA r1.sub).weak fun b => .inl))
      | dck c e rr =>
        have nS : ¬ T.S ad := fun z => r1.dis i ad hO (r1.sub ad z)
        exact .dck c (o2.st _ _ e nS) ((rr.ext hB).stA hN1 ((o2.st.stA r1.sub).weak fun b => .inl))
    have r4 := r3.take (i := i) hki hO3 w3
    rw [rPut_swap (Ne.symm hij), rPut_cut] at r4
    rw [List.set_comm _ _ (Ne.symm hij)] at r4
    have f4 : Fr T Γ (oPut O i ad) (oPut (oPut O i ad) j v) σ ((σ.set i (some (.ref ad))).set j (some (.ref v))) H1 H2 := by
      have g := f3.trans (Fr.put (i := i) (v := some (.ref ad)) r3 (by rw [hki]; decide)) o2.ok o2.ok
      rw [List.set_comm _ _ (Ne.symm hij)] at g
      exact g
    exact q _ _ _ r4 (f1.trans f4 o1.ok o2.ok)
/-- a plain name and an owner -/
theorem SB.par2ho {i j : Nat} {y1 z1 : Str} {py pz pt : Pos} {kt k2 : Nat} {pt2 : Pos} (h1 : VH X Γ ρ a x) (h2 : VNH X Γ ρ b y) (hE : ∀ p q, E [p, q] = rPut (rPut ρ i p) j q) (hN : X.N.Nodup) (hij : i ≠ j := by decide) (hki : kAt Γ i = .sh := by rfl) (hkj : kAt Γ j = .ow := by rfl) (hc : X.calm = true := by rfl) (hi : X.N[i]? = some y1 := by rfl) (hj : X.N[j]? = some z1 := by rfl)
    (hy : X.env.scope.names.lookup y1 = some .local := by rfl) (hz : X.env.scope.names.lookup z1 = some .local := by rfl) (he1 : starEach [a, b] X.env = (false, eval a X.env) :: starEach [b] X.env := by rfl) (he2 : starEach [b] X.env = (false, eval b X.env) :: starEach [] X.env := by rfl) (hw : swappedStores [.Tuple [.Name y1 py, .Name z1 pz] kt pt] (.Tuple [a, b] k2 pt2) X.env = pure (some [y1, z1]) := by rfl) (hs : swapsWithSole [.Tuple [.Name y1 py, .Name z1 pz] kt pt] (.Tuple [a, b] k2 pt2) pos.line X.env = pure false := by rfl) :
    SB X Γ ρ (.Assign [.Tuple [.Name y1 py, .Name z1 pz] kt pt] (.Tuple [a, b] k2 pt2) pos) E (x >>= fun p => y >>= fun q => pure [p, q]) :=
  imS (ps_par hc hN hi hj hij hy hz (pa_cons h1 (pa_cons h2 pa_nil he2) he1) hw hs) fun D σ H ⟨T, A, O, r, q⟩ => by
    refine ⟨T, A, O, r, PM.mono (fun p q u H1 o1 => ?_) ((PM.run_bind _ _ _).mp q)⟩
    have r1 := r.step o1.st o1.ok
    have f1 := Fr.step (σ := σ) r o1.st o1.ok
    refine ⟨T, A, O, r1, PM.mono (fun d q v H2 o2 => ?_) ((PM.run_bind _ _ _).mp q)⟩
    have q := (PM.run_pure _ _).mp q
    rw [hE] at q
    refine ⟨_, _, rfl, ?_⟩
    have r3 := r1.own hkj o2
    have f3 := Fr.own r1 hkj o2
    have hB : ∀ b, AT A (oPut O j v) b → AT A O b ∨ H1 b = none := fun b h => by
      rcases h with h | ⟨l, h⟩
      · exact .inl (.inl h)
      · unfold oPut at h
        split at h
        · cases h; exact .inr o2.nw
        · exact .inl (.inr ⟨l, h⟩)
    have hN1 : MuN (AT A (oPut O j v)) H1 := fun b h => (hB b h).elim (fun z => .inr (r1.wd.mu b z)) .inl
    have rp := (o1.rp.ext hB).stA hN1 ((o2.st.stA r1.sub).weak fun b => .inl)
    have r4 := r3.put (i := i) rp hki
    rw [rPut_swap (Ne.symm hij)] at r4
    rw [List.set_comm _ _ (Ne.symm hij)] at r4
    have f4 : Fr T Γ O (oPut O j v) σ ((σ.set i (some u)).set j (some (.ref v))) H1 H2 := by
      have g := f3.trans (Fr.put (i := i) (v := some u) r3 (by rw [hki]; decide)) o2.ok o2.ok
      rw [List.set_comm _ _ (Ne.symm hij)] at g
      exact g
    exact q _ _ _ r4 (f1.trans f4 o1.ok o2.ok)
/-- an owner and two plain names -/
theorem SB.par3ohh {i j l : Nat} {y1 z1 w1 : Str} {py pz pw pt : Pos} {kt k2 : Nat} {pt2 : Pos} (h1 : VNH X Γ ρ a x) (h2 : VH X Γ (rCut ρ [i]) b y) (h3 : VH X Γ (rCut ρ [i]) c w) (hE : ∀ p q s, E [p, q, s] = rPut (rPut (rPut ρ i p) j q) l s) (hN : X.N.Nodup) (hij : i ≠ j := by decide) (hil : i ≠ l := by decide) (hjl : j ≠ l := by decide) (hki : kAt Γ i = .ow := by rfl) (hkj : kAt Γ j = .sh := by rfl) (hkl : kAt Γ l = .sh := by rfl) (hc : X.calm = true := by rfl) (hi : X.N[i]? = some y1 := by rfl) (hj : X.N[j]? = some z1 := by rfl) (hl : X.N[l]? = some w1 := by rfl)
    (hy : X.env.scope.names.lookup y1 = some .local := by rfl) (hz : X.env.scope.names.lookup z1 = some .local := by rfl) (hw1 : X.env.scope.names.lookup w1 = some .local := by rfl) (he1 : starEach [a, b, c] X.env = (false, eval a X.env) :: starEach [b, c] X.env := by rfl) (he2 : starEach [b, c] X.env = (false, eval b X.env) :: starEach [c] X.env := by rfl) (he3 : starEach [c] X.env = (false, eval c X.env) :: starEach [] X.env := by rfl)
    (hw : swappedStores [.Tuple [.Name y1 py, .Name z1 pz, .Name w1 pw] kt pt] (.Tuple [a, b, c] k2 pt2) X.env = pure (some [y1, z1, w1]) := by rfl) (hs : swapsWithSole [.Tuple [.Name y1 py, .Name z1 pz, .Name w1 pw] kt pt] (.Tuple [a, b, c] k2 pt2) pos.line X.env = pure false := by rfl) :
    SB X Γ ρ (.Assign [.Tuple [.Name y1 py, .Name z1 pz, .Name w1 pw] kt pt] (.Tuple [a, b, c] k2 pt2) pos) E (x >>= fun p => y >>= fun q => w >>= fun s => pure [p, q, s]) :=
  imS (ps_par3 hc hN hi hj hl hij hil hjl hy hz hw1 (pa_cons h1 (pa_cons h2 (pa_cons h3 pa_nil he3) he2) he1) hw hs) fun D σ H ⟨T, A, O, r, q⟩ => by
    refine ⟨T, A, O, r, PM.mono (fun p q ad H1 o1 => ?_) ((PM.run_bind _ _ _).mp q)⟩
    obtain ⟨r1, w1⟩ := r.hold (i := i) o1
    have f1 := Fr.hold (i := i) r o1
    refine ⟨T, A, _, r1, PM.mono (fun d q v H2 o2 => ?_) ((PM.run_bind _ _ _).mp q)⟩
    have hO : oPut O i ad i = some ad := by simp [oPut]
    have w2 := w1.step r1 hO o2.st
    have r2 := r1.step o2.st o2.ok
    have f2 := f1.trans (Fr.step (σ := σ) r1 o2.st o2.ok) o1.ok o2.ok
    refine ⟨T, A, _, r2, PM.mono (fun e q u H3 o3 => ?_) ((PM.run_bind _ _ _).mp q)⟩
    have w3 := w2.step r2 hO o3.st
    have r3 := r2.step o3.st o3.ok
    have f3 := f2.trans (Fr.step (σ := σ) r2 o3.st o3.ok) o2.ok o3.ok
    have q := (PM.run_pure _ _).mp q
    rw [hE] at q
    refine ⟨_, _, _, rfl, ?_⟩
    have r4 := r3.take hki hO w3
    rw [rPut_cut] at r4
    have r5 := r4.put (o2.rp.stA r2.wd.mun (o3.st.stA r2.wd.sub)) hkj
    have r6 := r5.put o3.rp hkl
    exact q _ _ _ r6 (((f3.trans (Fr.put r3 (by rw [hki]; decide)) o3.ok o3.ok).trans (Fr.put r4 (by rw [hkj]; decide)) o3.ok o3.ok).trans (Fr.put r5 (by rw [hkl]; decide)) o3.ok o3.ok)
theorem ln2 {x y : m D} (K : List D → Prop) (h : PM.run (x >>= fun p => y >>= fun q => pure [p, q]) K) : PM.run (x >>= fun p => y >>= fun q => (pure [p, q] : m (List D))) fun l => K l ∧ l.length = 2 := by
  rw [PM.run_bind] at h ⊢
  refine PM.mono (fun p h => ?_) h
  rw [PM.run_bind] at h ⊢
  refine PM.mono (fun q h => ?_) h
  rw [PM.run_pure] at h ⊢
  exact ⟨h, rfl⟩
theorem ln3 {x y w : m D} (K : List D → Prop) (h : PM.run (x >>= fun p => y >>= fun q => w >>= fun s => pure [p, q, s]) K) : PM.run (x >>= fun p => y >>= fun q => w >>= fun s => (pure [p, q, s] : m (List D))) fun l => K l ∧ l.length = 3 := by
  rw [PM.run_bind] at h ⊢
  refine PM.mono (fun p h => ?_) h
  rw [PM.run_bind] at h ⊢
  refine PM.mono (fun q h => ?_) h
  rw [PM.run_bind] at h ⊢
  refine PM.mono (fun s h => ?_) h
  rw [PM.run_pure] at h ⊢
  exact ⟨h, rfl⟩
theorem SB.eqv {α : Type} {s : Stmt} {E : α → Rh} {x y : m α} (h : SB X Γ ρ s E x) (i : ∀ K, PM.run y K → PM.run x K) : SB X Γ ρ s E y := imS h fun D σ H ⟨T, A, O, r, q⟩ => ⟨T, A, O, r, i _ q⟩
/-! ## name op= e -/
theorem SB.augI {op : Operator} {f : Int → Int → Int} {e : Expr} {i : Nat} {y1 : Str} {py : Pos} {q0 : D} {g : D → D → Option D} {E : D → Rh} (ho : PIp X op (ipI f)) (hg : ∀ p q d, g p q = some d → ∃ i j, p = .int i ∧ q = .int j ∧ d = .int (f i j)) (h : VE X ρ e x) (hr : rAt ρ i = some q0) (hE : ∀ p, E p = rPut ρ i p) (hN : X.N.Nodup) (hk : kAt Γ i = .sh := by rfl) (hi : X.N[i]? = some y1 := by rfl) (hx : Loc X.env.scope y1 := by first | exact Or.inl rfl | exact Or.inr rfl) (hf : X.fn y1 = true ∨ X.env.scope.names.lookup y1 = some .local := by first | exact .inl rfl | exact .inr rfl) :
    SB X Γ ρ (.AugAssign (.Name y1 py) op e pos) E (x >>= fun p => PM.lift (g q0 p)) :=
  imB (imS (ps_aug hN hi hx h ho hf) fun D σ H ⟨T, A, O, r, q⟩ => by
    obtain ⟨v, h1, h2⟩ := r.all.val i q0 hr
    refine ⟨v, h1, T, A, r.wdA, r.all, PM.mono (fun p q u H' o => ?_) ((PM.run_bind _ _ _).mp q)⟩
    rw [PM.run_lift] at q
    obtain ⟨d, e, q⟩ := q
    obtain ⟨a, b, rfl, rfl, rfl⟩ := hg _ _ _ e
    have o2 := o.rp
    cases o2
    cases h2
    refine ⟨a, b, rfl, rfl, ?_⟩
    have r1 := r.step o.st o.ok
    exact q _ _ O (r1.put (.int _) hk) ((Fr.step r o.st o.ok).trans (Fr.put r1 (by rw [hk]; decide)) o.ok o.ok)) hE
def dAddI : D → D → Option D
  | .int i, .int j => some (.int (i + j))
  | _, _ => none
theorem dAddI_ok (p q d : D) (h : dAddI p q = some d) : ∃ i j, p = .int i ∧ q = .int j ∧ d = .int (i + j) := by
  cases p with
  | int i =>
    cases q with
    | int j => cases h; exact ⟨i, j, rfl, rfl, rfl⟩
    | _ => cases h
  | _ => cases h
theorem dSub_ok (p q d : D) (h : dSub p q = some d) : ∃ i j, p = .int i ∧ q = .int j ∧ d = .int (i - j) := by
  cases p with
  | int i =>
    cases q with
    | int j => cases h; exact ⟨i, j, rfl, rfl, rfl⟩
    | _ => cases h
  | _ => cases h
/-- never come to -/
theorem VT.dead : VT (m := m) X Γ ρ [] fail := imSs pss_nil fun D σ H ⟨T, A, O, r, w⟩ => by
  obtain ⟨_, e, _⟩ := (PM.run_lift _ _).mp w
  cases e
end
end Qv

namespace Qv
open PySem PySem.Spec PyProof.Rows L2
/-! ## enumerate(a tuple) -/
section
open AutoSeq1 (wpAny_loadPart')
theorem enum_newT (t : Addr) (its : Array Value) (oc : Value) (od : Option Addr) (dt : Data) (sl : Array (Option Value)) (hc : oc = .type "tuple") (hd : ∃ n, dt = .seq its n) :
    Meets (Builtin.«enumerate.__new__» ⟨[.type "enumerate", .ref t], []⟩) (fun _ R s => s.heap.get? t = some ⟨oc, od, dt, sl⟩ ∧ R (.ok (.ret (.ref (s.heap.objs.size + 1)))) { s with heap := (s.heap.push { cls := .type "tuple_iterator", data := .fields #[.ref t, .int 0 0] }).push { cls := .type "enumerate", data := .fields #[.none, .bool false, .ref s.heap.objs.size, rawInt 0, .none, .none] } }) :=
  .of_wp fun prog w A R s h => by
    obtain ⟨hp, g, d, tk, os⟩ := s
    obtain ⟨hl, h⟩ := h
    obtain ⟨n, hd⟩ := hd
    subst hc hd
    have hsub := sub_enumerate
    have hT : Heap.IsTuple (Shared.heap ⟨hp, g, d, tk, os⟩) t its := ⟨_, hl, rfl, n, rfl⟩
    have hz : (hp.push { cls := .type "tuple_iterator", data := .fields #[.ref t, .int 0 0] }).objs.size = hp.objs.size + 1 := Heap.size_push ..
    rw [← hz] at h
    wp_walk using wpAny_loadPart' hl
    refine wpAny_stack_any fun st => wpAny_pure ?_
    split
    · rename_i c _ _ _ _ _
      cases (c == Value.type "enumerate") <;> (wp_walk using wpAny_loadPart' hl, wpAny_pyIter_tuple hT; exact ⟨_, rfl, h⟩)
    · wp_walk using wpAny_loadPart' hl, wpAny_pyIter_tuple hT
      exact ⟨_, rfl, h⟩
theorem call_enumT {prog : Program} {w : World} {A : Around} {E : Value → Shared → Prop} {s : Shared} {t : Addr} {its : Array Value} {Q : Value → Shared → Prop} (hL : IsTup s.heap t its)
    (h : ∀ h', IsEnum h' (s.heap.objs.size + 1) s.heap.objs.size 0 .none → h'.IsTupleIter s.heap.objs.size t 0 → h'.objs.size = s.heap.objs.size + 2 → (∀ b o, s.heap.get? b = some o → h'.get? b = some o) → Q (.ref (s.heap.objs.size + 1)) { s with heap := h' }) :
    wpAny (model prog w) A (call (.type "enumerate") [.ref t]) Q E s := by
  obtain ⟨⟨oc, od, dt, sl⟩, hl, hc, hd⟩ := hL
  refine callType_new F.called_enumerate (by decide) (F.typeCall_enumerate_1 _) (F.newCall_enumerate_1 _) (fun obj => F.args_object_init_2 obj _) F.entry_enumerate_new (enum_newT t its oc od dt sl hc hd) ⟨hl, ?_⟩
  have hz : (s.heap.push { cls := .type "tuple_iterator", data := .fields #[.ref t, .int 0 0] }).objs.size = s.heap.objs.size + 1 := Heap.size_push ..
  have he := Heap.get?_push_size (s.heap.push { cls := .type "tuple_iterator", data := .fields #[.ref t, .int 0 0] }) (o := { cls := .type "enumerate", data := .fields #[.none, .bool false, .ref s.heap.objs.size, rawInt 0, .none, .none] }) rfl
  rw [hz] at he
  exact ⟨⟨_, he, rfl⟩, h _ he ⟨_, Heap.get?_push_of_some _ (Heap.get?_push_size _ rfl), rfl, rfl⟩ (by rw [Heap.size_push, hz]) fun b o x => Heap.get?_push_of_some _ (Heap.get?_push_of_some _ x)⟩
end
def IteT (K : PySem.W.Frag) (a : Addr) : It where
  go := fun i H => ∃ (xs : List V) (x : V), SqT K H a xs ∧ xs[i]? = some x
  yld := fun i H v H' => ∃ T x, v = .ref T ∧ H T = none ∧ H' = upd H T (.tup [.int (i : Nat), x]) ∧ ∀ xs, SqT K H a xs → xs[i]? = some x
  stop := fun i H => ∃ xs : List V, SqT K H a xs ∧ xs.length ≤ i
theorem tupIter_at {h h' : Heap} {it t : Addr} {i : Nat} (x : h.IsTupleIter it t i) (k : ∀ o, h.get? it = some o → h'.get? it = some o) : h'.IsTupleIter it t i := let ⟨o, e, r⟩ := x; ⟨o, k o e, r⟩
theorem turn_enumT {P : Program} {w : World} {K : PySem.W.Frag} {elts : List Expr} {kk : Nat} {tpos : Pos} (a e it : Addr) : Turn P w K (.Tuple elts kk tpos) (IteT K a) [e, it] e (fun i h => (∃ old, IsEnum h e it ((i : Nat) : Int) old) ∧ h.IsTupleIter it a i ∧ e ≠ it ∧ a ≠ it) where
  mem := by simp
  obj := fun i h ⟨⟨old, he⟩, ⟨o, ho, hc, hd⟩, _⟩ b hb => by
    have hb : b = e ∨ b = it := by simpa using hb
    rcases hb with z | z
    · rw [z]; exact ⟨_, he, fun v q => (nomatch q)⟩
    · rw [z]; exact ⟨o, ho, fun v q => by rw [hd] at q; cases q⟩
  keep := fun i h h' ⟨⟨old, he⟩, hi, hne⟩ k => ⟨⟨old, k e (by simp) _ he⟩, tupIter_at hi fun o q => k it (by simp) o q, hne⟩
  item := by
    intro X hP hw hK hc i pins s σ H E I hf st hg
    subst hP hw hK
    obtain ⟨⟨old, he⟩, hit, hne, hna⟩ := st
    obtain ⟨xs, x, hq, hx⟩ := hg
    obtain ⟨its, rv, p, hz⟩ := I.tuple hq
    obtain ⟨u, hu, ru⟩ := rv.get hx
    have hel : e < s.heap.objs.size := Heap.lt_size he
    have hil : it < s.heap.objs.size := by obtain ⟨_, q, _⟩ := hit; exact Heap.lt_size q
    have hlt : i < its.toArray.size := by
      have := (List.getElem?_eq_some_iff.mp hu).1
      simpa using this
    have nea : e ≠ a := fun z => by
      obtain ⟨o, e1, c1, _⟩ := p
      rw [← z, he] at e1
      have e1 := Option.some.inj e1
      rw [← e1] at c1
      exact absurd c1 (by simp)
    have nef : e ∉ [it, a] := by simp [hne, nea]
    refine wpAny_pyNext_enum_itemD (Draws.tuple (A := X.A.in1) (I.ok.hd hc) it a hna its.toArray) he ⟨hit, p⟩ hlt hne nef fun u2 h' tk hu2 ho hit' hT hsz hk => ?_
    have eu : u2 = u := by
      have h3 : its.toArray[i]? = some u := by simpa using hu
      rw [h3] at hu2
      exact (Option.some.inj hu2).symm
    subst eu
    refine ⟨_, rfl, wpAny_letOwnedTupleGo_enum (s := { s with heap := h', toks := tk + 1 }) ho fun h'' he' sb => ?_⟩
    have hT2 : h''.get? s.heap.objs.size = some { cls := .type "tuple", data := .seq #[.int i tk, u2] } := (sb.2 _ (Nat.ne_of_gt hel)).trans hT
    have new : ObjOk X.prog X.w (upd H s.heap.objs.size (.tup [.int (i : Nat), x])) h'' s.heap.objs.size (.tup [.int (i : Nat), x]) :=
      ⟨by show 2 ≤ sizeLine; decide, [.int i tk, u2], .cons ⟨_, rfl⟩ (.cons ru .nil), ⟨_, hT2, rfl, _, rfl⟩⟩
    have I1 : Inv X pins σ (upd H s.heap.objs.size (.tup [.int (i : Nat), x])) { s with heap := h'', toks := tk + 1 } :=
      I.turnedNew (ch := [e, it]) (fun b ob hb q => (sb.2 b fun z => hb (by simp [z])).trans (hk b ob (fun z => hb (by simp [z])) (fun z => hb (by simp [z])) q)) hf (Nat.le_refl _) new
    refine ⟨.ref s.heap.objs.size, _, I1, rfl, ⟨_, x, rfl, I.hok.fresh (Nat.le_refl _), rfl, fun ys hy => ?_⟩, ⟨⟨u2, ?_⟩, tupIter_at hit'.1 fun o q => (sb.2 it (Ne.symm hne)).trans q, hne, hna⟩, fun b hb => ?_⟩
    · obtain ⟨its', rv', p', _⟩ := I.tuple hy
      obtain ⟨o1, e1, _, n1, d1⟩ := p
      obtain ⟨o2, e2, _, n2, d2⟩ := p'
      rw [e1] at e2
      cases e2
      rw [d1] at d2
      injection d2 with d3 _
      have ei : its = its' := by simpa using congrArg Array.toList d3
      subst ei
      have := rv.inj rv'
      rw [← this]; exact hx
    · have e1 : ((i + 1 : Nat) : Int) = (i : Int) + 1 := by omega
      rw [e1]; exact he'
    · have hb' : b < s.heap.objs.size := by
        have hb : b = e ∨ b = it := by simpa using hb
        rcases hb with z | z
        · rw [z]; exact hel
        · rw [z]; exact hil
      rw [upd_ne (Nat.ne_of_lt hb')]
      exact (hf b hb).1
  done := by
    intro X hP hw hK hc i pins s σ H E I hf st hg
    subst hP hw hK
    obtain ⟨⟨old, he⟩, hit, hne, hna⟩ := st
    obtain ⟨xs, hq, hx⟩ := hg
    obtain ⟨its, rv, p, hz⟩ := I.tuple hq
    obtain ⟨f0, f1, f2, f3, f4, f5⟩ := hf it (by simp)
    have hl := rv.length
    have hn : its.toArray[i]? = none := by simp; omega
    have D : Draws X.prog X.w X.A.in1 it [it, a] i (fun _ _ => False) (fun j h => j = i ∧ h.IsTupleIter it a i ∧ h.IsTuple a its.toArray) :=
      { live := fun _ _ st => let ⟨o, ho, _⟩ := st.2.1; ⟨o, ho⟩
        frame := fun _ _ _ st hk => ⟨st.1, tupIter_at st.2.1 fun o q => hk it (by simp) o q, let ⟨o, ho, r⟩ := st.2.2; ⟨o, hk a (by simp) o ho, r⟩⟩
        item := fun j s Q E hj st => absurd st.1 (Nat.ne_of_lt hj)
        done := fun s Q E st hE => wpAny_nextOf_tuple_end (A := X.A.in1) (I.ok.hd hc) st.2.1 st.2.2 hn hE }
    exact wpAny_pyNext_enum_endD D he ⟨rfl, hit, p⟩ fun h' eb => ⟨rfl, I.turned (t' := s.toks) (fun b o hb q => eb b o hb q) f0 f1 f3 f4 f5⟩
  self := fun A i s Q E st h => let ⟨⟨_, he⟩, _⟩ := st; wpAny_pyIter_enum he h
def iEnumA (K : PySem.W.Frag) (ta : TA) : TI := fun σ H R => ta σ H fun vs H1 => ∃ a xs, vs = [.ref a] ∧ ((SqL K H1 a xs ∧ R (Ite K a) H1) ∨ (SqT K H1 a xs ∧ R (IteT K a) H1))
theorem pi_enumA {X : Cx} {e : Expr} {ta : TA} {p pos tpos : Pos} {elts : List Expr} {kk : Nat} (hg : Gl X "enumerate") (hm : X.mg "enumerate" = none) (ha : PA X [e] ta) (hs : starEach [e] X.env = [(false, eval e X.env)] := by rfl) :
    PI X (.Tuple elts kk tpos) (.Call (.Name "enumerate" p) [e] [] pos) (iEnumA X.K ta) := by
  refine ⟨fun pins s σ H R I h => ?_⟩
  refine Call_ (ld_blt I hg hm boot_enumerate (PyProof.Rows.callWith_type1 (thn (ha.run pos pins s σ H _ I h) fun us s1 ⟨vs, H1, I1, r1, q1⟩ => ?_) hs rfl))
  obtain ⟨a, xs, ex, q1⟩ := q1
  subst ex
  cases r1 with
  | cons r rr =>
    cases rr
    cases r
    have fp : ∀ b ∈ [s1.heap.objs.size + 1, s1.heap.objs.size], FpOk X pins H1 b := fun b hb => by
      have hle : s1.heap.objs.size ≤ b := by
        have hb : b = s1.heap.objs.size + 1 ∨ b = s1.heap.objs.size := by simpa using hb
        rcases hb with z | z <;> omega
      exact I1.fpOk hle (I1.hok.fresh hle)
    rcases q1 with ⟨hq, q⟩ | ⟨hq, q⟩
    · obtain ⟨its, rv, p', hz⟩ := I1.list hq
      refine call_enumerate_list p'.isList fun h' he hit hsz hk => wpAny_pyIter_enum he ?_
      exact ⟨s1.heap.objs.size + 1, [s1.heap.objs.size + 1, s1.heap.objs.size], _, _, H1, rfl, I1.kept (t' := s1.toks) hk, turn_enum a (s1.heap.objs.size + 1) s1.heap.objs.size, ⟨⟨.none, he⟩, hit, Nat.succ_ne_self _⟩, fp, q⟩
    · obtain ⟨its, rv, p', hz⟩ := I1.tuple hq
      have hlt : a < s1.heap.objs.size := by obtain ⟨o, e, _⟩ := p'; exact Heap.lt_size e
      refine call_enumT p' fun h' he hit hsz hk => wpAny_pyIter_enum he ?_
      exact ⟨s1.heap.objs.size + 1, [s1.heap.objs.size + 1, s1.heap.objs.size], _, _, H1, rfl, I1.kept (t' := s1.toks) hk, turn_enumT a (s1.heap.objs.size + 1) s1.heap.objs.size, ⟨⟨.none, he⟩, hit, Nat.succ_ne_self _, Nat.ne_of_lt hlt⟩, fp, q⟩
theorem itEnumT {K : PySem.W.Frag} {T : Tk} {A : Addr → Prop} {a : Addr} {us : List V} {ds : List D} {H0 : Hp} (h : SqT K H0 a us) (r : Reps K T A H0 us ds) (w0 : Wd T A H0) : ItOk K T A (IteT K a) (enumFrom 0 ds) H0 := fun B hB i H w s => by
  have hs : SqT K H a us := sqT_stA (munB w0 hB) h s
  have r2 := (r.ext hB).stA (munB w0 hB) s
  refine ⟨fun p e => ?_, fun e => ⟨us, hs, by rw [enum_len] at e; rw [r.length]; exact e⟩⟩
  obtain ⟨d, e0, rfl⟩ := enum_get e
  obtain ⟨v, e1, r1⟩ := r2.get e0
  refine ⟨⟨us, v, hs, e1⟩, fun x H' ⟨t, x1, ex, nt, eH, y⟩ => ?_⟩
  subst ex eH
  have e3 := y us hs
  rw [e1] at e3
  cases e3
  rw [Nat.zero_add]
  exact new_tup w nt (.cons (.int _) (.cons r1 .nil))
def enumA : List D → Option (List D)
  | [.list xs] => some (enumFrom 0 xs)
  | [.tuple xs] => some (enumFrom 0 xs)
  | _ => none
section
variable {m : Type → Type} [PM m] {X : Cx} {ρ : Rh} {a : Expr} {xs : m (List D)} {pos : Pos}
theorem VI.enumA {p tpos : Pos} {elts : List Expr} {kk : Nat} (hm : X.mg "enumerate" = none) (ha : VA X ρ [a] xs) (hg : Gl X "enumerate" := by rfl) (hs : starEach [a] X.env = [(false, eval a X.env)] := by rfl) : VI X ρ (.Tuple elts kk tpos) (.Call (.Name "enumerate" p) [a] [] pos) (xs >>= fun l => PM.lift (Qv.enumA l)) :=
  imI (pi_enumA hg hm ha.pa hs) fun σ H R ⟨T, A, w, ev, q⟩ => by
    rw [PM.run_bind] at q
    refine ⟨T, A, w, ev, PM.mono (fun l q vs H1 s1 o1 r1 => ?_) q⟩
    rw [PM.run_lift] at q
    obtain ⟨ps, e1, q⟩ := q
    match l, e1 with
    | [.list ds], e1 =>
      obtain ⟨v, rfl, rv⟩ := reps1 r1
      cases rv with
      | lst n h r => cases e1; exact ⟨_, _, rfl, .inl ⟨SqL.of h, q _ _ s1 o1 (itEnum n h r (w.step s1 o1))⟩⟩
    | [.tuple ds], e1 =>
      obtain ⟨v, rfl, rv⟩ := reps1 r1
      cases rv with
      | tup h r => cases e1; exact ⟨_, _, rfl, .inr ⟨h, q _ _ s1 o1 (itEnumT h r (w.step s1 o1))⟩⟩
end
end Qv

namespace Qv
open PySem PySem.Spec PyProof.Rows L2
/-! ## constants of the module: tuples of numbers, texts, tuples -/
def mapO (f : Value → Option D) : List Value → Option (List D)
  | [] => some []
  | v :: vs => match f v, mapO f vs with
    | some d, some ds => some (d :: ds)
    | _, _ => none
def kdat (K : PySem.W.Frag) : Nat → Value → Option D
  | 0, _ => none
  | n + 1, v => match v with
    | .none => some .none
    | .bool b => some (.bool b)
    | .int i _ => some (.int i)
    | .str x _ => some (.str x)
    | .ref a => match K.lookup a with
      | some o => match o.cls, o.data with
        | .type t, .seq its _ => if (t == "tuple") && decide (its.size ≤ 1000) then (mapO (kdat K n) its.toList).map .tuple else none
        | _, _ => none
      | none => none
    | _ => none
theorem mapO_rep {K : PySem.W.Frag} {T : Tk} {A : Addr → Prop} {H : Hp} {f : Value → Option D} (hf : ∀ v d, f v = some d → ∃ u, RelV u v ∧ Rep K T A H u d) : ∀ {vs : List Value} {ds : List D}, mapO f vs = some ds → ∃ us, Vals us vs ∧ Reps K T A H us ds
  | [], _, h => by cases h; exact ⟨[], .nil, .nil⟩
  | v :: vs, ds, h => by
    unfold mapO at h
    cases e1 : f v with
    | none => rw [e1] at h; cases h
    | some d =>
      cases e2 : mapO f vs with
      | none => rw [e1, e2] at h; cases h
      | some es =>
        rw [e1, e2] at h
        cases h
        obtain ⟨u, h1, h2⟩ := hf v d e1
        obtain ⟨us, h3, h4⟩ := mapO_rep hf e2
        exact ⟨u :: us, .cons h1 h3, .cons h2 h4⟩
theorem kdat_rep {K : PySem.W.Frag} {T : Tk} {A : Addr → Prop} {H : Hp} : ∀ {n : Nat} {v : Value} {d : D}, kdat K n v = some d → ∃ u, RelV u v ∧ Rep K T A H u d
  | n + 1, v, d, h => by
    unfold kdat at h
    split at h
    · cases h; exact ⟨.non, rfl, .non⟩
    · cases h; exact ⟨.bl _, rfl, .bl _⟩
    · cases h; exact ⟨.int _, ⟨_, rfl⟩, .int _⟩
    · cases h; exact ⟨.str _, ⟨_, rfl⟩, .str _⟩
    · rename_i a
      split at h
      · rename_i o ho
        split at h
        · rename_i t its n2 hc hd
          by_cases q : ((t == "tuple") && decide (its.size ≤ 1000)) = true
          · rw [if_pos q] at h
            simp only [Bool.and_eq_true, beq_iff_eq, decide_eq_true_eq] at q
            cases e : mapO (kdat K n) its.toList with
            | none => rw [e] at h; cases h
            | some ds =>
              rw [e] at h
              cases h
              obtain ⟨us, h3, h4⟩ := mapO_rep (fun v d => kdat_rep (n := n)) e
              exact ⟨.ref a, rfl, .tup (.inr ⟨o, its, n2, ho, by rw [hc, q.1], hd, Nat.le_trans q.2 (by decide), h3⟩) h4⟩
          · rw [if_neg q] at h; cases h
        · cases h
      · cases h
    · cases h
/-- the module's name x stands for d -/
def GC (K : PySem.W.Frag) (mg : Str → Option Value) (x : Str) (d : D) : Prop := ∃ v, mg x = some v ∧ kdat K 10 v = some d
section
variable {m : Type → Type} [PM m] {X : Cx} {ρ : Rh} {pos : Pos}
theorem VE.glob {x : Str} {d : D} (h : GC X.K X.mg x d) (hg : Gl X x := by rfl) (hdb : (x == ("__debug__" : Str)) = false := by decide) : VE (m := m) X ρ (.Name x pos) (pure d) := by
  obtain ⟨v, h1, h2⟩ := h
  refine ⟨fun pins s σ H Q I ⟨T, A, w, ev, q⟩ => ?_⟩
  obtain ⟨u, r, p⟩ := kdat_rep (T := T) (A := A) (H := H) h2
  rw [PM.run_pure] at q
  exact ld_glob I hg h1 ⟨u, H, I, r, q _ _ (.same w p)⟩ hdb
end
end Qv

namespace Qv
open PySem PySem.Spec PyProof.Rows L2
/-! ## list(range(..)), tuple(range(..)) -/
theorem reps_rg {K : PySem.W.Frag} {T : Tk} {A : Addr → Prop} {H : Hp} {a b : Int} : Reps K T A H (rgV a b) (rgL a (b - a).toNat) := by
  unfold rgV rgL
  generalize List.range (b - a).toNat = l
  induction l with
  | nil => exact .nil
  | cons i l ih => exact .cons (.int _) ih
def rgOk (a b : Int) : Bool := okR a && okR b && decide ((b - a).toNat ≤ 2 ^ 24)
theorem rgOk_of {a b : Int} (h : rgOk a b = true) : RgOk a b := by
  simp only [rgOk, okR, Bool.and_eq_true, decide_eq_true_eq] at h
  exact ⟨h.1.1.1, h.1.1.2, h.1.2.1, h.1.2.2, h.2⟩
def rgM1 : D → Option (List D)
  | .int n => if rgOk 0 n then some (rgL 0 (n - 0).toNat) else none
  | _ => none
def rgM2 : D → D → Option (List D)
  | .int a, .int b => if rgOk a b then some (rgL a (b - a).toNat) else none
  | _, _ => none
section
variable {m : Type → Type} [PM m] {X : Cx} {ρ : Rh} {a b e : Expr} {xa xb : m D} {pos : Pos}
theorem VN.listR1 {p p2 p3 : Pos} (hml : X.mg "list" = none) (hmr : X.mg "range" = none) (ha : VE X ρ a xa) (hgl : Gl X "list" := by rfl) (hgr : Gl X "range" := by rfl) (n1 : starEach [a] X.env = (false, eval a X.env) :: starEach [] X.env := by rfl)
    (n2 : starEach [.Call (.Name "range" p2) [a] [] p3] X.env = (false, eval (.Call (.Name "range" p2) [a] [] p3) X.env) :: starEach [] X.env := by rfl) (hc : X.calm = true := by rfl) :
    VN X ρ (.Call (.Name "list" p) [.Call (.Name "range" p2) [a] [] p3] [] pos) (xa >>= fun p => PM.lift ((rgM1 p).map .list)) :=
  imE (pe_listRg hc hgl hml (prg_1 hgr hmr ha n1) n2) fun σ H Q ⟨T, A, w, ev, q⟩ => by
    refine ⟨T, A, w, ev, PM.mono (fun p q v H1 o => ?_) ((PM.run_bind _ _ _).mp q)⟩
    rw [PM.run_lift] at q
    obtain ⟨d, e, q⟩ := q
    cases p with
    | int n =>
      have rp := o.rp
      cases rp
      by_cases h : rgOk 0 n = true
      · simp only [rgM1, if_pos h, Option.map_some, Option.some.injEq] at e
        subst e
        exact ⟨n, rfl, rgOk_of h, fun t nt => q _ _ ((postN_new (o.wd w) nt reps_rg).after o.st (step_none o.st o.ok nt))⟩
      · simp [rgM1, h] at e
    | _ => cases e
theorem VN.listR2 {p p2 p3 : Pos} (hml : X.mg "list" = none) (hmr : X.mg "range" = none) (ha : VE X ρ a xa) (hb : VE X ρ b xb) (hgl : Gl X "list" := by rfl) (hgr : Gl X "range" := by rfl) (n1 : starEach [a, b] X.env = (false, eval a X.env) :: starEach [b] X.env := by rfl) (n3 : starEach [b] X.env = (false, eval b X.env) :: starEach [] X.env := by rfl) (hpl : (backTo p3 (starEach [b] X.env)).any (·.1) = false := by rfl)
    (n2 : starEach [.Call (.Name "range" p2) [a, b] [] p3] X.env = (false, eval (.Call (.Name "range" p2) [a, b] [] p3) X.env) :: starEach [] X.env := by rfl) (hc : X.calm = true := by rfl) :
    VN X ρ (.Call (.Name "list" p) [.Call (.Name "range" p2) [a, b] [] p3] [] pos) (xa >>= fun p => xb >>= fun q => PM.lift ((rgM2 p q).map .list)) :=
  imE (pe_listRg hc hgl hml (prg_2 hgr hmr ha hb n1 n3 hpl) n2) fun σ H Q ⟨T, A, w, ev, q⟩ => by
    refine ⟨T, A, w, ev, PM.mono (fun p q v H1 o => ?_) ((PM.run_bind _ _ _).mp q)⟩
    have w1 := o.wd w
    refine ⟨T, A, w1, ev.step w o.st, PM.mono (fun p2 q v2 H2 o2 => ?_) ((PM.run_bind _ _ _).mp q)⟩
    rw [PM.run_lift] at q
    obtain ⟨d, e, q⟩ := q
    have s := o.st.trans o2.st
    cases p with
    | int i =>
      cases p2 with
      | int n =>
        have rp := o.rp
        have rp2 := o2.rp
        cases rp
        cases rp2
        by_cases h : rgOk i n = true
        · simp only [rgM2, if_pos h, Option.map_some, Option.some.injEq] at e
          subst e
          exact ⟨i, n, rfl, rfl, rgOk_of h, fun t nt => q _ _ ((postN_new (o2.wd w1) nt reps_rg).after s (step_none s o2.ok nt))⟩
        · simp [rgM2, h] at e
      | _ => cases e
    | _ => cases e
theorem VE.tupR1 {p p2 p3 : Pos} (hml : X.mg "tuple" = none) (hmr : X.mg "range" = none) (ha : VE X ρ a xa) (hgl : Gl X "tuple" := by rfl) (hgr : Gl X "range" := by rfl) (n1 : starEach [a] X.env = (false, eval a X.env) :: starEach [] X.env := by rfl)
    (n2 : starEach [.Call (.Name "range" p2) [a] [] p3] X.env = (false, eval (.Call (.Name "range" p2) [a] [] p3) X.env) :: starEach [] X.env := by rfl) (hc : X.calm = true := by rfl) :
    VE X ρ (.Call (.Name "tuple" p) [.Call (.Name "range" p2) [a] [] p3] [] pos) (xa >>= fun p => PM.lift ((rgM1 p).map .tuple)) :=
  imE (pe_tupRg hc hgl hml (prg_1 hgr hmr ha n1) n2) fun σ H Q ⟨T, A, w, ev, q⟩ => by
    refine ⟨T, A, w, ev, PM.mono (fun p q v H1 o => ?_) ((PM.run_bind _ _ _).mp q)⟩
    rw [PM.run_lift] at q
    obtain ⟨d, e, q⟩ := q
    cases p with
    | int n =>
      have rp := o.rp
      cases rp
      by_cases h : rgOk 0 n = true
      · simp only [rgM1, if_pos h, Option.map_some, Option.some.injEq] at e
        subst e
        exact ⟨n, rfl, rgOk_of h, fun t nt => q _ _ ((Post.tup (o.wd w) nt reps_rg).after o.st)⟩
      · simp [rgM1, h] at e
    | _ => cases e
end
end Qv

namespace Qv
open PySem PySem.Spec PyProof.Rows L2
/-! ## three comparisons in a row -/
section
variable {m : Type → Type} [PM m] {X : Cx} {ρ : Rh} {a b c d : Expr} {xa xb xc xd : m D} {pos : Pos} {ta tb tc td : TE}
def tChain3 (r r' r2 : R2) (ta tb tc td : TE) : TE := fun σ H Q => ta σ H fun x H1 => tb σ H1 fun y H2 => r x y H2 fun z H3 => ∃ k, z = .bl k ∧
  (if k = true then tc σ H3 fun w H4 => r' y w H4 fun z2 H5 => ∃ k2, z2 = .bl k2 ∧ (if k2 = true then td σ H5 fun v H6 => r2 w v H6 Q else Q (.bl false) H5) else Q (.bl false) H3)
theorem pe_chain3 {op op' op2 : CmpOp} {r r' r2 : R2} (ho : OpR X (compareOp op) r) (ho' : OpR X (compareOp op') r') (ho2 : OpR X (compareOp op2) r2) (ha : PE X a ta) (hb : PE X b tb) (hc : PE X c tc) (hd : PE X d td)
    (hm : lastMarks [op, op', op2] [b, c, d] = false := by with_unfolding_all rfl) : PE X (.Compare a [op, op', op2] [b, c, d] pos) (tChain3 r r' r2 ta tb tc td) := by
  refine ⟨fun pins s σ H Q I h => ?_⟩
  refine Compare_chain (thn (ha.run pins s σ H _ I h) fun v s1 ⟨x, H1, I1, r1, q1⟩ => chain_link (thn (hb.run pins s1 σ H1 _ I1 q1) fun u s2 ⟨y, H2, I2, r2, q2⟩ => thn (ho pins s2 σ H2 x y v u _ I2 r1 r2 q2) fun d s3 ⟨z, H3, I3, r3, k, e, q3⟩ => ?_)) hm
  subst e
  cases r3
  refine wpAny_truthy_bool ?_
  cases k with
  | false => exact ite_ff ⟨.bl false, H3, I3, rfl, q3⟩
  | true =>
    refine ite_tt (chain_link (thn (hc.run pins s3 σ H3 _ I3 q3) fun w s4 ⟨x4, H4, I4, r4, q4⟩ => thn (ho' pins s4 σ H4 y x4 u w _ I4 r2 r4 q4) fun d2 s5 ⟨z2, H5, I5, r5, k2, e2, q5⟩ => ?_))
    subst e2
    cases r5
    refine wpAny_truthy_bool ?_
    cases k2 with
    | false => exact ite_ff ⟨.bl false, H5, I5, rfl, q5⟩
    | true => exact ite_tt (chain_last (thn (hd.run pins s5 σ H5 _ I5 q5) fun w' s6 ⟨z', H6, I6, r6, q6⟩ => ho2 pins s6 σ H6 x4 z' w w' Q I6 r4 r6 q6))
theorem VE.chain3 {op op' op2 : CmpOp} {r r' r2 : R2} {f f' f2 : D → D → Option D} (ho : OpR X (compareOp op) r) (ho' : OpR X (compareOp op') r') (ho2 : OpR X (compareOp op2) r2) (hr : OkR X.K f r) (hr' : OkR X.K f' r') (hr2 : OkR X.K f2 r2) (ha : VE X ρ a xa) (hb : VE X ρ b xb) (hc : VE X ρ c xc) (hd : VE X ρ d xd)
    (hm : lastMarks [op, op', op2] [b, c, d] = false := by with_unfolding_all rfl) :
    VE X ρ (.Compare a [op, op', op2] [b, c, d] pos) (xa >>= fun p => xb >>= fun q => PM.lift ((f p q).bind dBool) >>= fun k => if k = true then xc >>= fun r => PM.lift ((f' q r).bind dBool) >>= fun k2 => if k2 = true then xd >>= fun s => PM.lift (f2 r s) else pure (.bool false) else pure (.bool false)) :=
  imE (pe_chain3 ho ho' ho2 ha hb hc hd hm) fun σ H Q ⟨T, A, w, ev, h⟩ => by
    refine ⟨T, A, w, ev, PM.mono (fun p h v H1 o1 => ?_) ((PM.run_bind _ _ _).mp h)⟩
    refine ⟨T, A, o1.wd w, ev.step w o1.st, PM.mono (fun q h v2 H2 o2 => ?_) ((PM.run_bind _ _ _).mp h)⟩
    rw [PM.run_bind, PM.run_lift] at h
    obtain ⟨k, e, h⟩ := h
    have w2 := o2.wd (o1.wd w)
    have ev2 := (ev.step w o1.st).step (o1.wd w) o2.st
    obtain ⟨d1, ef, e⟩ := Option.bind_eq_some_iff.mp e
    refine hr T A H2 v v2 p q d1 _ w2 (o1.rp.step (o1.wd w) o2.st) o2.rp ef fun v3 H3 o3 => ?_
    cases d1 with
    | bool kk =>
      cases e
      have r3 := o3.rp
      cases r3
      refine ⟨k, rfl, ?_⟩
      have w3 := o3.wd w2
      have ev3 := ev2.step w2 o3.st
      cases k with
      | false =>
        rw [if_neg Bool.false_ne_true] at h ⊢
        rw [PM.run_pure] at h
        exact h _ _ ⟨o1.st.trans (o2.st.trans o3.st), o3.ok, .bl _⟩
      | true =>
        rw [if_pos rfl] at h ⊢
        refine ⟨T, A, w3, ev3, PM.mono (fun r h v4 H4 o4 => ?_) ((PM.run_bind _ _ _).mp h)⟩
        rw [PM.run_bind, PM.run_lift] at h
        obtain ⟨k2, e2, h⟩ := h
        obtain ⟨d2, ef2, e2⟩ := Option.bind_eq_some_iff.mp e2
        have w4 := o4.wd w3
        refine hr' T A H4 v2 v4 q r d2 _ w4 ((o2.rp.step w2 o3.st).step w3 o4.st) o4.rp ef2 fun v5 H5 o5 => ?_
        cases d2 with
        | bool k5 =>
          cases e2
          have r5 := o5.rp
          cases r5
          refine ⟨k2, rfl, ?_⟩
          have w5 := o5.wd w4
          cases k2 with
          | false =>
            rw [if_neg Bool.false_ne_true] at h ⊢
            rw [PM.run_pure] at h
            exact h _ _ ⟨o1.st.trans (o2.st.trans (o3.st.trans (o4.st.trans o5.st))), o5.ok, .bl _⟩
          | true =>
            rw [if_pos rfl] at h ⊢
            refine ⟨T, A, w5, (ev3.step w3 o4.st).step w4 o5.st, PM.mono (fun t h v6 H6 o6 => ?_) ((PM.run_bind _ _ _).mp h)⟩
            rw [PM.run_lift] at h
            obtain ⟨d3, ef3, h⟩ := h
            exact hr2 T A H6 v4 v6 r t d3 _ (o6.wd w5) ((o4.rp.step w4 o5.st).step w5 o6.st) o6.rp ef3 fun v7 H7 o7 => h _ _ ⟨o1.st.trans (o2.st.trans (o3.st.trans (o4.st.trans (o5.st.trans (o6.st.trans o7.st))))), o7.ok, o7.rp⟩
        | _ => cases e2
    | _ => cases e
end
end Qv

namespace Qv
open PySem PySem.Spec PyProof.Rows L2
/-! ## y = x.pop() -/
section
variable {K : PySem.W.Frag} {T : Tk} {A : Addr → Prop} {H : Hp}
theorem Reps.dropLast : ∀ {vs : List V} {ds : List D}, Reps K T A H vs ds → Reps K T A H vs.dropLast ds.dropLast
  | _, _, .nil => .nil
  | _, _, .cons h .nil => .nil
  | _, _, .cons h (.cons h2 r) => .cons h (Reps.dropLast (.cons h2 r))
end
section
variable {m : Type → Type} [PM m] {X : Cx} {Γ : List Kd} {ρ : Rh} {pos : Pos}
theorem SB.pop {i j : Nat} {x y : Str} {px py ap cp : Pos} {q0 : D} {E : D × D → Rh} (hr : rAt ρ i = some q0) (hE : ∀ pl, E pl = rPut (rPut ρ i pl.2) j pl.1) (hN : X.N.Nodup) (hij : j ≠ i := by decide) (hki : kAt Γ i = .ow := by rfl) (hkj : kAt Γ j = .sh := by rfl) (hi : X.N[i]? = some x := by rfl) (hj : X.N[j]? = some y := by rfl)
    (hv : Vis X.env.scope x := by first | exact Or.inl rfl | exact Or.inr (Or.inl rfl) | exact Or.inr (Or.inr rfl)) (hd : (x == ("__debug__" : Str)) = false := by decide) (hcd : (x == ("__classdict__" : Str)) = false := by decide) (hl : Loc X.env.scope y := by first | exact Or.inl rfl | exact Or.inr rfl)
    (hbase : attributeBase (.Name x px) "pop" X.env (eval (.Name x px) X.env) = eval (.Name x px) X.env := by rfl) (hline : (ap.endLine == cp.line) = true := by rfl) (hs : swapsWith (.Call (.Attribute (.Name x px) "pop" ap) [] [] cp) (some (.Name y py)) pos.line X.env = pure false := by rfl) (hf : X.fn y = true ∨ X.env.scope.names.lookup y = some .local := by first | exact .inl rfl | exact .inr rfl) :
    SB (m := m) X Γ ρ (.Assign [.Name y py] (.Call (.Attribute (.Name x px) "pop" ap) [] [] cp) pos) E (PM.lift (dPop q0)) :=
  imB (imS (ps_set hN hj hl (pe_bm0 PySem.F.plainAttrs_list PySem.F.slot_list_pop PySem.F.type_list_pop mt_pop (pe_var hi hv hd hcd) hbase hline) hs hf) fun D σ H ⟨T, A, O, r, q⟩ => by
    have q := (PM.run_lift _ _).mp q
    obtain ⟨pl, e, q⟩ := q
    obtain ⟨a, h1, h2, h3⟩ := r.ow i q0 hr hki
    cases h3 with
    | @lst us ds e1 rr =>
      have e : (ds[ds.length - 1]?).map (fun p => (p, PyData.list ds.dropLast)) = some pl := e
      cases ep : ds[ds.length - 1]? with
      | none => rw [ep] at e; cases e
      | some p =>
        rw [ep] at e
        cases e
        obtain ⟨u, g1, g2⟩ := rr.get ep
        refine ⟨.ref a, h1, .inl ⟨rfl, _, SqL.of e1⟩, a, us, u, rfl, rfl, e1, by rw [rr.length]; exact g1, ?_⟩
        have rw1 := r.write hr hki h2 (rr.dropLast)
        have gp : Rep X.K T (AT A O) (upd H a (.lst us.dropLast)) u p := g2.stA r.wd.mun (stA_own h2)
        exact q _ _ O (rw1.put gp hkj) ((Fr.write r h2).trans (Fr.put rw1 (by rw [hkj]; decide)) (r.wdW h2).ok (r.wdW h2).ok)
    | dct _ _ => cases e
    | dck _ _ _ => cases e) hE
end
end Qv

namespace Qv
open PySem PySem.Spec PyProof.Rows L2
/-! ## x.remove(k), whole numbers -/
def idxI (k : Int) : List Int → Option Nat
  | [] => none
  | x :: xs => if x = k then some 0 else (idxI k xs).map (· + 1)
theorem idxI_spec {k : Int} : ∀ {ns : List Int} {j : Nat}, idxI k ns = some j → ns[j]? = some k ∧ ∀ m : Nat, m < j → ns[m]? ≠ some k
  | [], _, h => by cases h
  | x :: xs, j, h => by
    unfold idxI at h
    by_cases e : x = k
    · rw [if_pos e] at h
      cases h
      exact ⟨by simp [e], fun m hm => by omega⟩
    · rw [if_neg e] at h
      cases e2 : idxI k xs with
      | none => rw [e2] at h; cases h
      | some i =>
        rw [e2] at h
        cases h
        obtain ⟨h1, h2⟩ := idxI_spec e2
        refine ⟨by simpa using h1, fun m hm => ?_⟩
        have hm : m < i + 1 := hm
        cases m with
        | zero => simp [e]
        | succ m => simpa using h2 m (Nat.lt_of_succ_lt_succ hm)
def dRem : D → D → Option D
  | .list ds, .int k => (dInts ds).bind fun ns => (idxI k ns).map fun j => .list ((ns.eraseIdx j).map .int)
  | _, _ => none
section
variable {K : PySem.W.Frag} {T : Tk} {A : Addr → Prop} {H : Hp}
theorem reps_ints : ∀ (ns : List Int), Reps K T A H (ns.map V.int) (ns.map PyData.int)
  | [] => .nil
  | n :: ns => .cons (.int n) (reps_ints ns)
end
section
variable {m : Type → Type} [PM m] {X : Cx} {Γ : List Kd} {ρ : Rh} {e : Expr} {x : m D} {pos : Pos}
theorem SB.rem {i : Nat} {y : Str} {py apos p1 : Pos} {q0 : D} {E : D → Rh} (h : VE X ρ e x) (hr : rAt ρ i = some q0) (hE : ∀ p, E p = rPut ρ i p) (hk : kAt Γ i = .ow := by rfl) (hi : X.N[i]? = some y := by rfl) (hv : Vis X.env.scope y := by first | exact Or.inl rfl | exact Or.inr (Or.inl rfl) | exact Or.inr (Or.inr rfl)) (hd : (y == ("__debug__" : Str)) = false := by decide) (hcd : (y == ("__classdict__" : Str)) = false := by decide)
    (hbase : attributeBase (.Name y py) "remove" X.env (eval (.Name y py) X.env) = eval (.Name y py) X.env := by rfl)
    (hfew : ((backTo p1 (starEach [e] X.env)).all (fun x => !x.1) && (backToKw p1 (keywordEach [] X.env)).all (fun x => x.1.isSome) && decide ([e].length + ([] : List Keyword).length + (if ([] : List Keyword).isEmpty then 0 else 1) < 30)) = true := by rfl)
    (hline : (apos.endLine == p1.line) = true := by rfl) (hs : starEach [e] X.env = (false, eval e X.env) :: starEach [] X.env := by rfl) (hplain : (backTo p1 (starEach [] X.env)).any (·.1) = false := by rfl) (hsw : swapsWith (.Call (.Attribute (.Name y py) "remove" apos) [e] [] p1) none pos.line X.env = pure false := by rfl) :
    SB X Γ ρ (.Expr (.Call (.Attribute (.Name y py) "remove" apos) [e] [] p1) pos) E (x >>= fun p => PM.lift (dRem q0 p)) :=
  imB (imS (ps_expr (pe_bm PySem.F.plainAttrs_list PySem.F.slot_list_remove PySem.F.type_list_remove mt_remove (pe_var hi hv hd hcd) (pa_cons h pa_nil hs) hbase hfew hline hs hplain) hsw) fun D σ H ⟨T, A, O, r, q⟩ => by
    obtain ⟨a, h1, h2, h3⟩ := r.ow i q0 hr hk
    refine ⟨.ref a, h1, ?_, T, A, r.wdA, r.all, PM.mono (fun p q v H' o => ?_) ((PM.run_bind _ _ _).mp q)⟩
    · cases h3 with
      | lst e1 _ => exact .inl ⟨rfl, _, SqL.of e1⟩
      | dct e1 _ => exact (PM.run_no _ (PM.mono (fun p q => by
          rw [PM.run_lift] at q
          obtain ⟨d, ed, _⟩ := q
          cases ed) ((PM.run_bind _ _ _).mp q))).elim
      | dck _ e1 _ => exact (PM.run_no _ (PM.mono (fun p q => by
          rw [PM.run_lift] at q
          obtain ⟨d, ed, _⟩ := q
          cases ed) ((PM.run_bind _ _ _).mp q))).elim
    · rw [PM.run_lift] at q
      obtain ⟨d, ed, q⟩ := q
      have r1 := r.step o.st o.ok
      obtain ⟨a', _, h2', h3'⟩ := r1.ow i q0 hr hk
      rw [h2] at h2'
      cases h2'
      cases h3' with
      | @lst us ds e1 rr =>
        cases p with
        | int k =>
          have o2 := o.rp
          cases o2
          obtain ⟨ns, en, ed⟩ := Option.bind_eq_some_iff.mp (show (dInts ds).bind _ = some d from ed)
          cases ej : idxI k ns with
          | none => rw [ej] at ed; cases ed
          | some j =>
            rw [ej] at ed
            cases ed
            obtain ⟨rfl, _⟩ := ints_of rr en
            obtain ⟨k1, k2⟩ := idxI_spec ej
            refine ⟨a, ns, k, j, rfl, rfl, e1, k1, k2, ?_⟩
            exact q _ _ O (r1.write hr hk h2 (reps_ints _)) ((Fr.step r o.st o.ok).trans (Fr.write r1 h2) o.ok (r1.wdW h2).ok)
        | _ => cases ed
      | dct _ _ => cases ed
      | dck _ _ _ => cases ed) hE
end
end Qv

namespace Qv
open PySem PySem.Spec PyProof.Rows L2
/-! ## the draws -/
def isTok : D → Bool
  | .dict [(.none, .none)] => true
  | _ => false
def isScr : D → Bool
  | .dict [(.none, .bool true)] => true
  | _ => false
/-- _law_draw(state, script, size) -/
def drawC : List D → PP D := un3 fun a b k => match k with
  | .int k => if isTok a && isScr b && decide (k < 1000000000) then draw k else fail
  | _ => fail
def isTokA : D → Bool
  | .dict [(.none, .bool false)] => true
  | _ => false
/-- _law_draw(state, many) -/
def drawA : List D → PP D := un2 fun a k => match k with
  | .int k => if isTokA a && decide (k < 1000000000) then draw k else fail
  | _ => fail
section
variable {K : PySem.W.Frag} {T : Tk} {A : Addr → Prop} {H : Hp}
theorem no_none {xs : List En} {ds : List (D × D)} {y : D} {e : D} (r : RepD K T A H xs ds) (h : ds = (e, y) :: []) (hk : keyT e = none) : False := by
  cases r with
  | nil => cases h
  | cons k _ _ _ =>
    cases h
    rw [hk] at k
    cases k
theorem no_noneK {xs : List (Key × V)} {ds : List (D × D)} {y : D} {e : D} (r : RepK K T A H xs ds) (h : ds = (e, y) :: []) (hk : keyS e = none) : False := by
  cases r with
  | nil => cases h
  | cons k _ _ =>
    cases h
    rw [hk] at k
    cases k
theorem rep_tokA {v : V} {d : D} (r : Rep K T A H v d) (h : isTokA d = true) : v = .ref T.s ∧ T.kd = 2 := by
  cases r with
  | tok2 h0 => exact ⟨rfl, h0⟩
  | tok _ => cases h
  | scr _ _ => cases h
  | dic _ _ r => unfold isTokA at h; split at h <;> first | (rename_i e; cases e; exact (no_none r rfl rfl).elim) | cases h
  | dck _ _ _ r => unfold isTokA at h; split at h <;> first | (rename_i e; cases e; exact (no_noneK r rfl rfl).elim) | cases h
  | _ => cases h
theorem rep_tok {v : V} {d : D} (r : Rep K T A H v d) (h : isTok d = true) : v = .ref T.s ∧ T.kd = 1 := by
  cases r with
  | tok h0 => exact ⟨rfl, h0⟩
  | scr _ _ => cases h
  | dic _ _ r => unfold isTok at h; split at h <;> first | (rename_i e; cases e; exact (no_none r rfl rfl).elim) | cases h
  | dck _ _ _ r => unfold isTok at h; split at h <;> first | (rename_i e; cases e; exact (no_noneK r rfl rfl).elim) | cases h
  | _ => cases h
theorem rep_scr {v : V} {d : D} (r : Rep K T A H v d) (h : isScr d = true) : v = .ref T.scr ∧ T.kd = 1 ∧ (T.fz = false → KL K T.scr (T.ns.map V.int)) := by
  cases r with
  | scr h1 h2 => exact ⟨rfl, h1, h2⟩
  | tok _ => cases h
  | dic _ _ r => unfold isScr at h; split at h <;> first | (rename_i e; cases e; exact (no_none r rfl rfl).elim) | cases h
  | dck _ _ _ r => unfold isScr at h; split at h <;> first | (rename_i e; cases e; exact (no_noneK r rfl rfl).elim) | cases h
  | _ => cases h
def spRefill (K : PySem.W.Frag) : Sp := fun vs H Q _ => ∃ (a : Addr) (ns : List Int) (k : Int), vs = [.ref a, .int k] ∧ SqL K H a (ns.map V.int) ∧ 0 ≤ k ∧ ∀ r, 0 ≤ r → Q (.int r) H
/-- what the drawing body is asked for -/
theorem draw_pre {vs : List V} {Q : VK} {E : XK} (h : spC K drawC vs H Q E) : ∃ (T : Tk) (A : Addr → Prop) (n k v : Int), vs = [.ref T.s, .ref T.scr, .int n] ∧ Wd T A H ∧ T.kd = 1 ∧ 0 < n ∧ n < 1000000000 ∧ 0 ≤ k ∧ 0 ≤ v ∧ H T.s = some (.lst [.int k, .int v]) ∧ SqL K H T.scr (T.ns.map V.int) ∧
    ∀ (d k' v' : Int), 0 ≤ d → d < n → 0 ≤ k' → 0 ≤ v' → Q (.int d) (upd H T.s (.lst [.int k', .int v'])) := by
  obtain ⟨T, A, ds, w, r, q⟩ := h
  have hl := un3_len _ _ q
  match ds, hl with
  | [a, b, .int n], _ =>
    match vs, r with
    | [v1, v2, v3], .cons r1 (.cons r2 (.cons r3 .nil)) =>
      cases r3
      have q : PM.run (if isTok a && isScr b && decide (n < 1000000000) then draw n else fail : PP D) _ := q
      by_cases hh : (isTok a && isScr b && decide (n < 1000000000)) = true
      · rw [if_pos hh, run_draw] at q
        simp only [Bool.and_eq_true, decide_eq_true_eq] at hh
        obtain ⟨rfl, h0⟩ := rep_tok r1 hh.1.1
        obtain ⟨rfl, h1, h2⟩ := rep_scr r2 hh.1.2
        obtain ⟨⟨k, v, k1, k2, k3⟩, k4⟩ := w.ok.1 h1
        have hs : SqL K H T.scr (T.ns.map V.int) := by
          cases e : T.fz with
          | true =>
            obtain ⟨o, z⟩ := k4 e
            exact .inl (.inr ⟨o, z⟩)
          | false => exact .inr (h2 e)
        refine ⟨T, A, n, k, v, rfl, w, h1, q.1, hh.2, k1, k2, k3, hs, fun d k' v' d1 d2 k5 k6 => q.2 d d1 d2 _ _ ⟨fun a o e n => ?_, ?_, .int d⟩⟩
        · rw [upd_ne fun z => n (.inl ⟨by omega, z⟩)]; exact e
        · refine ⟨fun _ => ⟨⟨k', v', k5, k6, upd_same⟩, fun z => ?_⟩, w.ok.2.1, fun z => by omega⟩
          obtain ⟨o, z⟩ := k4 z
          by_cases e : T.scr = T.s
          · rw [e, k3] at z; cases z
          · exact ⟨o, by rw [upd_ne e]; exact z⟩
      · rw [if_neg hh] at q
        obtain ⟨_, e, _⟩ := (PM.run_lift _ _).mp q
        cases e
  | [a, b, .none], _ => obtain ⟨_, e, _⟩ := (PM.run_lift _ _).mp q; cases e
  | [a, b, .bool _], _ => obtain ⟨_, e, _⟩ := (PM.run_lift _ _).mp q; cases e
  | [a, b, .str _], _ => obtain ⟨_, e, _⟩ := (PM.run_lift _ _).mp q; cases e
  | [a, b, .list _], _ => obtain ⟨_, e, _⟩ := (PM.run_lift _ _).mp q; cases e
  | [a, b, .tuple _], _ => obtain ⟨_, e, _⟩ := (PM.run_lift _ _).mp q; cases e
  | [a, b, .dict _], _ => obtain ⟨_, e, _⟩ := (PM.run_lift _ _).mp q; cases e
def rLenV (K : PySem.W.Frag) : List V → Hp → VK → Prop := fun xs H Q => ∃ x n, xs = [x] ∧ LenV K x H n ∧ Q (.int n) H
def rInt1 : List V → Hp → VK → Prop := fun xs H Q => (∃ i, xs = [.int i] ∧ Q (.int i) H) ∨ ∃ k, xs = [.bl k] ∧ Q (.int (if k = true then 1 else 0)) H
def tFin : TS := tRet (tOp (rI (fun _ j => 0 < j) fun i j => .int (i % j)) (tCB rInt1 (tCons (tOp (rI0 fun i j => .int (i + j)) (tOp (rI CMul fun i j => .int (i * j)) (tCB rInt1 (tCons (tOp (rI0 fun i j => .int (i + j)) (tOp (rI0 fun i j => .int (i + j)) (tOp (rI CMul fun i j => .int (i * j)) (tVar 2) (tC (.int 48271))) (tOp (rI CMul fun i j => .int (i * j)) (tVar 1) (tC (.int 69621)))) (tC (.int 12345))) tNil)) (tC (.int 40692))) (tC (.int 7))) tNil)) (tC (.int 2147483399)))
def tBig (K : PySem.W.Frag) : TS := tSeq (tIfS (tAnd (tB (tGe (tVar 2) (tOp (rI CPow fun i j => .int (i ^ j.toNat)) (tC (.int 10)) (tC (.int 18))))) (tB (tLt (tVar 1) (tCB (rLenV K) (tCons (tVar 0) tNil))))) (tRet (tVar 2)) tNext) tFin
def tLow (K : PySem.W.Frag) : TS := tSeq (tIfS (tB (tLt (tVar 2) (tC (.int 0)))) (tAsg (tOp (rI0 fun i j => .int (i - j)) (tC (.int 1)) (tOp (rI CMul fun i j => .int (i * j)) (tC (.int 2)) (tVar 2))) (gName 2)) tNext) (tBig K)
def tPick (K : PySem.W.Frag) : TS := tSeq (tIfS (fun σ H Q => tVar 0 σ H fun x H' => ∃ k, TruV K x H' k ∧ Q k H') (tAsg (tOp (rIxL K) (tVar 0) (tOp (rI (fun _ j => 0 < j) fun i j => .int (i % j)) (tVar 1) (tCB (rLenV K) (tCons (tVar 0) tNil)))) (gName 2)) tNext) (tLow K)
def tRefill (K : PySem.W.Frag) : TS := tSeq (tAsg (tC (.int 0)) (gName 2)) (tPick K)
variable {D : Ends} {a : Addr} {ns : List Int} {k c : Int}
theorem fin_run (q : ∀ r, 0 ≤ r → D.rt (.int r) H) : tFin D [some (.ref a), some (.int k), some (.int c)] H :=
  ⟨_, rfl, _, _, rfl, rfl, .inr ⟨by decide, by decide⟩, _, rfl, _, _, rfl, rfl, .inr ⟨by decide, by decide⟩, _, _, rfl, rfl, _, _, rfl, rfl, .inl ⟨_, rfl, _, _, rfl, rfl, .inr ⟨by decide, by decide⟩, _, _, rfl, rfl, .inl ⟨_, rfl, _, _, rfl, rfl, (by decide : (0 : Int) < 2147483399), q _ (Int.emod_nonneg _ (by decide))⟩⟩⟩
theorem lenScr (hs : SqL K H a (ns.map V.int)) : LenV K (.ref a) H ns.length := .inl ⟨_, hs, by rw [List.length_map]⟩
theorem big_run (hs : SqL K H a (ns.map V.int)) (hc : 0 ≤ c) (q : ∀ r, 0 ≤ r → D.rt (.int r) H) : tBig K D [some (.ref a), some (.int k), some (.int c)] H := by
  refine ⟨_, rfl, _, _, rfl, rfl, ⟨by decide, by decide, by decide⟩, _, _, rfl, rfl, _, rfl, ?_⟩
  dsimp only
  by_cases h1 : (decide ((10 : Int) ^ (18 : Int).toNat ≤ c)) = true
  · rw [if_pos h1]
    refine ⟨_, rfl, _, rfl, ⟨_, _, rfl, lenScr hs, _, _, rfl, rfl, _, rfl, ?_⟩⟩
    by_cases h2 : (decide (k < (ns.length : Int))) = true
    · dsimp only
      rw [if_pos h2]
      exact ⟨_, rfl, q c hc⟩
    · dsimp only
      rw [if_neg h2]
      exact fin_run q
  · rw [if_neg h1]
    try dsimp only
    rw [if_neg Bool.false_ne_true]
    exact fin_run q
theorem low_run (hs : SqL K H a (ns.map V.int)) (q : ∀ r, 0 ≤ r → D.rt (.int r) H) : tLow K D [some (.ref a), some (.int k), some (.int c)] H := by
  refine ⟨_, rfl, _, _, rfl, rfl, _, rfl, ?_⟩
  by_cases h1 : (decide (c < 0)) = true
  · dsimp only
    rw [if_pos h1]
    refine ⟨_, rfl, _, _, rfl, rfl, .inl ⟨by decide, by decide⟩, _, _, rfl, rfl, ?_⟩
    have := of_decide_eq_true h1
    exact big_run (c := 1 - 2 * c) hs (by omega) q
  · dsimp only
    rw [if_neg h1]
    have : ¬ c < 0 := fun z => h1 (decide_eq_true z)
    exact big_run hs (by omega) q
theorem refill_run (hs : SqL K H a (ns.map V.int)) (hk : 0 ≤ k) (q : ∀ r, 0 ≤ r → D.rt (.int r) H) : tRefill K D (L2.start ["script", "k", "cell"] [.ref a, .int k]) H := by
  show tPick K D [some (.ref a), some (.int k), some (.int 0)] H
  cases ns with
  | nil =>
    refine ⟨_, rfl, false, .inl ⟨_, hs, rfl⟩, ?_⟩
    dsimp only
    rw [if_neg Bool.false_ne_true]
    exact low_run hs q
  | cons n ns =>
    refine ⟨_, rfl, true, .inl ⟨_, hs, rfl⟩, ?_⟩
    dsimp only
    rw [if_pos rfl]
    have hl : (0 : Int) < ((n :: ns).length : Nat) := by simp
    have h0 := Int.emod_nonneg k (Int.ne_of_gt hl)
    have h1 := Int.emod_lt_of_pos k hl
    obtain ⟨j, hj⟩ := Int.eq_ofNat_of_zero_le h0
    have hj2 : j < (n :: ns).length := by omega
    refine ⟨_, rfl, _, rfl, _, rfl, _, _, rfl, lenScr hs, _, _, rfl, rfl, hl, a, _, _, .int (n :: ns)[j], rfl, rfl, hs, ?_, ?_⟩
    · show atI ((n :: ns).map V.int) (k % ((n :: ns).length : Int)) = _
      rw [hj]
      exact atI_nat (by rw [List.getElem?_map, List.getElem?_eq_getElem hj2]; rfl)
    · exact low_run hs q
def tDrawTail (K : PySem.W.Frag) : TS :=
  tSeq (tAsg (tOp (rI (fun _ j => 0 < j) fun i j => .int (i % j)) (tCB rInt1 (tCons (tOp (rIxL K) (tVar 0) (tC (.int 1))) tNil)) (tVar 2)) (gName 3))
  (tSeq (tAsg (tOp rDivD (tOp (rIxL K) (tVar 0) (tC (.int 1))) (tVar 2)) (gSub (tVar 0) (tC (.int 1)) rSetL)) (tRet (tVar 3)))
def tDraw (K : PySem.W.Frag) : TS :=
  tSeq (tIfS (tB (tEqI (tOp (rIxL K) (tVar 0) (tC (.int 1))) (tC (.int 0))))
    (tSeq (tAsg (tCall (spRefill K) [] E0 (tCons (tVar 1) (tCons (tOp (rIxL K) (tVar 0) (tC (.int 0))) tNil))) (gSub (tVar 0) (tC (.int 1)) rSetL))
      (tAsg (tOp (rI0 fun i j => .int (i + j)) (tOp (rIxL K) (tVar 0) (tC (.int 0))) (tC (.int 1))) (gSub (tVar 0) (tC (.int 0)) rSetL))) tNext) (tDrawTail K)
theorem drawTail_run {s scr : Addr} {n k v : Int} (hs : H s = some (.lst [.int k, .int v])) (hn : 0 < n) (hz : n < 1073741824) (hv : 0 ≤ v) (q : ∀ d v' : Int, 0 ≤ d → d < n → 0 ≤ v' → D.rt (.int d) (upd H s (.lst [.int k, .int v']))) : tDrawTail K D [some (.ref s), some (.ref scr), some (.int n), none] H := by
  refine ⟨_, rfl, s, _, 1, .int v, rfl, rfl, .of hs, rfl, .inl ⟨v, rfl, _, rfl, _, _, rfl, rfl, hn, ?_⟩⟩
  refine ⟨_, rfl, s, _, 1, .int v, rfl, rfl, .of hs, rfl, _, rfl, .inl ⟨_, _, rfl, rfl, ⟨by omega, by omega⟩, ?_⟩⟩
  refine ⟨_, rfl, s, _, 1, 1, rfl, rfl, hs, rfl, _, rfl, ?_⟩
  exact q (v % n) (v.fdiv n) (Int.emod_nonneg _ (by omega)) (Int.emod_lt_of_pos _ hn) (Int.fdiv_nonneg hv (by omega))
theorem draw_run {s scr : Addr} {ns : List Int} {n k v : Int} (hs : H s = some (.lst [.int k, .int v])) (hscr : SqL K H scr (ns.map V.int)) (hn : 0 < n) (hz : n < 1073741824) (hk : 0 ≤ k) (hv : 0 ≤ v) (q : ∀ d k' v' : Int, 0 ≤ d → d < n → 0 ≤ k' → 0 ≤ v' → D.rt (.int d) (upd H s (.lst [.int k', .int v']))) : tDraw K D (L2.start ["state", "script", "size", "digit"] [.ref s, .ref scr, .int n]) H := by
  show tDraw K D [some (.ref s), some (.ref scr), some (.int n), none] H
  refine ⟨_, rfl, s, _, 1, .int v, rfl, rfl, .of hs, rfl, _, _, rfl, rfl, _, rfl, ?_⟩
  dsimp only
  by_cases h : decide (v = 0) = true
  · rw [if_pos h]
    refine ⟨_, rfl, _, rfl, s, _, 0, .int k, rfl, rfl, .of hs, rfl, scr, ns, k, rfl, hscr, hk, fun r hr => ?_⟩
    refine ⟨_, rfl, s, _, 1, 1, rfl, rfl, hs, rfl, ?_⟩
    have h1 : upd H s (.lst [.int k, .int r]) s = some (.lst [.int k, .int r]) := upd_same
    refine ⟨_, rfl, s, _, 0, .int k, rfl, rfl, .of h1, rfl, _, _, rfl, rfl, ?_⟩
    refine ⟨_, rfl, s, _, 0, 0, rfl, rfl, h1, rfl, ?_⟩
    have h2 : upd (upd H s (.lst [.int k, .int r])) s (.lst [.int (k + 1), .int r]) = upd H s (.lst [.int (k + 1), .int r]) := upd_upd
    have h3 : tDrawTail K D [some (.ref s), some (.ref scr), some (.int n), none] (upd H s (.lst [.int (k + 1), .int r])) := drawTail_run upd_same hn hz hr fun d v' d1 d2 d3 => by
      rw [upd_upd]
      exact q d (k + 1) v' d1 d2 (by omega) d3
    rw [← h2] at h3
    exact h3
  · rw [if_neg h]
    exact drawTail_run hs hn hz hv fun d v' d1 d2 d3 => q d k v' d1 d2 hk d3
/-! ### the other draws: state = [cells, seed] -/
def spState (K : PySem.W.Frag) : Sp := fun vs H Q _ => ∃ (a : Addr) (ns : List Int), vs = [.ref a] ∧ SqL K H a (ns.map V.int) ∧ ns.length ≤ 1000 ∧
  ∀ (H' : Hp) (s c : Addr) (xs : List Int) (z : Int), (∀ b o, H b = some o → H' b = some o) → s ≠ c → 0 ≤ z → (∀ x ∈ xs, 0 ≤ x) → H' s = some (.lst [.ref c, .int z]) → H' c = some (.lst (xs.map V.int)) → H s = none → H c = none → Q (.ref s) H'
theorem drawA_pre {vs : List V} {Q : VK} {E : XK} (h : spC K drawA vs H Q E) : ∃ (T : Tk) (A : Addr → Prop) (n : Int) (xs : List Int) (z : Int), vs = [.ref T.s, .int n] ∧ 0 < n ∧ n < 1000000000 ∧ 0 ≤ z ∧ (∀ x ∈ xs, 0 ≤ x) ∧ T.s ≠ T.c ∧ H T.s = some (.lst [.ref T.c, .int z]) ∧ H T.c = some (.lst (xs.map V.int)) ∧
    ∀ (d : Int) (H' : Hp) (xs' : List Int) (z' : Int), 0 ≤ d → d < n → 0 ≤ z' → (∀ x ∈ xs', 0 ≤ x) → (∀ b, b ≠ T.s → b ≠ T.c → H' b = H b) → H' T.s = some (.lst [.ref T.c, .int z']) → H' T.c = some (.lst (xs'.map V.int)) → Q (.int d) H' := by
  obtain ⟨T, A, ds, w, r, q⟩ := h
  have hl := un2_len _ _ q
  match ds, hl with
  | [a, .int n], _ =>
    match vs, r with
    | [v1, v2], .cons r1 (.cons r3 .nil) =>
      cases r3
      have q : PM.run (if isTokA a && decide (n < 1000000000) then draw n else fail : PP D) _ := q
      by_cases hh : (isTokA a && decide (n < 1000000000)) = true
      · rw [if_pos hh, run_draw] at q
        simp only [Bool.and_eq_true, decide_eq_true_eq] at hh
        obtain ⟨rfl, h0⟩ := rep_tokA r1 hh.1
        obtain ⟨xs, z, k1, k2, k3, k4, k5⟩ := w.ok.2.2 h0
        refine ⟨T, A, n, xs, z, rfl, q.1, hh.2, k1, k2, k3, k4, k5, fun d H' xs' z' d1 d2 z1 z2 e1 e2 e3 => q.2 d d1 d2 _ _ ⟨fun b o e nS => ?_, ?_, .int d⟩⟩
        · rw [e1 b (fun z => nS (.inl ⟨by omega, z⟩)) fun z => nS (.inr (.inr ⟨h0, z⟩))]; exact e
        · exact ⟨fun z => by omega, w.ok.2.1, fun _ => ⟨xs', z', z1, z2, k3, e2, e3⟩⟩
      · rw [if_neg hh] at q
        obtain ⟨_, e, _⟩ := (PM.run_lift _ _).mp q
        cases e
  | [a, .none], _ => obtain ⟨_, e, _⟩ := (PM.run_lift _ _).mp q; cases e
  | [a, .bool _], _ => obtain ⟨_, e, _⟩ := (PM.run_lift _ _).mp q; cases e
  | [a, .str _], _ => obtain ⟨_, e, _⟩ := (PM.run_lift _ _).mp q; cases e
  | [a, .list _], _ => obtain ⟨_, e, _⟩ := (PM.run_lift _ _).mp q; cases e
  | [a, .tuple _], _ => obtain ⟨_, e, _⟩ := (PM.run_lift _ _).mp q; cases e
  | [a, .dict _], _ => obtain ⟨_, e, _⟩ := (PM.run_lift _ _).mp q; cases e
def absI (i : Int) : Int := if i < 0 then -i else i
def tSeed : TS := tAsg (tOp (rI (fun _ j => 0 < j) fun i j => .int (i % j)) (tCB rInt1 (tCons (tOp (rI0 fun i j => .int (i + j)) (tOp (rI CMul fun i j => .int (i * j)) (tVar 1) (tC (.int 31))) (tVar 2)) tNil)) (tC (.int 1000003))) (gName 1)
def rAbs1 : List V → Hp → VK → Prop := fun xs H Q => ∃ i, xs = [V.int i] ∧ Q (V.int (if i < 0 then -i else i)) H
def tMade (K : PySem.W.Frag) : TS := tRet (tLst (tCons (tLc (iList K (tVar 0)) (gName 2) tYes (tCB rAbs1 (tCons (tVar 2) tNil)) [2]) (tCons (tOp (rI0 fun i j => .int (i + j)) (tVar 1) (tC (.int 1))) tNil)))
def tState (K : PySem.W.Frag) : TS := tSeq (tAsg (tC (.int 7)) (gName 1)) (tSeq (tFor (iList K (tVar 0)) (gName 2) tSeed) (tMade K))
theorem made_run {z : Int} {y : Option V} (hs : SqL K H a (ns.map V.int)) (hl : ns.length ≤ 1000) (hz : 0 ≤ z)
    (q : ∀ (H' : Hp) (s c : Addr) (xs : List Int) (z : Int), (∀ b o, H b = some o → H' b = some o) → s ≠ c → 0 ≤ z → (∀ x ∈ xs, 0 ≤ x) → H' s = some (.lst [.ref c, .int z]) → H' c = some (.lst (xs.map V.int)) → H s = none → H c = none → D.rt (.ref s) H') :
    tMade K D [some (.ref a), some (.int z), y] H := by
  refine ⟨_, rfl, a, rfl, ⟨_, hs⟩, fun c hc => lc_list (xs := ns.map V.int) (fun i H' => H' = upd H c (.lst (((ns.take i).map absI).map V.int))) rfl (fun i H' hi e => ?_) (fun i x H' hx e => ?_) fun H' e => ?_⟩
  · subst e
    exact sqL_keep hs fun o e => by rw [upd_ne fun z => by rw [z, hc] at e; cases e]; exact e
  · subst e
    rw [List.getElem?_map] at hx
    cases hn : ns[i]? with
    | none => rw [hn] at hx; cases hx
    | some m =>
      rw [hn] at hx
      cases hx
      refine ⟨rfl, ?_⟩
      dsimp only [tYes]
      rw [if_pos rfl]
      refine ⟨_, rfl, m, rfl, _, upd_same, ?_, ?_⟩
      · rw [sizeLine_eq]; simp; omega
      · rw [upd_upd, List.take_add_one, hn]
        simp [absI]
  · subst e
    rw [List.length_map, List.take_length]
    refine ⟨_, rfl, _, _, rfl, rfl, (by show (2 : Nat) ≤ sizeLine; decide), fun p np => ?_⟩
    have hpc : p ≠ c := fun e => by rw [e, upd_same] at np; cases np
    have np' : H p = none := by rw [upd_ne hpc] at np; exact np
    refine q _ p c (ns.map absI) (z + 1) (fun b o e => ?_) hpc (by omega) (fun x hx => ?_) upd_same ?_ np' hc
    · rw [upd_ne (fun z => by rw [z, np'] at e; cases e), upd_ne (fun z => by rw [z, hc] at e; cases e)]; exact e
    · obtain ⟨m, _, rfl⟩ := List.mem_map.mp hx
      unfold absI; split <;> omega
    · rw [upd_ne (Ne.symm hpc), upd_same]
theorem state_run (hs : SqL K H a (ns.map V.int)) (hl : ns.length ≤ 1000)
    (q : ∀ (H' : Hp) (s c : Addr) (xs : List Int) (z : Int), (∀ b o, H b = some o → H' b = some o) → s ≠ c → 0 ≤ z → (∀ x ∈ xs, 0 ≤ x) → H' s = some (.lst [.ref c, .int z]) → H' c = some (.lst (xs.map V.int)) → H s = none → H c = none → D.rt (.ref s) H') :
    tState K D (L2.start ["script", "seed", "cell"] [.ref a]) H := by
  refine ⟨_, rfl, a, rfl, ⟨_, hs⟩, for_list (xs := ns.map V.int) (fun _ σ H' => ∃ z y, 0 ≤ z ∧ σ = [some (.ref a), some (.int z), y] ∧ H' = H) ⟨7, none, by omega, rfl, rfl⟩ (fun i σ H' _ ⟨z, y, _, _, e⟩ => by rw [e]; exact hs) (fun i x σ H' hx ⟨z, y, hz, e1, e2⟩ => ?_) fun σ H' ⟨z, y, hz, e1, e2⟩ => ?_⟩
  · subst e1 e2
    rw [List.getElem?_map] at hx
    cases hn : ns[i]? with
    | none => rw [hn] at hx; cases hx
    | some m =>
      rw [hn] at hx
      cases hx
      exact ⟨_, rfl, _, _, rfl, rfl, .inr ⟨by decide, by decide⟩, _, rfl, _, _, rfl, rfl, .inl ⟨_, rfl, _, _, rfl, rfl, (by decide : (0 : Int) < 1000003), _, _, Int.emod_nonneg _ (by decide), rfl, rfl⟩⟩
  · subst e1 e2
    exact made_run hs hl hz q
/-! the draw -/
def tMix (K : PySem.W.Frag) : TS :=
  tSeq (tAsg (tOp (rI (fun _ j => 0 < j) fun i j => .int (i % j)) (tCB rInt1 (tCons (tOp (rI0 fun i j => .int (i + j)) (tOp (rI CMul fun i j => .int (i * j)) (tOp (rIxL K) (tVar 0) (tC (.int 1))) (tC (.int 48271))) (tC (.int 12345))) tNil)) (tC (.int 2147483647))) (gName 4))
  (tSeq (tAsg (tVar 4) (gSub (tVar 0) (tC (.int 1)) rSetL))
  (tRet (tOp (rI (fun _ j => 0 < j) fun i j => .int (i % j)) (tCB rInt1 (tCons (tOp rDivD (tVar 4) (tC (.int 64))) tNil)) (tVar 1))))
def tCell (K : PySem.W.Frag) : TS :=
  tSeq (tIfS (tB (tGt (tCB (rLenV K) (tCons (tVar 2) tNil)) (tC (.int 0))))
    (tSeq (tAsg (tOp (rIxL K) (tVar 2) (tC (.int 0))) (gName 3)) (tSeq (tAsg (tOp rDivD (tVar 3) (tVar 1)) (gSub (tVar 2) (tC (.int 0)) rSetL))
      (tRet (tOp (rI (fun _ j => 0 < j) fun i j => .int (i % j)) (tCB rInt1 (tCons (tVar 3) tNil)) (tVar 1))))) tNext) (tMix K)
def tDrawA (K : PySem.W.Frag) : TS :=
  tSeq (tAsg (tOp (rIxL K) (tVar 0) (tC (.int 0))) (gName 2))
  (tSeq (tWhile (tAnd (tB (tGt (tCB (rLenV K) (tCons (tVar 2) tNil)) (tC (.int 0)))) (tB (tEqI (tOp (rIxL K) (tVar 2) (tC (.int 0))) (tC (.int 0))))) (tDrop (tBM K "list" rPopAt (tVar 2) (tCons (tC (.int 0)) tNil)))) (tCell K))
section
variable {s c : Addr} {n z : Int} {xs : List Int}
theorem lenC (hc : H c = some (.lst (xs.map V.int))) : LenV K (.ref c) H xs.length := .inl ⟨_, .of hc, by rw [List.length_map]⟩
theorem mix_run {y : Option V} (hn : 0 < n) (hz : 0 ≤ z) (hs : H s = some (.lst [.ref c, .int z])) (q : ∀ d z' : Int, 0 ≤ d → d < n → 0 ≤ z' → D.rt (.int d) (upd H s (.lst [.ref c, .int z']))) : tMix K D [some (.ref s), some (.int n), some (.ref c), none, y] H := by
  refine ⟨_, rfl, s, _, 1, .int z, rfl, rfl, .of hs, rfl, _, _, rfl, rfl, .inr ⟨by decide, by decide⟩, _, _, rfl, rfl, .inl ⟨_, rfl, _, _, rfl, rfl, (by decide : (0 : Int) < 2147483647), ?_⟩⟩
  refine ⟨_, rfl, _, rfl, s, _, 1, 1, rfl, rfl, hs, rfl, ?_⟩
  refine ⟨_, rfl, .inl ⟨_, _, rfl, rfl, ⟨by decide, by decide⟩, .inl ⟨_, rfl, _, rfl, _, _, rfl, rfl, hn, ?_⟩⟩⟩
  exact q _ _ (Int.emod_nonneg _ (by omega)) (Int.emod_lt_of_pos _ hn) (Int.emod_nonneg _ (by decide))
theorem cell_run' (hn : 0 < n) (hn2 : n < 1000000000) (hz : 0 ≤ z) (hx : ∀ x ∈ xs, 0 ≤ x) (hne : s ≠ c) (hs : H s = some (.lst [.ref c, .int z])) (hc : H c = some (.lst (xs.map V.int)))
    (q : ∀ (d : Int) (H' : Hp) (xs' : List Int) (z' : Int), 0 ≤ d → d < n → 0 ≤ z' → (∀ x ∈ xs', 0 ≤ x) → (∀ b, b ≠ s → b ≠ c → H' b = H b) → H' s = some (.lst [.ref c, .int z']) → H' c = some (.lst (xs'.map V.int)) → D.rt (.int d) H') :
    tCell K D [some (.ref s), some (.int n), some (.ref c), none, none] H := by
  refine ⟨_, rfl, _, _, rfl, lenC hc, _, _, rfl, rfl, _, rfl, ?_⟩
  dsimp only
  cases xs with
  | nil =>
    rw [if_neg (by simp)]
    refine mix_run hn hz hs fun d z' d1 d2 z1 => q d _ [] z' d1 d2 z1 (fun x h => nomatch h) (fun b b1 b2 => upd_ne b1) upd_same ?_
    rw [upd_ne (Ne.symm hne)]; exact hc
  | cons x xs =>
    rw [if_pos (by simp <;> omega)]
    have h0 := hx x List.mem_cons_self
    refine ⟨_, rfl, c, _, 0, .int x, rfl, rfl, .of hc, atI_nat (j := 0) rfl, ?_⟩
    refine ⟨_, rfl, _, rfl, .inl ⟨_, _, rfl, rfl, ⟨by omega, by omega⟩, _, rfl, c, _, 0, 0, rfl, rfl, hc, (by simp [ixN] <;> omega), ?_⟩⟩
    refine ⟨_, rfl, .inl ⟨_, rfl, _, rfl, _, _, rfl, rfl, hn, ?_⟩⟩
    refine q (x % n) _ (x.fdiv n :: xs) z (Int.emod_nonneg _ (by omega)) (Int.emod_lt_of_pos _ hn) hz (fun y hy => ?_) (fun b _ b2 => upd_ne b2) (by rw [upd_ne hne]; exact hs) (by rw [upd_same]; rfl)
    rcases List.mem_cons.mp hy with rfl | hy
    · exact Int.fdiv_nonneg h0 (by omega)
    · exact hx y (List.mem_cons_of_mem _ hy)
theorem drawA_run (hn : 0 < n) (hn2 : n < 1000000000) (hz : 0 ≤ z) (hx : ∀ x ∈ xs, 0 ≤ x) (hne : s ≠ c) (hs : H s = some (.lst [.ref c, .int z])) (hc : H c = some (.lst (xs.map V.int)))
    (q : ∀ (d : Int) (H' : Hp) (xs' : List Int) (z' : Int), 0 ≤ d → d < n → 0 ≤ z' → (∀ x ∈ xs', 0 ≤ x) → (∀ b, b ≠ s → b ≠ c → H' b = H b) → H' s = some (.lst [.ref c, .int z']) → H' c = some (.lst (xs'.map V.int)) → D.rt (.int d) H') :
    tDrawA K D (L2.start ["state", "many", "cells", "value", "mixed"] [.ref s, .int n]) H := by
  refine ⟨_, rfl, s, _, 0, .ref c, rfl, rfl, .of hs, rfl, ?_⟩
  refine ⟨fun m σ H' => ∃ xs' : List Int, m = xs'.length ∧ (∀ x ∈ xs', 0 ≤ x) ∧ σ = [some (.ref s), some (.int n), some (.ref c), none, none] ∧ H' c = some (.lst (xs'.map V.int)) ∧ ∀ b, b ≠ c → H' b = H b, ⟨_, xs, rfl, hx, rfl, hc, fun _ _ => rfl⟩, ?_⟩
  rintro m σ H' ⟨xs', rfl, hx', rfl, hc', he⟩
  have done : tCell K D [some (.ref s), some (.int n), some (.ref c), none, none] H' := cell_run' hn hn2 hz hx' hne (by rw [he s hne]; exact hs) hc' fun d H2 ys z' d1 d2 z1 z2 e1 e2 e3 => q d H2 ys z' d1 d2 z1 z2 (fun b b1 b2 => by rw [e1 b b1 b2, he b b2]) e2 e3
  refine ⟨_, rfl, _, _, rfl, lenC hc', _, _, rfl, rfl, _, rfl, ?_⟩
  dsimp only
  cases xs' with
  | nil =>
    rw [if_neg (by simp)]
    rw [if_neg Bool.false_ne_true]
    exact done
  | cons x xs' =>
    rw [if_pos (by simp <;> omega)]
    refine ⟨_, rfl, c, _, 0, .int x, rfl, rfl, .of hc', atI_nat (j := 0) rfl, _, _, rfl, rfl, _, rfl, ?_⟩
    dsimp only
    by_cases h0 : decide (x = 0) = true
    · rw [if_pos h0]
      refine ⟨fun σ2 H2 => ∃ ys : List Int, xs'.length = ys.length ∧ (∀ x ∈ ys, 0 ≤ x) ∧ σ2 = [some (.ref s), some (.int n), some (.ref c), none, none] ∧ H2 c = some (.lst (ys.map V.int)) ∧ ∀ b, b ≠ c → H2 b = H b, fun σ2 H2 ⟨ys, h1, h2, h3, h4, h5⟩ => ⟨xs'.length, by simp, ys, h1, h2, h3, h4, h5⟩, ?_⟩
      refine ⟨_, rfl, .inl ⟨rfl, _, .of hc'⟩, c, _, 0, 0, .int x, rfl, rfl, hc', by decide, by decide, (by simp [seqIndex?] <;> omega), rfl, ?_⟩
      exact ⟨xs', rfl, fun y hy => hx' y (List.mem_cons_of_mem _ hy), rfl, by rw [upd_same]; rfl, fun b hb => by rw [upd_ne hb]; exact he b hb⟩
    · rw [if_neg h0]
      exact done
end
end
end Qv

namespace Qv
open PySem PySem.Spec PyProof.Rows L2
/-! ## isinstance(x, (list, tuple)) -/
def isLT : D → Option D
  | .list _ => some (.bool true)
  | .tuple _ => some (.bool true)
  | .dict _ => none
  | _ => some (.bool false)
def tyN : D → String
  | .none => "NoneType"
  | .bool _ => "bool"
  | .int _ => "int"
  | .str _ => "str"
  | .list _ => "list"
  | .tuple _ => "tuple"
  | .dict _ => "dict"
theorem tyx_of {K : PySem.W.Frag} {T : Tk} {A : Addr → Prop} {H : Hp} {v : V} {d e : D} (r : Rep K T A H v d) (h : isLT d = some e) : TyX K H v (.type (tyN d)) := by
  cases r with
  | non => exact .base .non
  | bl b => exact .base (.bl b)
  | int i => exact .base (.int i)
  | str x => exact .base (.str x)
  | lst n e r => exact .base (.lst e)
  | tup s r =>
    rcases s with (s | ⟨o, s⟩) | ⟨o, its, n, hk, hc, _⟩
    · exact .base (.tup s)
    · exact .fTuple s
    · exact .kTuple hk hc
  | tok _ => cases h
  | tok2 _ => cases h
  | scr _ _ => cases h
  | dic _ _ _ => cases h
  | dck _ _ _ _ => cases h
theorem kit_lt {K : PySem.W.Frag} {d e : D} (h : isLT d = some e) : ∃ b, e = .bool b ∧ PySem.W.kitAny K (.type (tyN d)) [.type "list", .type "tuple"] = some b := by
  have no : ∀ t : String, kitB t "list" = some false → kitB t "tuple" = some false → PySem.W.kitAny K (.type t) [.type "list", .type "tuple"] = some false := fun t h1 h2 =>
    kitAny_cons (kit_ty h1) (fun _ => kitAny_cons (kit_ty h2) (fun _ => kitAny_nil) fun z => nomatch z) fun z => nomatch z
  cases d with
  | none => cases h; exact ⟨_, rfl, no "NoneType" (by decide +kernel) (by decide +kernel)⟩
  | bool b => cases h; exact ⟨_, rfl, no "bool" (by decide +kernel) (by decide +kernel)⟩
  | int i => cases h; exact ⟨_, rfl, no "int" (by decide +kernel) (by decide +kernel)⟩
  | str x => cases h; exact ⟨_, rfl, no "str" (by decide +kernel) (by decide +kernel)⟩
  | list xs => cases h; exact ⟨_, rfl, kitAny_cons (b := true) (kit_ty (a := "list") (by decide +kernel)) (fun z => nomatch z) fun _ => rfl⟩
  | tuple xs => cases h; exact ⟨_, rfl, kitAny_cons (b := false) (kit_ty (a := "tuple") (by decide +kernel)) (fun _ => kitAny_cons (b := true) (kit_ty (a := "tuple") (by decide +kernel)) (fun z => nomatch z) fun _ => rfl) fun z => nomatch z⟩
  | dict _ => cases h
section
variable {m : Type → Type} [PM m] {X : Cx} {ρ : Rh} {a : Expr} {xa : m D} {pos : Pos}
theorem VE.isi2 {p p2 p3 p4 : Pos} {kk : Nat} (hm : X.mg "isinstance" = none) (hl : X.mg "list" = none) (ht : X.mg "tuple" = none) (ha : VE X ρ a xa) (hg : Gl X "isinstance" := by rfl) (hgl : Gl X "list" := by rfl) (hgt : Gl X "tuple" := by rfl)
    (he : starEach [a, .Tuple [.Name "list" p2, .Name "tuple" p3] kk p4] X.env = (false, eval a X.env) :: starEach [.Tuple [.Name "list" p2, .Name "tuple" p3] kk p4] X.env := by rfl) (he2 : starEach [.Tuple [.Name "list" p2, .Name "tuple" p3] kk p4] X.env = (false, eval (.Tuple [.Name "list" p2, .Name "tuple" p3] kk p4) X.env) :: starEach [] X.env := by rfl)
    (he3 : starEach [.Name "list" p2, .Name "tuple" p3] X.env = (false, eval (.Name "list" p2) X.env) :: starEach [.Name "tuple" p3] X.env := by rfl) (he4 : starEach [.Name "tuple" p3] X.env = (false, eval (.Name "tuple" p3) X.env) :: starEach [] X.env := by rfl)
    (hpl : (backTo pos (starEach [.Tuple [.Name "list" p2, .Name "tuple" p3] kk p4] X.env)).any (·.1) = false := by rfl) :
    VE X ρ (.Call (.Name "isinstance" p) [a, .Tuple [.Name "list" p2, .Name "tuple" p3] kk p4] [] pos) (xa >>= fun q => PM.lift (isLT q)) :=
  imE (pe_callB call_isiT hg hm boot_isinstance (pa_cons ha (pa_cons (pe_tup (pa_cons (pe_bltn (v := .ty "list") hgl hl boot_list rfl (by decide) (by decide)) (pa_cons (pe_bltn (v := .ty "tuple") hgt ht boot_tuple rfl (by decide) (by decide)) pa_nil he4) he3)) pa_nil he2) he) (by decide) (by decide) he hpl) fun σ H Q h => seqE h fun T' A v H1 p w ev rp h => by
    rw [PM.run_lift] at h
    obtain ⟨d, e, h⟩ := h
    refine ⟨by decide, fun t nt => ?_⟩
    have s : Step T' H1 (upd H1 t (.tup [.ty "list", .ty "tuple"])) := step_new nt
    have w2 := w.laid (o := .tup [.ty "list", .ty "tuple"]) nt
    obtain ⟨b, rfl, kb⟩ := kit_lt (K := X.K) e
    exact ⟨v, t, _, _, _, b, rfl, upd_same, .cons (.ty _) (.cons (.ty _) .nil), tyx_of (rp.step w s) e, kb, h _ _ ⟨s, w2.ok, .bl b⟩⟩
theorem VE.isi2_p {p p2 p3 p4 : Pos} {kk : Nat} {d : D} (hm : X.mg "isinstance" = none) (hl : X.mg "list" = none) (ht : X.mg "tuple" = none) (ha : VE (m := m) X ρ a (pure d)) (hg : Gl X "isinstance" := by rfl) (hgl : Gl X "list" := by rfl) (hgt : Gl X "tuple" := by rfl)
    (he : starEach [a, .Tuple [.Name "list" p2, .Name "tuple" p3] kk p4] X.env = (false, eval a X.env) :: starEach [.Tuple [.Name "list" p2, .Name "tuple" p3] kk p4] X.env := by rfl) (he2 : starEach [.Tuple [.Name "list" p2, .Name "tuple" p3] kk p4] X.env = (false, eval (.Tuple [.Name "list" p2, .Name "tuple" p3] kk p4) X.env) :: starEach [] X.env := by rfl)
    (he3 : starEach [.Name "list" p2, .Name "tuple" p3] X.env = (false, eval (.Name "list" p2) X.env) :: starEach [.Name "tuple" p3] X.env := by rfl) (he4 : starEach [.Name "tuple" p3] X.env = (false, eval (.Name "tuple" p3) X.env) :: starEach [] X.env := by rfl)
    (hpl : (backTo pos (starEach [.Tuple [.Name "list" p2, .Name "tuple" p3] kk p4] X.env)).any (·.1) = false := by rfl) :
    VE (m := m) X ρ (.Call (.Name "isinstance" p) [a, .Tuple [.Name "list" p2, .Name "tuple" p3] kk p4] [] pos) (PM.lift (isLT d)) := VE.eqv (VE.isi2 hm hl ht ha hg hgl hgt he he2 he3 he4 hpl) fun K h => rp K h
end
end Qv

namespace Qv
open PySem PySem.Spec PyProof.Rows L2
/-! ## the law's own def -/
def spLaw (K : PySem.W.Frag) : Sp := fun vs H Q _ => ∃ (a : Addr) (ns : List Int), vs = [.ref a] ∧ SqL K H a (ns.map V.int) ∧ Only H ∧ ∀ H', Q (.bl true) H'
theorem spLaw_len {K : PySem.W.Frag} (vs : List V) (H : Hp) (Q : VK) (E : XK) (h : spLaw K vs H Q E) : vs.length = ["script"].length := by
  obtain ⟨a, ns, rfl, _⟩ := h
  rfl
/-- behind «state = [0, 0]» -/
theorem law_start {K : PySem.W.Frag} {Γ : List Kd} {n : Nat} {x : PP D} {D : Ends} {a p : Addr} {ns : List Int} {H : Hp} {σ : L2.St} (hσ : σ = some (.ref a) :: some (.ref p) :: List.replicate n none) (hs : SqL K H a (ns.map V.int)) (hO : Only H) (np : H p = none) (h0 : kAt Γ 0 = .sh) (h1 : kAt Γ 1 = .sh)
    (hx : PM.run x fun p => p = .bool true) (q : ∀ H', D.rt (.bl true) H') : tS K Γ (some scrD :: some tokD :: List.replicate n none) (WT x) D σ (upd H p (.lst [.int 0, .int 0])) := by
  have key : ∀ fz : Bool, (fz = true → ∃ o, H a = some (.frz o (.lst (ns.map V.int)))) → (fz = false → KL K a (ns.map V.int)) → tS K Γ (some scrD :: some tokD :: List.replicate n none) (WT x) D σ (upd H p (.lst [.int 0, .int 0])) := fun fz f1 f2 => by
    let T : Tk := ⟨1, p, 0, a, ns, fz⟩
    have ok : T.ok (upd H p (.lst [.int 0, .int 0])) := by
      refine ⟨fun _ => ⟨⟨0, 0, by omega, by omega, upd_same⟩, fun z => ?_⟩, fun _ z => absurd rfl z, fun z => absurd (show (1 : Nat) = 2 from z) (by decide)⟩
      obtain ⟨o, e⟩ := f1 z
      exact ⟨o, by rw [upd_ne (show a ≠ p from fun z => by rw [← z, e] at np; cases np)]; exact e⟩
    have hA : ∀ b, AT T.S (fun _ => none) b → T.S b := fun b z => z.elim id fun ⟨_, e⟩ => nomatch e
    refine ⟨T, T.S, fun _ => none, ⟨?_, ⟨ok, fun b z => .inl z, fun b z => T.mu ok (hA b z)⟩, fun b z => z, fun i d h k => ?_, fun i d h k => ?_, fun i j b h => (nomatch h), fun i b h => (nomatch h)⟩, PM.mono (fun d e => ?_) hx⟩
    · rw [hσ]; simp
    · rw [hσ]
      match i, h with
      | 0, h => cases h; exact ⟨_, rfl, .scr rfl f2⟩
      | 1, h => cases h; exact ⟨_, rfl, .tok rfl⟩
      | i + 2, h =>
        have h := rAt_get _ _ _ h
        simp only [List.getElem?_cons_succ, List.getElem?_replicate] at h
        split at h <;> cases h
    · match i, h with
      | 0, h => rw [h0] at k; cases k
      | 1, h => rw [h1] at k; cases k
      | i + 2, h =>
        have h := rAt_get _ _ _ h
        simp only [List.getElem?_cons_succ, List.getElem?_replicate] at h
        split at h <;> cases h
    · subst e
      intro v H' _ _ r
      cases r
      exact q H'
  rcases hs with (hs | ⟨o, hs⟩) | hs
  · rcases hO a with z | ⟨o, xs, z⟩ <;> (rw [hs] at z; cases z)
  · exact key true (fun _ => ⟨o, hs⟩) fun z => nomatch z
  · exact key false (fun z => nomatch z) fun _ => hs
/-- behind «state = _law_state(script)» -/
theorem law_startA {K : PySem.W.Frag} {Γ : List Kd} {n : Nat} {x : PP D} {D : Ends} {a p c : Addr} {xs : List Int} {z : Int} {H : Hp} {σ : L2.St} (hσ : σ = some (.ref a) :: some (.ref p) :: List.replicate n none) (hne : p ≠ c) (hz : 0 ≤ z) (hxs : ∀ x ∈ xs, 0 ≤ x)
    (hp : H p = some (.lst [.ref c, .int z])) (hc : H c = some (.lst (xs.map V.int))) (h0 : kAt Γ 0 = .sh) (h1 : kAt Γ 1 = .sh) (hx : PM.run x fun p => p = .bool true) (q : ∀ H', D.rt (.bl true) H') : tS K Γ (none :: some tokA :: List.replicate n none) (WT x) D σ H := by
  let T : Tk := ⟨2, p, c, 0, [], false⟩
  have ok : T.ok H := ⟨fun z => absurd (show (2 : Nat) = 1 from z) (by decide), fun _ _ => rfl, fun _ => ⟨xs, z, hz, hxs, hne, hp, hc⟩⟩
  have hA : ∀ b, AT T.S (fun _ => none) b → T.S b := fun b z => z.elim id fun ⟨_, e⟩ => (nomatch e)
  refine ⟨T, T.S, fun _ => none, ⟨?_, ⟨ok, fun b z => .inl z, fun b z => T.mu ok (hA b z)⟩, fun b z => z, fun i d h k => ?_, fun i d h k => ?_, fun i j b h => (nomatch h), fun i b h => (nomatch h)⟩, PM.mono (fun d e => ?_) hx⟩
  · rw [hσ]; simp
  · rw [hσ]
    match i, h with
    | 0, h => cases h
    | 1, h => cases h; exact ⟨_, rfl, .tok2 rfl⟩
    | i + 2, h =>
      have h := rAt_get _ _ _ h
      simp only [List.getElem?_cons_succ, List.getElem?_replicate] at h
      split at h <;> cases h
  · match i, h with
    | 0, h => cases h
    | 1, h => rw [h1] at k; cases k
    | i + 2, h =>
      have h := rAt_get _ _ _ h
      simp only [List.getElem?_cons_succ, List.getElem?_replicate] at h
      split at h <;> cases h
  · subst e
    intro v H' _ _ r
    cases r
    exact q H'
def spLawA (K : PySem.W.Frag) : Sp := fun vs H Q _ => ∃ (a : Addr) (ns : List Int), vs = [.ref a] ∧ SqL K H a (ns.map V.int) ∧ ns.length ≤ 1000 ∧ ∀ H', Q (.bl true) H'
theorem spLawA_len {K : PySem.W.Frag} (vs : List V) (H : Hp) (Q : VK) (E : XK) (h : spLawA K vs H Q E) : vs.length = ["script"].length := by
  obtain ⟨a, ns, rfl, _⟩ := h
  rfl
end Qv

namespace Qv
open PySem PySem.Spec PyProof.Rows L2
/-! ## the laws' comparisons -/
def m_law_exact : Nat → List D → Option D
  | 0 => fun _ => none
  | n + 1 => un2 fun first_0 second_0 => (((PM.lift (isLT first_0)) >>= fun p => PM.lift (dTruth p)) >>= fun c => if c = true then ((((PM.lift (plainB PyData.isList first_0)) >>= fun p => (PM.lift (plainB PyData.isList second_0)) >>= fun q => PM.lift ((dNe p q).bind dBool)) >>= fun c => if c = true then pure true else ((PM.lift (plainB PyData.isTuple first_0)) >>= fun p => (PM.lift (plainB PyData.isTuple second_0)) >>= fun q => PM.lift ((dNe p q).bind dBool))) >>= fun c => if c = true then (pure (.bool false)) else (((PM.lift ((f1 dLen) [first_0])) >>= fun p => (PM.lift ((f1 dLen) [second_0])) >>= fun q => PM.lift (dEq p q)) >>= fun p => PM.lift (dBool p) >>= fun k => if k = true then (((compM (((PM.lift ((f1 dLen) [first_0])) >>= fun a => pure (a :: [])) >>= fun l => PM.lift (rng1L l)) (.n 2) (fun _ => pure true) (un1 fun k_1 => (((PM.lift (dIx first_0 k_1)) >>= fun a => ((PM.lift (dIx second_0 k_1)) >>= fun a => pure (a :: [])) >>= fun l => pure (a :: l)) >>= fun l => PM.lift ((m_law_exact n) l)))) >>= fun a => pure (a :: [])) >>= fun l => PM.lift ((f1 dAllL) l)) else pure (.bool false))) else (((PM.lift ((dIs first_0 .none).bind dBool)) >>= fun c => if c = true then pure true else (PM.lift ((dIs second_0 .none).bind dBool))) >>= fun c => if c = true then ((PM.lift (dIs first_0 .none)) >>= fun p => PM.lift (dBool p) >>= fun k => if k = true then (PM.lift (dIs second_0 .none)) else pure (.bool false)) else ((((PM.lift (plainB PyData.isStr first_0)) >>= fun p => (PM.lift (plainB PyData.isStr second_0)) >>= fun q => PM.lift (dEq p q)) >>= fun p => PM.lift (dBool p) >>= fun k => if k = true then ((PM.lift (plainB PyData.isBool first_0)) >>= fun p => (PM.lift (plainB PyData.isBool second_0)) >>= fun q => PM.lift (dEq p q)) else pure (.bool false)) >>= fun alike_2 => ((pure alike_2) >>= fun p => PM.lift (dBool p) >>= fun k => if k = true then (((PM.lift (plainB PyData.isInt first_0)) >>= fun p => (PM.lift (plainB PyData.isInt second_0)) >>= fun q => PM.lift (dEq p q)) >>= fun p => PM.lift (dBool p) >>= fun k => if k = true then (PM.lift (dEq first_0 second_0)) else pure (.bool false)) else pure (.bool false)))))
def m_law_eq : Nat → List D → Option D
  | 0 => fun _ => none
  | n + 1 => un2 fun told_0 due_0 => ((((PM.lift (plainB PyData.isList due_0)) >>= fun p => PM.lift (dTruth p)) >>= fun c => if c = true then pure true else ((PM.lift (plainB PyData.isTuple due_0)) >>= fun p => PM.lift (dTruth p))) >>= fun c => if c = true then ((((PM.lift (plainB PyData.isList told_0)) >>= fun p => (PM.lift (plainB PyData.isList due_0)) >>= fun q => PM.lift ((dNe p q).bind dBool)) >>= fun c => if c = true then pure true else ((PM.lift (plainB PyData.isTuple told_0)) >>= fun p => (PM.lift (plainB PyData.isTuple due_0)) >>= fun q => PM.lift ((dNe p q).bind dBool))) >>= fun c => if c = true then (pure (.bool false)) else (((PM.lift ((f1 dLen) [told_0])) >>= fun p => (PM.lift ((f1 dLen) [due_0])) >>= fun q => PM.lift ((dNe p q).bind dBool)) >>= fun c => if c = true then (pure (.bool false)) else ((compM (((PM.lift ((f1 dLen) [due_0])) >>= fun a => pure (a :: [])) >>= fun l => PM.lift (rng1L l)) (.n 2) (un1 fun k_1 => (((((PM.lift (dIx told_0 k_1)) >>= fun a => ((PM.lift (dIx due_0 k_1)) >>= fun a => pure (a :: [])) >>= fun l => pure (a :: l)) >>= fun l => PM.lift ((m_law_eq n) l)) >>= fun p => PM.lift (dTruth p)) >>= fun c => pure (!c))) (un1 fun k_1 => (pure k_1))) >>= fun p => PM.lift (dEq p (.list []))))) else ((PM.lift ((dIs due_0 .none).bind dBool)) >>= fun c => if c = true then (PM.lift (dIs told_0 .none)) else (((PM.lift (plainB PyData.isStr due_0)) >>= fun p => PM.lift (dTruth p)) >>= fun c => if c = true then ((PM.lift (plainB PyData.isStr told_0)) >>= fun p => PM.lift (dBool p) >>= fun k => if k = true then (PM.lift (dEq told_0 due_0)) else pure (.bool false)) else (((PM.lift (plainB PyData.isBool due_0)) >>= fun p => PM.lift (dTruth p)) >>= fun c => if c = true then ((PM.lift (plainB PyData.isBool told_0)) >>= fun p => PM.lift (dBool p) >>= fun k => if k = true then (PM.lift (dEq told_0 due_0)) else pure (.bool false)) else ((PM.lift (plainB PyData.isInt told_0)) >>= fun p => PM.lift (dBool p) >>= fun k => if k = true then (((PM.lift (plainB PyData.isBool told_0)) >>= fun p => PM.lift (dTruth p) >>= fun k => pure (.bool (!k))) >>= fun p => PM.lift (dBool p) >>= fun k => if k = true then (PM.lift (dEq told_0 due_0)) else pure (.bool false)) else pure (.bool false))))))
end Qv

namespace Qv
open PySem PySem.Spec PyProof.Rows L2
/-! ## plain laws of the mirrors' own words -/
theorem o_lift {α : Type} (o : Option α) : (PM.lift o : Option α) = o := id rfl
theorem o_pure {α : Type} (a : α) : (pure a : Option α) = some a := id rfl
theorem o_bind {α β : Type} (o : Option α) (f : α → Option β) : (o >>= f) = o.bind f := id rfl
theorem o_some {α β : Type} (a : α) (f : α → Option β) : (some a).bind f = f a := id rfl
theorem u2_eq {β : Type} (f : D → D → Option β) (a b : D) : un2 f [a, b] = f a b := id rfl
theorem u1_eq {β : Type} (f : D → Option β) (a : D) : un1 f [a] = f a := id rfl
theorem u3_eq {β : Type} (f : D → D → D → Option β) (a b c : D) : un3 f [a, b, c] = f a b c := id rfl
theorem u4_eq {β : Type} (f : D → D → D → D → Option β) (a b c d : D) : un4 f [a, b, c, d] = f a b c d := id rfl
theorem u5_eq {β : Type} (f : D → D → D → D → D → Option β) (a b c d e : D) : un5 f [a, b, c, d, e] = f a b c d e := id rfl
section
variable {α : Type}
theorem forB_foldl {f : α → D → Option α} {g : α → D → α} (I : α → List D → Prop) : ∀ {xs : List D} {s : α}, I s xs → (∀ s x xs, I s (x :: xs) → f s x = some (g s x) ∧ I (g s x) xs) → forB f s xs = some (xs.foldl g s)
  | [], s, _, _ => rfl
  | x :: xs, s, h, k => by
    show (f s x).bind (fun s' => forB f s' xs) = _
    rw [(k s x xs h).1]
    exact forB_foldl I (k s x xs h).2 k
theorem cmpD_map {f : D → Option (Option D)} {g : D → D} : ∀ {xs : List D}, (∀ x ∈ xs, f x = some (some (g x))) → cmpD f xs = some (xs.map g)
  | [], _ => rfl
  | x :: xs, h => by
    show (f x).bind (fun o => (cmpD f xs).bind fun ys => some (match o with | some y => y :: ys | none => ys)) = _
    rw [h x List.mem_cons_self, cmpD_map fun y hy => h y (List.mem_cons_of_mem _ hy)]
    rfl
theorem cmpD_fm {f : D → Option (Option D)} {g : D → Option D} : ∀ {xs : List D}, (∀ x ∈ xs, f x = some (g x)) → cmpD f xs = some (xs.filterMap g)
  | [], _ => rfl
  | x :: xs, h => by
    show (f x).bind (fun o => (cmpD f xs).bind fun ys => some (match o with | some y => y :: ys | none => ys)) = _
    rw [h x List.mem_cons_self, cmpD_fm fun y hy => h y (List.mem_cons_of_mem _ hy), List.filterMap_cons]
    cases g x <;> rfl
theorem catD_fm {f : D → Option (List D)} {g : D → List D} : ∀ {xs : List D}, (∀ x ∈ xs, f x = some (g x)) → catD f xs = some (xs.flatMap g)
  | [], _ => rfl
  | x :: xs, h => by
    show (f x).bind (fun o => (catD f xs).bind fun ys => some (o ++ ys)) = _
    rw [h x List.mem_cons_self, catD_fm fun y hy => h y (List.mem_cons_of_mem _ hy)]
    rfl
end
theorem line_le {n : Nat} (h : n ≤ 16777216) : n ≤ sizeLine := by rw [sizeLine_eq]; exact h
theorem sizeL_some {xs : List D} (h : xs.length ≤ 16777216) : sizeL xs = some xs := if_pos (line_le h)
theorem sizeS_some {xs : List D} (h : xs.length ≤ 4000) : sizeS xs = some xs := if_pos h
theorem turn_n {i : Nat} {x : D → Option D} (p : D) : turnM (m := Option) (.n i) (fun _ => pure true) (un1 x) p = (x p).bind fun y => some (some y) := rfl
theorem turn_nc {i : Nat} {c : D → Option Bool} {x : D → Option D} (p : D) : turnM (m := Option) (.n i) (un1 c) (un1 x) p = (c p).bind fun b => if b = true then (x p).bind fun y => some (some y) else some none := rfl
/-- [x p for p in ..] -/
theorem comp_map {it : Option (List D)} {ps : List D} {i : Nat} {x : D → Option D} {g : D → D} (h : it = some ps) (hz : ps.length ≤ 16777216) (hx : ∀ p ∈ ps, x p = some (g p)) : compM it (.n i) (fun _ => pure true) (un1 x) = some (.list (ps.map g)) := by
  unfold compM
  rw [h]
  show (sizeL ps).bind _ = _
  rw [sizeL_some hz]
  show Option.bind (cmpD _ ps) _ = _
  rw [cmpD_map (g := g) fun p hp => by rw [turn_n, hx p hp]; rfl]
  rfl
theorem comp_if {it : Option (List D)} {ps : List D} {i : Nat} {c : D → Option Bool} {x : D → Option D} {b : D → Bool} {g : D → D} (h : it = some ps) (hz : ps.length ≤ 16777216) (hc : ∀ p ∈ ps, c p = some (b p)) (hx : ∀ p ∈ ps, b p = true → x p = some (g p)) : compM it (.n i) (un1 c) (un1 x) = some (.list ((ps.filter b).map g)) := by
  unfold compM
  rw [h]
  show (sizeL ps).bind _ = _
  rw [sizeL_some hz]
  show Option.bind (cmpD _ ps) _ = _
  rw [cmpD_fm (g := fun p => if b p = true then some (g p) else none) fun p hp => by
    rw [turn_nc, hc p hp]
    show (if b p = true then _ else _) = _
    by_cases e : b p = true
    · rw [if_pos e, if_pos e, hx p hp e]; rfl
    · rw [if_neg e, if_neg e]]
  show some (PyData.list _) = _
  congr 2
  clear hz hc hx h
  induction ps with
  | nil => rfl
  | cons p ps ih =>
    rw [List.filterMap_cons, List.filter_cons, ih]
    by_cases e : b p = true
    · rw [if_pos e, if_pos e]; rfl
    · rw [if_neg e, if_neg e]
theorem comp2_map {it : Option (List D)} {ps : List D} {i j : Nat} {it1 : D → Option (List D)} {qs : D → List D} {x : D → D → Option D} {g : D → D → D} (h : it = some ps) (hz : ps.length ≤ 4000) (h1 : ∀ p ∈ ps, it1 p = some (qs p)) (hz1 : ∀ p ∈ ps, (qs p).length ≤ 4000) (hx : ∀ p ∈ ps, ∀ q ∈ qs p, x p q = some (g p q)) :
    comp2M it (.n i) (.n j) (fun _ => pure true) (un1 it1) (fun _ _ => pure true) (unl1 fun p => un1 (x p)) = some (.list (ps.flatMap fun p => (qs p).map (g p))) := by
  unfold comp2M
  rw [h]
  show (sizeS ps).bind _ = _
  rw [sizeS_some hz]
  show Option.bind (catD _ ps) _ = _
  rw [catD_fm (g := fun p => (qs p).map (g p)) fun p hp => ?_]
  · rfl
  · show (it1 p).bind _ = _
    rw [h1 p hp]
    show (sizeS (qs p)).bind _ = _
    rw [sizeS_some (hz1 p hp)]
    exact cmpD_map fun q hq => by
      show (x p q).bind _ = _
      rw [hx p hp q hq]; rfl
/-- range -/
theorem rng1 {n : Int} (h : n < 4611686018427387904) (h0 : -4611686018427387904 ≤ n) : rng1L [.int n] = some (rgL 0 n.toNat) := if_pos (by unfold okR; simp only [Bool.and_eq_true, decide_eq_true_eq]; omega)
theorem rng2 {a b : Int} (h : b < 4611686018427387904) (h0 : -4611686018427387904 ≤ b) (h1 : a < 4611686018427387904) (h2 : -4611686018427387904 ≤ a) : rng2L [.int a, .int b] = some (rgL a (b - a).toNat) := if_pos (by unfold okR; simp only [Bool.and_eq_true, decide_eq_true_eq]; omega)
theorem rgL_len {lo : Int} {n : Nat} : (rgL lo n).length = n := by simp [rgL]
/-- sorted lists are led to sorted lists -/
theorem ins_map {le : D → D → Bool} {f : D → D} {x : D} : ∀ {ys : List D}, (∀ y ∈ ys, le (f x) (f y) = le x y) → insD le (f x) (ys.map f) = (insD le x ys).map f
  | [], _ => rfl
  | y :: ys, h => by
    show (if le (f x) (f y) = true then _ else _) = List.map f (if le x y = true then _ else _)
    rw [h y List.mem_cons_self]
    by_cases e : le x y = true
    · rw [if_pos e, if_pos e]; rfl
    · rw [if_neg e, if_neg e, List.map_cons, ins_map fun z hz => h z (List.mem_cons_of_mem _ hz)]
theorem mem_ins {le : D → D → Bool} {x y : D} : ∀ {ys : List D}, y ∈ insD le x ys → y = x ∨ y ∈ ys
  | [], h => by simpa [insD] using h
  | z :: ys, h => by
    unfold insD at h
    by_cases e : le x z = true
    · rw [if_pos e] at h; simpa using h
    · rw [if_neg e] at h
      rcases List.mem_cons.mp h with h | h
      · exact .inr (by rw [h]; exact List.mem_cons_self)
      · exact (mem_ins h).imp id (List.mem_cons_of_mem _)
theorem mem_srt {le : D → D → Bool} {y : D} : ∀ {ys : List D}, y ∈ srtD le ys → y ∈ ys
  | [], h => h
  | z :: ys, h => by
    rcases mem_ins h with h | h
    · rw [h]; exact List.mem_cons_self
    · exact List.mem_cons_of_mem _ (mem_srt h)
theorem srt_map {le : D → D → Bool} {f : D → D} : ∀ {xs : List D}, (∀ x ∈ xs, ∀ y ∈ xs, le (f x) (f y) = le x y) → srtD le (xs.map f) = (srtD le xs).map f
  | [], _ => rfl
  | x :: xs, h => by
    show insD le (f x) (srtD le (xs.map f)) = (insD le x (srtD le xs)).map f
    rw [srt_map fun a ha b hb => h a (List.mem_cons_of_mem _ ha) b (List.mem_cons_of_mem _ hb)]
    exact ins_map fun y hy => h x List.mem_cons_self y (List.mem_cons_of_mem _ (mem_srt hy))
/-! ## runs -/
section
variable {m : Type → Type} [PM m] {α β : Type}
theorem run_b {x : m α} {f : α → m β} {K : β → Prop} (h : PM.run x fun a => PM.run (f a) K) : PM.run (x >>= f) K := (PM.run_bind _ _ _).mpr h
theorem run_p {a : α} {K : α → Prop} (h : K a) : PM.run (pure a : m α) K := (PM.run_pure _ _).mpr h
theorem run_l {o : Option α} {a : α} {K : α → Prop} (e : o = some a) (h : K a) : PM.run (PM.lift o : m α) K := (PM.run_lift _ _).mpr ⟨a, e, h⟩
theorem run_lb {o : Option α} {a : α} {f : α → m β} {K : β → Prop} (e : o = some a) (h : PM.run (f a) K) : PM.run (PM.lift o >>= f : m β) K := run_b (run_l e h)
theorem run_pb {a : α} {f : α → m β} {K : β → Prop} (h : PM.run (f a) K) : PM.run (pure a >>= f : m β) K := run_b (run_p h)
theorem run_as {γ : Type} {x : m α} {f : α → m β} {g : β → m γ} {K : γ → Prop} (h : PM.run (x >>= fun a => f a >>= g) K) : PM.run ((x >>= f) >>= g) K := by
  rw [PM.run_bind, PM.run_bind]
  rw [PM.run_bind] at h
  exact PM.mono (fun a q => (PM.run_bind _ _ _).mp q) h
/-- a loop whose turns all go on -/
theorem run_forO {f : α → D → m (Out α)} {K : Out α → Prop} (I : α → List D → Prop) : ∀ {xs : List D} {s : α}, I s xs → (∀ s x xs, I s (x :: xs) → PM.run (f s x) fun o => ∃ s', o = .nx s' ∧ I s' xs) → (∀ s, I s [] → K (.nx s)) → PM.run (forO f s xs) K
  | [], s, h, k, e => run_p (e s h)
  | x :: xs, s, h, k, e => by
    show PM.run (f s x >>= _) K
    refine run_b (PM.mono (fun o q => ?_) (k s x xs h))
    obtain ⟨s', rfl, i⟩ := q
    exact run_forO I i k e
theorem run_forB {f : α → D → m α} {K : α → Prop} (I : α → List D → Prop) : ∀ {xs : List D} {s : α}, I s xs → (∀ s x xs, I s (x :: xs) → PM.run (f s x) fun s' => I s' xs) → (∀ s, I s [] → K s) → PM.run (forB f s xs) K
  | [], s, h, k, e => run_p (e s h)
  | x :: xs, s, h, k, e => run_b (PM.mono (fun s' q => run_forB I q k e) (k s x xs h))
end
theorem run_dC {k : Int} {K : D → Prop} (h0 : 0 < k) (h1 : k < 1000000000) (h : ∀ d : Int, 0 ≤ d → d < k → K (.int d)) : PM.run (drawC [tokD, scrD, .int k]) K := by
  show PM.run (if isTok tokD && isScr scrD && decide (k < 1000000000) then draw k else fail) K
  rw [if_pos (by simp [isTok, isScr, tokD, scrD, h1])]
  exact run_draw.mpr ⟨h0, h⟩
theorem run_dA {k : Int} {K : D → Prop} (h0 : 0 < k) (h1 : k < 1000000000) (h : ∀ d : Int, 0 ≤ d → d < k → K (.int d)) : PM.run (drawA [tokA, .int k]) K := by
  show PM.run (if isTokA tokA && decide (k < 1000000000) then draw k else fail) K
  rw [if_pos (by simp [isTokA, tokA, h1])]
  exact run_draw.mpr ⟨h0, h⟩
/-! ## the law's comparison of alike things -/
def good : Nat → D → Bool
  | 0, _ => false
  | n + 1, .list xs => decide (xs.length ≤ 16777216) && xs.all (good n)
  | n + 1, .tuple xs => decide (xs.length ≤ 16777216) && xs.all (good n)
  | _ + 1, .dict _ => false
  | _ + 1, _ => true
theorem plainAll_iff : ∀ {xs : List D}, PyData.plainAll xs = true ↔ ∀ x ∈ xs, x.plain = true
  | [] => by simp [PyData.plainAll]
  | x :: xs => by simp [PyData.plainAll, plainAll_iff (xs := xs)]
theorem good_plain : ∀ {n : Nat} {d : D}, good n d = true → d.plain = true
  | n + 1, .list xs, h => by
    simp only [good, Bool.and_eq_true, List.all_eq_true] at h
    exact plainAll_iff.mpr fun x hx => good_plain (h.2 x hx)
  | n + 1, .tuple xs, h => by
    simp only [good, Bool.and_eq_true, List.all_eq_true] at h
    exact plainAll_iff.mpr fun x hx => good_plain (h.2 x hx)
  | n + 1, .none, _ => rfl
  | n + 1, .bool _, _ => rfl
  | n + 1, .int _, _ => rfl
  | n + 1, .str _, _ => rfl
theorem plainB_some {g : D → Bool} {d : D} (h : d.plain = true) : plainB g d = some (.bool (g d)) := if_pos h
theorem rgL_mem {lo : Int} {n : Nat} {p : D} (h : p ∈ rgL lo n) : ∃ k : Nat, k < n ∧ p = .int (lo + k) := by
  unfold rgL at h
  obtain ⟨k, hk, e⟩ := List.mem_map.mp h
  exact ⟨k, by simpa using hk, e.symm⟩
theorem allL_true {α : Type} {xs : List α} : f1 dAllL [.list (xs.map fun _ => PyData.bool true)] = some (.bool true) := by
  have e : ∀ xs : List α, dBools (xs.map fun _ => PyData.bool true) = some (xs.map fun _ => true) := fun xs => by
    induction xs with
    | nil => rfl
    | cons x xs ih => rw [List.map_cons, dBools, ih]; rfl
  show (dBools _).map _ = _
  rw [e]
  simp
theorem exact_seq {n : Nat} {d : D} {xs : List D} (hp : d.plain = true) (hl : isLT d = some (.bool true)) (hn : f1 dLen [d] = some (.int xs.length)) (hx : ∀ i : Int, dIx d (.int i) = atI xs i) (hz : xs.length ≤ 16777216) (h : ∀ x ∈ xs, m_law_exact n [x, x] = some (.bool true)) : m_law_exact (n + 1) [d, d] = some (.bool true) := by
  have hc : compM (m := Option) (((PM.lift (f1 dLen [d])) >>= fun a => pure (a :: [])) >>= fun l => PM.lift (rng1L l)) (.n 2) (fun _ => pure true) (un1 fun k_1 => (((PM.lift (dIx d k_1)) >>= fun a => ((PM.lift (dIx d k_1)) >>= fun a => pure (a :: [])) >>= fun l => pure (a :: l)) >>= fun l => PM.lift ((m_law_exact n) l))) = some (.list ((rgL 0 xs.length).map fun _ => PyData.bool true)) := by
    refine comp_map (ps := rgL 0 xs.length) ?_ (by rw [rgL_len]; exact hz) fun p hp => ?_
    · rw [hn]
      have e := rng1 (n := (xs.length : Int)) (by omega) (by omega)
      rw [Int.toNat_natCast] at e
      simp only [o_lift, o_pure, o_bind, o_some, e]
    · obtain ⟨k, hk, rfl⟩ := rgL_mem hp
      simp only [hx]
      have e : atI xs (0 + (k : Int)) = some xs[k] := by rw [Int.zero_add]; exact atI_nat (List.getElem?_eq_getElem hk)
      simp only [o_lift, o_pure, o_bind, o_some, e, h _ (List.getElem_mem hk)]
  have e1 : dNe (PyData.bool d.isList) (.bool d.isList) = some (.bool false) := by cases d.isList <;> rfl
  have e2 : dNe (PyData.bool d.isTuple) (.bool d.isTuple) = some (.bool false) := by cases d.isTuple <;> rfl
  unfold m_law_exact
  simp only [u2_eq, o_lift, o_pure, o_bind, hl, plainB_some hp, hn, o_some, e1, e2]
  have e3 : dEq (.int (xs.length : Int)) (.int (xs.length : Int)) = some (.bool true) := by
    show some (PyData.bool ((xs.length : Int) == xs.length)) = _
    rw [beq_self_eq_true]
  simp only [o_lift, o_pure, o_bind, hn, o_some] at hc
  simp only [dTruth, if_true, dBool, o_some, Bool.false_eq_true, if_false, e3, hc, allL_true]
theorem exact_refl : ∀ {n : Nat} {d : D}, good n d = true → m_law_exact n [d, d] = some (.bool true)
  | n + 1, .list xs, h => by
    have hp := good_plain h
    simp only [good, Bool.and_eq_true, List.all_eq_true, decide_eq_true_eq] at h
    exact exact_seq hp rfl rfl (fun i => rfl) h.1 fun x hx => exact_refl (h.2 x hx)
  | n + 1, .tuple xs, h => by
    have hp := good_plain h
    simp only [good, Bool.and_eq_true, List.all_eq_true, decide_eq_true_eq] at h
    exact exact_seq hp rfl rfl (fun i => rfl) h.1 fun x hx => exact_refl (h.2 x hx)
  | n + 1, .none, _ => rfl
  | n + 1, .bool b, _ => by cases b <;> rfl
  | n + 1, .int i, _ => by
    have e : dEq (PyData.int i) (.int i) = some (.bool true) := by
      show some (PyData.bool (i == i)) = _
      rw [beq_self_eq_true]
    have k : m_law_exact (n + 1) [.int i, .int i] = (dEq (PyData.int i) (.int i)) := rfl
    rw [k, e]
  | n + 1, .str x, _ => by
    have e : dEq (PyData.str x) (.str x) = some (.bool true) := by
      simp [dEq, PyData.plain, PyData.depth, PyData.eqv]
    have k : m_law_exact (n + 1) [.str x, .str x] = (dEq (PyData.str x) (.str x)) := rfl
    rw [k, e]
/-! ## small words -/
theorem dMul_l {i j : Int} (h : -18446744073709551616 < i ∧ i < 18446744073709551616) : dMul (.int i) (.int j) = some (.int (i * j)) := by
  show (if _ then _ else _) = _
  rw [if_pos]
  have e : smallI i = true := by unfold smallI; simp only [Bool.and_eq_true, decide_eq_true_eq]; omega
  rw [e]; rfl
theorem dMul_r {i j : Int} (h : -18446744073709551616 < j ∧ j < 18446744073709551616) : dMul (.int i) (.int j) = some (.int (i * j)) := by
  show (if _ then _ else _) = _
  rw [if_pos]
  have e : smallI j = true := by unfold smallI; simp only [Bool.and_eq_true, decide_eq_true_eq]; omega
  rw [e, Bool.or_true]; rfl
theorem dDiv_s {i j : Int} (h0 : j ≠ 0) (h : j.natAbs < 1073741824) : dDiv (.int i) (.int j) = some (.int (i.fdiv j)) := by
  show (if _ then _ else _) = _
  rw [if_pos]
  simp only [Bool.and_eq_true, Bool.or_eq_true, decide_eq_true_eq]
  exact ⟨h0, .inl h⟩
theorem dMod_s {i j : Int} (h0 : j ≠ 0) : dMod (.int i) (.int j) = some (.int (i.fmod j)) := by
  show (if _ then _ else _) = _
  rw [if_pos (by simpa using h0)]
theorem dEq_ii {i j : Int} : dEq (.int i) (.int j) = some (.bool (i == j)) := rfl
theorem dNe_self {d : D} (h : d.plain = true) (hd : d.depth ≤ 60) (hi : ∀ i, d ≠ .int i) : dNe d d = some (.bool false) := by
  have e : dNe d d = if d.plain && d.plain && decide (min d.depth d.depth ≤ 60) then some (.bool (!PyData.eqv d d)) else none := by
    cases d with
    | int i => exact absurd rfl (hi i)
    | _ => rfl
  rw [e, if_pos (by rw [h, Nat.min_self]; simpa using hd), PySem.SeqAt.eqv_refl_plain d h]
  rfl
/-- out = out + [..] -/
theorem forB_cat {F : D → Option D} {G : D → List D} : ∀ {xs : List D} {acc : List D}, (∀ p ∈ xs, F p = some (.list (G p))) → acc.length + (xs.flatMap G).length ≤ 16777216 → forB (m := Option) (fun (s : D) p => ((F p) >>= fun q => PM.lift (dAdd s q)) >>= fun o => pure o) (.list acc) xs = some (.list (acc ++ xs.flatMap G))
  | [], acc, _, _ => by simp [forB]
  | x :: xs, acc, h, hz => by
    have hz' : acc.length + ((G x).length + (xs.flatMap G).length) ≤ 16777216 := by simpa [List.flatMap_cons] using hz
    have e : dAdd (.list acc) (.list (G x)) = some (.list (acc ++ G x)) := if_pos (line_le (by omega))
    show Option.bind (((F x) >>= fun q => PM.lift (dAdd (.list acc) q)) >>= fun o => pure o) _ = _
    rw [h x List.mem_cons_self]
    have e2 : ((some (PyData.list (G x)) >>= fun q => PM.lift (dAdd (.list acc) q)) >>= fun o => (pure o : Option D)) = some (.list (acc ++ G x)) := by
      simp only [o_bind, o_lift, o_pure, o_some, e]
    rw [e2, o_some, forB_cat (fun p hp => h p (List.mem_cons_of_mem _ hp)) (by rw [List.length_append]; omega), List.flatMap_cons, List.append_assoc]
/-! ## pairs -/
def pr (x y : Int) : D := .tuple [.int x, .int y]
theorem lt_pr {a b c d : Int} : W.dataLt (pr a b) (pr c d) = (decide (a < c) || (decide (a = c) && decide (b < d))) := by
  by_cases h1 : a < c
  · simp [W.dataLt, pr, W.keyToks, W.keyToksAll, PyProof.Rows.lexLt, PyProof.Rows.itemLt, h1]
  · by_cases h2 : a = c
    · subst h2
      by_cases h3 : b < d
      · simp [W.dataLt, pr, W.keyToks, W.keyToksAll, PyProof.Rows.lexLt, PyProof.Rows.itemLt, h3]
      · by_cases h4 : b = d
        · subst h4; simp [W.dataLt, pr, W.keyToks, W.keyToksAll, PyProof.Rows.lexLt, PyProof.Rows.itemLt]
        · simp [W.dataLt, pr, W.keyToks, W.keyToksAll, PyProof.Rows.lexLt, PyProof.Rows.itemLt, h3, h4]
    · simp [W.dataLt, pr, W.keyToks, W.keyToksAll, PyProof.Rows.lexLt, PyProof.Rows.itemLt, h1, h2]
      intro h; omega
def IsPr (d : D) : Prop := ∃ a b, d = pr a b
theorem depthAll_le {n : Nat} : ∀ {xs : List D}, (∀ x ∈ xs, x.depth ≤ n) → PyData.depthAll xs ≤ n
  | [], _ => by simp [PyData.depthAll]
  | x :: xs, h => by
    rw [PyData.depthAll]
    exact Nat.max_le.mpr ⟨h x List.mem_cons_self, depthAll_le fun y hy => h y (List.mem_cons_of_mem _ hy)⟩
theorem pr_depth {d : D} (h : IsPr d) : d.depth ≤ 2 := by
  obtain ⟨a, b, rfl⟩ := h
  simp [pr, PyData.depth, PyData.depthAll]
theorem pr_plain {d : D} (h : IsPr d) : d.plain = true := by
  obtain ⟨a, b, rfl⟩ := h
  rfl
theorem sortOk_pr {xs : List D} (h : ∀ x ∈ xs, IsPr x) : sortOk xs = true := by
  have hc : ∀ x ∈ xs, cls x = .vi := fun x hx => by obtain ⟨a, b, rfl⟩ := h x hx; rfl
  have hl : likes xs = true := by
    cases xs with
    | nil => rfl
    | cons x xs =>
      show ((cls x).ok && xs.all fun y => decide (cls y = cls x)) = true
      rw [hc x List.mem_cons_self]
      simp only [Sh.ok, Bool.true_and, List.all_eq_true, decide_eq_true_eq]
      exact fun y hy => hc y (List.mem_cons_of_mem _ hy)
  unfold sortOk
  rw [hl, Bool.true_and, Bool.and_eq_true]
  refine ⟨decide_eq_true (Nat.le_trans (depthAll_le fun x hx => pr_depth (h x hx)) (by decide)), List.all_eq_true.mpr fun x hx => ?_⟩
  obtain ⟨a, b, rfl⟩ := h x hx
  rfl
/-- led along -/
def tr (x y : Int) : D → D
  | .tuple [.int a, .int b] => pr (x + a) (y + b)
  | d => d
theorem tr_pr {x y a b : Int} : tr x y (pr a b) = pr (x + a) (y + b) := rfl
theorem le_tr {x y : Int} {p q : D} (hp : IsPr p) (hq : IsPr q) : leD (tr x y p) (tr x y q) = leD p q := by
  obtain ⟨a, b, rfl⟩ := hp
  obtain ⟨c, d, rfl⟩ := hq
  unfold leD
  rw [tr_pr, tr_pr, lt_pr, lt_pr]
  have e1 : decide (x + c < x + a) = decide (c < a) := by simp
  have e2 : decide (x + c = x + a) = decide (c = a) := by simp
  have e3 : decide (y + d < y + b) = decide (d < b) := by simp
  rw [e1, e2, e3]
theorem srt_tr {x y : Int} {xs : List D} (h : ∀ p ∈ xs, IsPr p) : srtD leD (xs.map (tr x y)) = (srtD leD xs).map (tr x y) := srt_map fun p hp q hq => le_tr (h p hp) (h q hq)
/-- the cells of a box -/
def boxZ (W H : Nat) (x y : Int) : List D := (List.range W).flatMap fun (i : Nat) => (List.range H).map fun (j : Nat) => pr (x + i) (y + j)
theorem box_pr {W H : Nat} {x y : Int} : ∀ p ∈ boxZ W H x y, IsPr p := fun p hp => by
  simp only [boxZ, List.mem_flatMap, List.mem_map] at hp
  obtain ⟨i, _, j, _, rfl⟩ := hp
  exact ⟨_, _, rfl⟩
theorem box_tr {W H : Nat} {x y a b : Int} : boxZ W H (x + a) (y + b) = (boxZ W H a b).map (tr x y) := by
  simp only [boxZ, List.map_flatMap, List.map_map, Function.comp_def, tr_pr, Int.add_assoc]
theorem box_len {W H : Nat} {x y : Int} : (boxZ W H x y).length = W * H := by
  have e : ∀ n : Nat, ((List.range n).map fun _ => H).sum = n * H := fun n => by
    induction n with
    | zero => simp
    | succ n ih => rw [List.range_succ, List.map_append, List.sum_append, ih]; simp [Nat.succ_mul]
  simp [boxZ, List.length_flatMap, e]
theorem box_of {W H : Nat} {x y : Int} {g : D → D → D} (hg : ∀ i j : Nat, g (.int (0 + (i : Int))) (.int (0 + (j : Int))) = pr (x + i) (y + j)) : ((rgL 0 W).flatMap fun p => (rgL 0 H).map (g p)) = boxZ W H x y := by
  simp only [boxZ, rgL, List.flatMap_map, List.map_map, Function.comp_def, hg]
/-- an answer, by computation -/
def isS (o : Option D) (d : D) : Bool := match o with | some x => eqD x d | none => false
theorem isS_eq {o : Option D} {d : D} (h : isS o d = true) : o = some d := by
  cases o with
  | none => cases h
  | some x => rw [eqD_eq x d h]
def isT : D → Bool
  | .bool true => true
  | _ => false
theorem isT_eq {d : D} (h : isT d = true) : d = .bool true := by
  cases d with
  | bool b => cases b <;> first | rfl | cases h
  | _ => cases h
def listOf : D → List D
  | .list xs => xs
  | _ => []
theorem flat_list {rs : List (List D)} : (rs.map PyData.list).flatMap listOf = rs.flatMap id := by
  induction rs with
  | nil => rfl
  | cons r rs ih => rw [List.map_cons, List.flatMap_cons, List.flatMap_cons, ih]; rfl
/-! ## what surely comes -/
section
variable {m : Type → Type} [PM m] {α β : Type}
def Sure (x : m α) (v : α) : Prop := ∀ K : α → Prop, K v → PM.run x K
theorem sure_p {a : α} : Sure (pure a : m α) a := fun K h => run_p h
theorem sure_l {o : Option α} {a : α} (e : o = some a) : Sure (PM.lift o : m α) a := fun K h => run_l e h
theorem sure_b {x : m α} {f : α → m β} {a : α} {b : β} (h1 : Sure x a) (h2 : Sure (f a) b) : Sure (x >>= f) b := fun K h => run_b (h1 _ (h2 K h))
theorem run_s {x : m α} {a : α} {K : α → Prop} (h : Sure x a) (k : K a) : PM.run x K := h K k
theorem sure_cmp {f : D → m (Option D)} {g : D → Option D} : ∀ {xs : List D}, (∀ x ∈ xs, Sure (f x) (g x)) → Sure (cmpD f xs) (xs.filterMap g)
  | [], _ => sure_p
  | x :: xs, h => by
    refine sure_b (h x List.mem_cons_self) (sure_b (sure_cmp fun y hy => h y (List.mem_cons_of_mem _ hy)) ?_)
    rw [List.filterMap_cons]
    cases g x <;> exact sure_p
theorem sure_turn {i : Nat} {x : D → m D} {p q : D} (h : Sure (x p) q) : Sure (turnM (m := m) (.n i) (fun _ => pure true) (un1 x) p) (some q) := by
  unfold turnM
  refine sure_b (sure_l rfl) (sure_b sure_p ?_)
  rw [if_pos rfl]
  exact sure_b h sure_p
theorem sure_comp {it : m (List D)} {ps : List D} {i : Nat} {x : D → m D} {g : D → D} (h : Sure it ps) (hz : ps.length ≤ 16777216) (hx : ∀ p ∈ ps, Sure (x p) (g p)) : Sure (compM it (.n i) (fun _ => pure true) (un1 x)) (.list (ps.map g)) := by
  unfold compM
  refine sure_b h (sure_b (sure_l (sizeL_some hz)) (sure_b (sure_cmp (g := fun p => some (g p)) fun p hp => sure_turn (hx p hp)) ?_))
  have e : ∀ ps : List D, ps.filterMap (fun p => some (g p)) = ps.map g := fun ps => by
    induction ps with
    | nil => rfl
    | cons p ps ih => rw [List.filterMap_cons, ih]; rfl
  rw [e]
  exact sure_p
theorem sure_forB {f : α → D → m α} {g : α → D → α} : ∀ {xs : List D} {s : α}, (∀ s, ∀ x ∈ xs, Sure (f s x) (g s x)) → Sure (forB f s xs) (xs.foldl g s)
  | [], s, _ => sure_p
  | x :: xs, s, h => sure_b (h s x List.mem_cons_self) (sure_forB fun s y hy => h s y (List.mem_cons_of_mem _ hy))
end
end Qv

namespace Qv
open PySem PySem.Spec PyProof.Rows L2
/-! ## sorted, of whatever is gathered -/
mutual
theorem reads_lt {h : Heap} : ∀ {v : Value} {d : D} {as : List Addr}, Reads h v d as → ∀ a ∈ as, a < h.objs.size
  | _, _, _, .none, _, m => by simp at m
  | _, _, _, .bool _, _, m => by simp at m
  | _, _, _, .int _ _, _, m => by simp at m
  | _, _, _, .str _ _, _, m => by simp at m
  | _, _, _, .list h1 h2 h3 h4, a, m => by
    rcases List.mem_cons.mp m with e | m
    · rw [e]; exact Heap.lt_size h1
    · exact readsAll_lt h4 a m
  | _, _, _, .tuple h1 h2 h3 h4, a, m => readsAll_lt h4 a m
  | _, _, _, .dict h1 h2 h3 h4 h5, a, m => by
    rcases List.mem_append.mp m with m | m
    · rcases List.mem_cons.mp m with e | m
      · rw [e]; exact Heap.lt_size h1
      · exact readsAll_lt h4 a m
    · exact readsAll_lt h5 a m
theorem readsAll_lt {h : Heap} : ∀ {v : List Value} {d : List D} {as : List Addr}, ReadsAll h v d as → ∀ a ∈ as, a < h.objs.size
  | _, _, _, .nil, _, m => by simp at m
  | _, _, _, .cons h1 h2, a, m => by
    rcases List.mem_append.mp m with m | m
    · exact reads_lt h1 a m
    · exact readsAll_lt h2 a m
end
theorem reads_each {h : Heap} {vs : List Value} {ds : List D} (e : W.EachIs (fun v d => ∃ as, Reads h v d as) vs ds) {a : Addr} {o : Obj} (ha : h.objs.size = a) : W.EachIs (fun v d => ∃ as, Reads (h.push o) v d as ∧ a ∉ as) vs ds :=
  e.mono fun v d ⟨as, r⟩ => ⟨as, PyProof.Rows.Reads.keeps (fun b u q => Heap.get?_push_of_some _ q) r, fun m => by have z := reads_lt r a m; rw [ha] at z; exact Nat.lt_irrefl _ z⟩
theorem none_keep {h h' : Heap} (k : ∀ b o, h.get? b = some o → h'.get? b = some o) : h.get? h'.objs.size = none := by
  cases e : h.get? h'.objs.size with
  | none => rfl
  | some o => exact absurd (Heap.lt_size (k _ _ e)) (Nat.lt_irrefl _)
section
variable {prog : Program} {w : World} {A : Around} {E : Value → Shared → Prop} {s : Shared}
/-- what the gathering of x must leave -/
def Gath (prog : Program) (w : World) (A : Around) (s : Shared) (R : Value → D → Prop) (Q : Value → Shared → Prop) (vs : List Value) (s1 : Shared) : Prop :=
  (∀ b o, s.heap.get? b = some o → s1.heap.get? b = some o) ∧ s1.gens = s.gens ∧ s1.os = s.os ∧ ∃ ds : List D, W.EachIs R vs ds ∧ W.EachIs (fun v d => ∃ as, Reads s1.heap v d as) vs ds ∧
    W.AllAlike ds ∧ W.Sortable ds ∧ ds.length ≤ sizeLine ∧ (∀ d ∈ ds, A.units + 2 + d.depth < cLine) ∧
    ∀ p c out s', (∀ b o, s.heap.get? b = some o → s'.heap.get? b = some o) → s'.gens = s.gens → s'.os = s.os → s.heap.get? p = none → s'.heap.get? p = some (seqObj "list" (List.toArray out) c) → out.length = ds.length → W.EachIs R out (srtD leD ds) → Q (.ref p) s'
theorem sorted_of {x : Value} {R : Value → D → Prop} {Q : Value → Shared → Prop} (hc : wpAny (model prog w) A.in1 (collect x) (Gath prog w A s R Q) E s) : wpAny (model prog w) A (call (.builtin "sorted") [x]) Q E s := by
  refine Calls.call_function_entry kind_sorted plain_sorted entry_sorted (args_sorted1 _) ?_
  unfold Builtin.«sorted»
  refine wpAny_bind (m := checkCount "sorted" 1 1 ([x] : List Value).length) (wpAny_pure ?_)
  refine wpAny_bind (wpAny_mono hc (fun vs s1 g => ?_) fun _ _ h => h)
  obtain ⟨k1, g1, o1, ds, e, er, hal, hso, hL, hu, q⟩ := g
  refine wpAny_bind (wpAny_newList ?_ (by rw [e.length]; exact hL))
  have at0 : (s1.heap.push (seqObj "list" vs.toArray 0)).get? s1.heap.objs.size = some (seqObj "list" vs.toArray 0) := Heap.get?_push_size _ rfl
  refine wpAny_bind (wpAny_holding (W.list_sort_data (enc := id) (bs := ds) (R := R) (s := { s1 with heap := s1.heap.push (seqObj "list" vs.toArray 0) }) at0 e (reads_each er rfl) (by rw [List.map_id]; exact hal) (by rw [List.map_id]; exact hso) hL (fun b hb => ?_) fun out ho eo => ?_))
  · have := hu b hb
    show A.units + 1 + 1 + b.depth < cLine
    omega
  · obtain ⟨c, hc⟩ := sortedHeap_at (vs := vs) (out := List.toArray out) at0
    rw [merge_leD] at eo
    refine wpAny_pure ⟨_, rfl, q _ c out _ (fun b u hb => ?_) g1 o1 (none_keep k1) hc ho eo⟩
    have l1 := Heap.lt_size (k1 b u hb)
    show (sortedHeap (s1.heap.push (seqObj "list" vs.toArray 0)) s1.heap.objs.size vs (List.toArray out)).get? b = some u
    rw [sortedHeap_old (Nat.ne_of_lt l1) (by rw [size_push']; exact Nat.lt_succ_of_lt l1)]
    exact Heap.get?_push_of_some _ (k1 b u hb)
end
end Qv

namespace Qv
open PySem PySem.Spec PyProof.Rows L2
/-! ## set(xs), xs a list of ints -/
abbrev so0 (w : World) : Obj := { cls := .type "set", dict := none, data := .set #[] 0 (.fresh 0 0 (!w.params.followText "set-order")) }
section
variable {P : Program} {w : World} {A : Around} {E : Value → Shared → Prop} {s : Shared}
set_option maxHeartbeats 3200000 in
theorem set_listI {l : Addr} {its : Array Value} (ns : List Int) {Q : Value → Shared → Prop} (hh : A.handled = none) (hl : s.heap.IsList l its) (hi : IntsAre its.toList ns) (hb : ns.length + 1 < scanBound)
    (h : ∀ (h' : Heap) (tk c : Nat), SetR w h' s.heap.objs.size (fun j => decide (j ∈ ns)) c → (∀ b o, s.heap.get? b = some o → h'.get? b = some o) → Q (.ref s.heap.objs.size) { s with heap := h', toks := tk }) :
    wpAny (model P w) A (call (.type "set") [.ref l]) Q E s := by
  have hn : its.size = ns.length := by have q := IntsAre.length hi; rwa [Array.length_toList] at q
  obtain ⟨c0, tl, mro⟩ := F.called_set.mro
  have m1 := F.called_set.made; have m2 := F.called_set.sub; have m3 := F.called_set.notType; have m4 := F.called_set.canCreate; have m5 := F.typeCall_set_1 (.ref l)
  refine wpAny_call (codeAny_of_tree ?_); show wpAny _ _ (callAny (.type "set") _) _ _ _
  refine wpAny_pure ⟨Code.quiet_builtin _ (by decide +kernel), codeAny_builtin F.entry_type_call ?_⟩; rw [Around.under_plain (weight_type_call_type "set" [.ref l] []) rfl]
  repeat (any_goals (first | assumption | wp_step))
  refine codeAny_mono (code_set_led1 (.ref l) (E := E) (Q₁ := fun u s1 => u = .ref s.heap.objs.size ∧ s1 = { s with heap := s.heap.push (so0 w) }) ⟨rfl, rfl⟩) fun r s1 hr => ?_
  cases r with
  | error e => exact hr
  | ok fl =>
    cases fl with
    | ret u =>
      obtain ⟨rfl, rfl⟩ := hr
      have g0 : (s.heap.push (so0 w)).get? s.heap.objs.size = some (so0 w) := Heap.get?_push_size _ rfl
      have gT : Shared.TypeIs { s with heap := s.heap.push (so0 w) } (.ref s.heap.objs.size) "set" := ⟨_, g0, rfl⟩
      have i1 := F.called_set.init.lookup; have i2 := F.called_set.init.bind (.ref s.heap.objs.size)
      repeat (any_goals (first | assumption | wp_step))
      refine codeAny_mono (codeAny_call_builtin (R := wants (fun r s2 => r = .none ∧ ∃ h' tk c, s2 = { s with heap := h', toks := tk } ∧ SetR w h' s.heap.objs.size (fun j => decide (j ∈ ns)) c ∧ (∀ b o, s.heap.get? b = some o → h'.get? b = some o)) E) F.called_set.init.plain F.entry_set_init (check_set_init_1 gT ?_)) fun r2 s2 hr2 => ?_
      · obtain ⟨ol, hol, hcl, nl, hdl⟩ := hl
        obtain ⟨c1, d1, x1, sl1⟩ := ol
        simp only at hcl hdl; subst hcl; subst hdl
        have hol' : (s.heap.push (so0 w)).get? l = some ⟨.type "list", d1, .seq its nl, sl1⟩ := Heap.get?_push_of_some _ hol
        have s1 := F.sub_list_set; have s2 := F.sub_list_frozenset
        have ne1 : (Value.type "list" == Value.type "dict") = false := by decide
        have hl1 : (s.heap.push (so0 w)).IsList l its := ⟨_, hol', rfl, nl, rfl⟩
        unfold Builtin.«set.__init__» noKeywords Builtin.Frozenset.updateFrom
        generalize hPI : pyIter = PI
        wp_walk
        subst hPI
        refine wpAny_pyIter_list hl1 (wpAny_bind (wpAny_runValue ?_))
        have lS : l < s.heap.objs.size := Heap.lt_size hol
        have h3 : A.in1.in1.in1.handled = none := by simp [hh]
        have z1 : (s.heap.push (so0 w)).objs.size = s.heap.objs.size + 1 := Heap.size_push ..
        have nI : l ≠ (s.heap.push (so0 w)).objs.size := by rw [z1]; exact Nat.ne_of_lt (Nat.lt_succ_of_lt lS)
        refine set_update_ints ((Walks.list h3 _ l nI its).toS) s.heap.objs.size (by rw [z1, List.mem_cons, List.mem_singleton]; exact fun q => q.elim (fun q => Nat.lt_irrefl _ (Nat.lt_of_lt_of_eq (Nat.lt_succ_self _) q.symm)) fun q => Nat.lt_irrefl _ (Nat.lt_of_lt_of_eq lS q)) ns hn hb (fun i v hv => ?_) (its.size - 0) 0 _ (by omega) (Nat.zero_le _) ⟨⟨_, Heap.get?_push_size _ rfl, rfl, rfl⟩, hl1.push _⟩ ⟨0, Nat.le_refl 0, setR_new_at (Heap.get?_push_of_some _ g0)⟩ ?_
        · have hi' : i < ns.length := by rw [← hn]; exact (Array.getElem?_eq_some_iff.mp hv).1
          obtain ⟨t, e⟩ := PyProof.Rows.IntsAre.int_at hi i v (by rw [Array.getElem?_toList]; exact hv)
          exact ⟨ns[i], t, List.getElem?_eq_getElem hi', by rw [e, List.getD_eq_getElem?_getD, List.getElem?_eq_getElem hi']; rfl⟩
        · intro s' c' hm _ hS'
          obtain ⟨h', g2, d', tk', os'⟩ := s'
          have e1 : g2 = s.gens := hm.gens; have e2 : d' = s.drawn := hm.drawn; have e3 : os' = s.os := hm.os
          subst e1; subst e2; subst e3
          show wpAny _ _ _ _ _ _
          refine wpAny_pure ?_
          show wpAny _ _ (ret Value.none) _ _ _
          refine wpAny_pure ⟨rfl, h', tk', c', rfl, hS', fun b o e => hm.heap b o ?_ (Heap.get?_push_of_some _ (Heap.get?_push_of_some _ e))⟩
          have b0 := Heap.lt_size e
          rw [z1, List.mem_cons, List.mem_cons]
          exact fun q => q.elim (fun q => Nat.ne_of_lt b0 q) fun q => q.elim (fun q => Nat.ne_of_lt (Nat.lt_succ_of_lt b0) q) fun q => by simp at q
      · cases r2 with
        | error e => exact hr2
        | ok fl2 =>
          cases fl2 with
          | ret r =>
            obtain ⟨rfl, h', tk, c', rfl, hS', hk'⟩ := hr2
            repeat (any_goals (first | assumption | wp_step))
            exact h _ _ _ hS' hk'
          | _ => exact hr2.elim
    | _ => exact hr.elim
end
end Qv

namespace Qv
open PySem PySem.Spec PyProof.Rows L2
/-! ## sets, of which only the size or the sorted list is asked -/
def dedupD : List D → List D
  | [] => []
  | x :: xs => x :: (dedupD xs).filter fun y => !eqD x y
/-- tuples of ints -/
def tupI : List D → Option (List (List Int))
  | [] => some []
  | .tuple xs :: r => match dInts xs, tupI r with
    | some ns, some l => some (ns :: l)
    | _, _ => none
  | _ => none
def setI (d : D) : Option (List D) := match d with
  | .list xs => if (dInts xs).isSome then (if xs.length + 1 < 4096 then some (dedupD xs) else none) else if (tupI xs).isSome && decide (xs.length < 64) then some (dedupD xs) else none
  | .tuple xs => if (dInts xs).isSome && decide (xs.length + 1 < 4096) then some (dedupD xs) else none
  | _ => none
def dLenSet (d : D) : Option D := (setI d).map fun l => .int l.length
def dSortSet (d : D) : Option D := (setI d).bind fun l => if sortOk l then some (.list (srtD leD l)) else none
mutual
theorem eqD_self : ∀ d : D, d.plain = true → eqD d d = true
  | .none, _ => rfl
  | .bool b, _ => by simp [eqD]
  | .int i, _ => by simp [eqD]
  | .str i, _ => by simp [eqD]
  | .list xs, h => by rw [eqD]; exact eqDs_self xs (by simpa [PyData.plain] using h)
  | .tuple xs, h => by rw [eqD]; exact eqDs_self xs (by simpa [PyData.plain] using h)
  | .dict _, h => by simp [PyData.plain] at h
theorem eqDs_self : ∀ d : List D, PyData.plainAll d = true → eqDs d d = true
  | [], _ => rfl
  | x :: xs, h => by
    simp only [PyData.plainAll, Bool.and_eq_true] at h
    rw [eqDs, eqD_self x h.1, eqDs_self xs h.2]; rfl
end
theorem mem_dedup {y : D} : ∀ {xs : List D}, (∀ x ∈ xs, x.plain = true) → (y ∈ dedupD xs ↔ y ∈ xs)
  | [], _ => Iff.rfl
  | x :: xs, h => by
    rw [dedupD, List.mem_cons, List.mem_cons, List.mem_filter, mem_dedup fun z hz => h z (List.mem_cons_of_mem _ hz)]
    constructor
    · exact fun q => q.imp id fun q => q.1
    · intro q
      by_cases e : eqD x y = true
      · exact .inl (eqD_eq _ _ e).symm
      · exact q.imp id fun q => ⟨q, by simpa using e⟩
theorem dedup_nodup : ∀ {xs : List D}, (∀ x ∈ xs, x.plain = true) → (dedupD xs).Nodup
  | [], _ => List.nodup_nil
  | x :: xs, h => by
    rw [dedupD, List.nodup_cons]
    refine ⟨fun q => ?_, (dedup_nodup fun z hz => h z (List.mem_cons_of_mem _ hz)).filter _⟩
    rw [List.mem_filter, eqD_self x (h x List.mem_cons_self)] at q
    exact absurd q.2 (by simp)
theorem ints_map : ∀ {xs : List D} {ns : List Int}, dInts xs = some ns → xs = ns.map PyData.int
  | [], _, e => by cases e; rfl
  | .int i :: xs, ns, e => by
    rw [dInts] at e
    cases e2 : dInts xs with
    | none => rw [e2] at e; cases e
    | some ms => rw [e2] at e; cases e; rw [List.map_cons, ← ints_map e2]
  | .none :: _, _, e => by cases e
  | .bool _ :: _, _, e => by cases e
  | .str _ :: _, _, e => by cases e
  | .list _ :: _, _, e => by cases e
  | .tuple _ :: _, _, e => by cases e
  | .dict _ :: _, _, e => by cases e
theorem tup_map : ∀ {xs : List D} {kss : List (List Int)}, tupI xs = some kss → xs = kss.map fun ks => PyData.tuple (ks.map PyData.int)
  | [], _, e => by cases e; rfl
  | .tuple ys :: xs, kss, e => by
    rw [tupI] at e
    cases e1 : dInts ys with
    | none => rw [e1] at e; cases e
    | some ns =>
      cases e2 : tupI xs with
      | none => rw [e1, e2] at e; cases e
      | some ms => rw [e1, e2] at e; cases e; rw [List.map_cons, ← tup_map e2, ← ints_map e1]
  | .none :: _, _, e => by cases e
  | .bool _ :: _, _, e => by cases e
  | .str _ :: _, _, e => by cases e
  | .list _ :: _, _, e => by cases e
  | .int _ :: _, _, e => by cases e
  | .dict _ :: _, _, e => by cases e
theorem plain_ints {ns : List Int} : PyData.plainAll (ns.map PyData.int) = true := plainAll_iff.mpr fun x hx => by obtain ⟨i, _, rfl⟩ := List.mem_map.mp hx; rfl
theorem int_inj {i j : Int} (h : PyData.int i = .int j) : i = j := by injection h
theorem ints_inj : ∀ {a b : List Int}, a.map PyData.int = b.map PyData.int → a = b
  | [], [], _ => rfl
  | [], _ :: _, e => by simp at e
  | _ :: _, [], e => by simp at e
  | x :: xs, y :: ys, e => by
    simp only [List.map_cons, List.cons.injEq, PyData.int.injEq] at e
    rw [e.1, ints_inj e.2]
theorem tup_inj {a b : List Int} (h : PyData.tuple (a.map PyData.int) = .tuple (b.map PyData.int)) : a = b := by injection h with h; exact ints_inj h
/-- the set as it stands -/
def SetIs (P : Program) (w : World) (R : Value → D → Prop) (s : Shared) (a : Addr) (l : List D) : Prop := ∃ o es ep t ds, s.heap.get? a = some o ∧ o.ExactSet ∧ o.data = .set es ep t ∧ t.fits es.size = true ∧ es.size < scanBound ∧ Ris t.place.toList ∧
  (w.params.followText "set-order" = true ∨ t.led = true) ∧ List.Perm ds l ∧ W.EachIs (fun v d => R v d ∧ ∃ as, Reads s.heap v d as) (es.toList.map (·.2)) ds
section
variable {X : Cx} {T : Tk} {A : Addr → Prop}
theorem each_of_list {α β : Type} {R : Value → D → Prop} (f : α → Value) (g : α → D) : ∀ {l : List α}, (∀ x ∈ l, R (f x) (g x)) → W.EachIs R (l.map f) (l.map g)
  | [], _ => .nil
  | x :: xs, h => .cons (h x List.mem_cons_self) (each_of_list (β := β) f g fun y hy => h y (List.mem_cons_of_mem _ hy))
theorem readsI {h : Heap} {P : Program} {w : World} : ∀ {k : List Int} {us : List Value}, ItemsAre (intKind P w) k us → ∃ as, ReadsAll h us (k.map PyData.int) as
  | _, _, .nil => ⟨_, .nil⟩
  | _, _, .cons (k := k) h1 t => by
    obtain ⟨as, q⟩ := readsI t
    have h1' : Value.isInt _ _ = true := h1
    obtain ⟨tk, e⟩ := Value.isInt_shape h1'
    rw [e]
    exact ⟨_, .cons (.int _ _) q⟩
theorem repsI {K : PySem.W.Frag} {H : Hp} : ∀ (k : List Int), Reps K T A H (k.map V.int) (k.map PyData.int)
  | [] => .nil
  | i :: k => .cons (.int i) (repsI k)
theorem tups_of {K : PySem.W.Frag} {H : Hp} : ∀ {us : List V} {ds : List D} {kss : List (List Int)}, Reps K T A H us ds → tupI ds = some kss → ∃ ks : List (Addr × List Int), us = ks.map (fun p => V.ref p.1) ∧ ks.map (·.2) = kss ∧ ∀ p ∈ ks, SqT K H p.1 (p.2.map V.int)
  | _, _, _, .nil, e => by cases e; exact ⟨[], rfl, rfl, fun p h => by cases h⟩
  | _, _, kss, .cons (d := d) (ds := ds) h r, e => by
    cases h with
    | @tup a xs ys hs hr =>
      rw [tupI] at e
      cases e1 : dInts ys with
      | none => rw [e1] at e; cases e
      | some ns =>
        cases e2 : tupI ds with
        | none => rw [e1, e2] at e; cases e
        | some ms =>
          rw [e1, e2] at e
          cases e
          obtain ⟨ks, h1, h2, h3⟩ := tups_of r e2
          have e3 := (ints_of hr e1).1
          refine ⟨(a, ns) :: ks, by rw [h1]; rfl, by rw [← h2]; rfl, fun p hp => ?_⟩
          rcases List.mem_cons.mp hp with rfl | hp
          · rw [← e3]; exact hs
          · exact h3 p hp
    | _ => simp [tupI, tokD, tokA, scrD] at e
end
section
variable {X : Cx} {T : Tk} {A : Addr → Prop} {pins : List (Addr × Obj)} {σ : L2.St} {H : Hp} {s : Shared} {E : Value → Shared → Prop}
def RD (K : PySem.W.Frag) (T : Tk) (A : Addr → Prop) (H : Hp) (v : Value) (d : D) : Prop := ∃ x, RelV x v ∧ Rep K T A H x d
theorem setR_is {w : World} {P : Program} {a : Addr} {ns : List Int} {c : Nat} {K : PySem.W.Frag} (h : SetR w s.heap a (fun j => decide (j ∈ ns)) c) : SetIs P w (RD K T A H) s a (dedupD (ns.map PyData.int)) := by
  obtain ⟨o, es, ep, t, ho, hx, hd, g, nd, hm, hb, hf, hn, hr, hl⟩ := h
  have pl : ∀ x ∈ ns.map PyData.int, x.plain = true := fun x hx => by obtain ⟨i, _, rfl⟩ := List.mem_map.mp hx; rfl
  refine ⟨o, es, ep, t, es.toList.map fun e => .int (keyOf e), ho, hx, hd, hf, hb, hr, hl, ?_, ?_⟩
  · refine (List.perm_ext_iff_of_nodup ?_ (dedup_nodup pl)).mpr fun d => ?_
    · have : (es.toList.map fun e => PyData.int (keyOf e)) = (es.toList.map keyOf).map PyData.int := by rw [List.map_map]; rfl
      rw [this]
      exact nd.map _ fun x y hne e => hne (int_inj e)
    · rw [mem_dedup pl]
      constructor
      · intro q
        obtain ⟨e, he, rfl⟩ := List.mem_map.mp q
        exact List.mem_map.mpr ⟨_, of_decide_eq_true ((hm _).mpr (List.mem_map.mpr ⟨e, he, rfl⟩)), rfl⟩
      · intro q
        obtain ⟨i, hi, rfl⟩ := List.mem_map.mp q
        obtain ⟨e, he, e2⟩ := List.mem_map.mp ((hm i).mp (decide_eq_true hi))
        exact List.mem_map.mpr ⟨e, he, by rw [e2]⟩
  · refine each_of_list (β := Nat) (fun e => e.2) (fun e => PyData.int (keyOf e)) fun e he => ?_
    obtain ⟨k, tk, h1, _⟩ := g e he
    have h2 : keyOf e = k := by unfold keyOf; rw [h1]
    rw [h1, h2]
    exact ⟨⟨.int k, ⟨tk, rfl⟩, .int k⟩, [], .int k tk⟩
theorem setT_is {a : Addr} {ks L : List (Addr × List Int)} {es : Array (Int × Value)} {ep : Nat} {t : SetTable} {K : PySem.W.Frag} {P : Program} {w : World} (R : SetTR P w s.heap a L es ep t) (g : Got ks ks.length L) (hk : ∀ p ∈ ks, SqT K H p.1 (p.2.map V.int)) :
    SetIs P w (RD K T A H) s a (dedupD (ks.map fun p => .tuple (p.2.map .int))) := by
  obtain ⟨o, ho, hex, hd⟩ := R.ob
  have pl : ∀ x ∈ (ks.map fun p => PyData.tuple (p.2.map .int)), x.plain = true := fun x hx => by
    obtain ⟨i, _, rfl⟩ := List.mem_map.mp hx
    exact plain_ints
  have sub : ∀ p ∈ L, p ∈ ks := fun p hp => List.mem_of_mem_take (g.sub p hp)
  have all : ∀ p ∈ ks, p.2 ∈ L.map (·.2) := fun p hp => g.all p (by rw [List.take_length]; exact hp)
  refine ⟨o, es, ep, t, L.map fun p => .tuple (p.2.map .int), ho, hex, hd, R.fits, ?_, R.tab.ris, R.led, ?_, ?_⟩
  · rw [R.size]; have := R.few; unfold scanBound; omega
  · refine (List.perm_ext_iff_of_nodup ?_ (dedup_nodup pl)).mpr fun d => ?_
    · have : (L.map fun p => PyData.tuple (p.2.map .int)) = (L.map (·.2)).map fun k => PyData.tuple (k.map .int) := by rw [List.map_map]; rfl
      rw [this]
      exact R.nd.map _ fun x y hne e => hne (tup_inj e)
    · rw [mem_dedup pl]
      constructor
      · intro q
        obtain ⟨p, hp, rfl⟩ := List.mem_map.mp q
        exact List.mem_map.mpr ⟨p, sub p hp, rfl⟩
      · intro q
        obtain ⟨p, hp, rfl⟩ := List.mem_map.mp q
        obtain ⟨r, hr, e⟩ := List.mem_map.mp (all p hp)
        exact List.mem_map.mpr ⟨r, hr, by rw [e]⟩
  · have e1 : es.toList.map (·.2) = L.map fun p => Value.ref p.1 := by rw [R.rows]; unfold rowsOf; rw [List.map_map]; rfl
    rw [e1]
    refine each_of_list (β := Nat) _ _ fun p hp => ⟨⟨.ref p.1, rfl, .tup (hk p (sub p hp)) (repsI _)⟩, ?_⟩
    obtain ⟨o, items, n, ho, hc, hd, hi⟩ := R.tup p hp
    obtain ⟨as, q⟩ := readsI hi
    exact ⟨_, .tuple ho hc hd q⟩
/-- set(x) -/
theorem set_made {x : V} {v : Value} {d : D} {l : List D} {Q : Value → Shared → Prop} (hc : X.calm = true) (hu : X.A.units + 64 < cLine) (I : Inv X pins σ H s) (rx : RelV x v) (rp : Rep X.K T A H x d) (e : setI d = some l)
    (h : ∀ a s', Inv X pins σ H s' → SetIs X.prog X.w (RD X.K T A H) s' a l → Q (.ref a) s') : wpAny (model X.prog X.w) X.A (call (.type "set") [v]) Q E s := by
  cases rp with
  | @lst a us ds n hs hr =>
    have e0 : setI (.list ds) = some l := e
    unfold setI at e0
    rw [Vals.ref1 (.cons rx .nil)] at *
    obtain ⟨its, rv, pl, hz⟩ := I.list (SqL.of hs)
    cases ei : dInts ds with
    | some ns =>
      simp only [ei, Option.isSome_some, if_true] at e0
      obtain ⟨hb, e0⟩ := ifs e0
      subst e0
      obtain ⟨eu, ed⟩ := ints_of hr ei
      have ed := ints_map ei
      subst eu
      refine set_listI ns (I.ok.hd hc) pl.isList (by simpa using rv.ints) (by rw [ed, List.length_map] at hb; unfold scanBound; exact hb) fun h' tk c R k => ?_
      refine h _ _ (I.kept k) ?_
      rw [ed]
      exact setR_is (s := { s with heap := h', toks := tk }) R
    | none =>
      simp only [ei, Option.isSome_none, Bool.false_eq_true, if_false] at e0
      cases et : tupI ds with
      | none => simp [et] at e0
      | some kss =>
        simp only [et, Option.isSome_some, Bool.true_and, decide_eq_true_eq] at e0
        obtain ⟨hb, e0⟩ := ifs e0
        subst e0
        obtain ⟨ks, h1, h2, h3⟩ := tups_of hr et
        have ed := tup_map et
        have e4 : ds = ks.map fun p => PyData.tuple (p.2.map .int) := by rw [ed, ← h2, List.map_map]; rfl
        subst h1
        refine call_set_tups (P := X.prog) (w := X.w) ks (I.ok.hd hc) pl.isList (by simpa using refs_of_vals rv) (fun p hp => I.isT (h3 p hp)) (by rw [e4, List.length_map] at hb; exact hb) (by omega) fun h' tk L es ep t R g k => ?_
        refine h _ _ (I.kept k) ?_
        rw [e4]
        exact setT_is (s := { s with heap := h', toks := tk }) R g h3
  | @tup a us ds hs hr =>
    have e0 : setI (.tuple ds) = some l := e
    unfold setI at e0
    rw [Vals.ref1 (.cons rx .nil)] at *
    obtain ⟨its, rv, pl, hz⟩ := I.tuple hs
    cases ei : dInts ds with
    | some ns =>
      simp only [ei, Option.isSome_some, Bool.true_and, decide_eq_true_eq] at e0
      obtain ⟨hb, e0⟩ := ifs e0
      subst e0
      obtain ⟨eu, _⟩ := ints_of hr ei
      have ed := ints_map ei
      subst eu
      refine call_set_tupI ns (I.ok.hd hc) pl (by simpa using rv.ints) (by rw [ed, List.length_map] at hb; unfold scanBound; exact hb) fun h' tk c R _ k => ?_
      refine h _ _ (I.kept k) ?_
      rw [ed]
      exact setR_is (s := { s with heap := h', toks := tk }) R
    | none => simp [ei] at e0
  | _ => cases e
end
end Qv

namespace Qv
open PySem PySem.Spec PyProof.Rows L2
/-! ## len(set(x)), sorted(set(x)), sorted(tuple) -/
theorem leD_ints {i j : Int} : leD (.int i) (.int j) = decide (i ≤ j) := by
  unfold leD
  have e : W.dataLt (.int j) (.int i) = decide (j < i) := by
    simp [W.dataLt, W.keyToks, PyProof.Rows.lexLt, PyProof.Rows.itemLt]
  rw [e, ← decide_not]
  simp
theorem leD_tup {a b : List Int} : leD (.tuple (a.map .int)) (.tuple (b.map .int)) = !decide (b < a) := by
  unfold leD
  have e : W.dataLt (.tuple (b.map .int)) (.tuple (a.map .int)) = decide (b < a) := by
    rw [← W.dataLt_ints]
    rfl
  rw [e]
theorem ins_pm {le : D → D → Bool} (x : D) : ∀ l : List D, List.Perm (insD le x l) (x :: l)
  | [] => .refl _
  | y :: ys => by
    unfold insD
    by_cases e : le x y = true
    · rw [if_pos e]
    · rw [if_neg e]; exact ((ins_pm x ys).cons y).trans (.swap x y ys)
theorem srt_pm {le : D → D → Bool} : ∀ l : List D, List.Perm (srtD le l) l
  | [] => .refl _
  | x :: xs => (ins_pm x _).trans ((srt_pm xs).cons x)
/-- sorting does not mind the order -/
theorem srt_perm {xs ys : List D} (p : List.Perm xs ys) (anti : ∀ x ∈ xs, ∀ y ∈ xs, leD x y = true → leD y x = true → x = y) : srtD leD xs = srtD leD ys := by
  have tot := fun x y => by have q := leD_total.total x y; exact q
  have e1 : (srtD leD xs).Pairwise (fun x y => leD x y = true) := srt_pw leD_total.trans (fun x y => by rw [Bool.or_eq_true]; exact tot x y) xs
  have e2 : (srtD leD ys).Pairwise (fun x y => leD x y = true) := srt_pw leD_total.trans (fun x y => by rw [Bool.or_eq_true]; exact tot x y) ys
  have pp : List.Perm (srtD leD xs) (srtD leD ys) := (srt_pm xs).trans (p.trans (srt_pm ys).symm)
  refine List.Perm.eq_of_pairwise (fun a b ha hb h1 h2 => ?_) e1 e2 pp
  have ha' : a ∈ xs := (srt_pm xs).mem_iff.mp ha
  have hb' : b ∈ xs := p.mem_iff.mpr ((srt_pm ys).mem_iff.mp hb)
  exact anti a ha' b hb' h1 h2

theorem anti_cls {l : List D} (h : (dInts l).isSome = true ∨ (tupI l).isSome = true) : ∀ x ∈ dedupD l, ∀ y ∈ dedupD l, leD x y = true → leD y x = true → x = y := by
  rcases h with h | h
  · obtain ⟨ns, e⟩ := Option.isSome_iff_exists.mp h
    have e := ints_map e
    have pl : ∀ x ∈ l, x.plain = true := fun x hx => by rw [e] at hx; obtain ⟨i, _, rfl⟩ := List.mem_map.mp hx; rfl
    intro x hx y hy h1 h2
    rw [mem_dedup pl, e] at hx hy
    obtain ⟨i, _, rfl⟩ := List.mem_map.mp hx
    obtain ⟨j, _, rfl⟩ := List.mem_map.mp hy
    rw [leD_ints, decide_eq_true_eq] at h1 h2
    rw [Int.le_antisymm h1 h2]
  · obtain ⟨ns, e⟩ := Option.isSome_iff_exists.mp h
    have e := tup_map e
    have pl : ∀ x ∈ l, x.plain = true := fun x hx => by rw [e] at hx; obtain ⟨i, _, rfl⟩ := List.mem_map.mp hx; exact plain_ints
    intro x hx y hy h1 h2
    rw [mem_dedup pl, e] at hx hy
    obtain ⟨i, _, rfl⟩ := List.mem_map.mp hx
    obtain ⟨j, _, rfl⟩ := List.mem_map.mp hy
    rw [leD_tup, Bool.not_eq_true', decide_eq_false_iff_not] at h1 h2
    have : i = j := List.le_antisymm (List.not_lt.mp h1) (List.not_lt.mp h2)
    rw [this]
theorem setI_cls {d : D} {l : List D} (h : setI d = some l) : ∃ xs, l = dedupD xs ∧ ((dInts xs).isSome = true ∨ (tupI xs).isSome = true) := by
  unfold setI at h
  split at h
  · split at h
    · rename_i q
      exact ⟨_, (ifs h).2.symm, .inl q⟩
    · obtain ⟨q, e⟩ := ifs h
      rw [Bool.and_eq_true] at q
      exact ⟨_, e.symm, .inr q.1⟩
  · obtain ⟨q, e⟩ := ifs h
    rw [Bool.and_eq_true] at q
    exact ⟨_, e.symm, .inl q.1⟩
  · cases h
theorem each_mem2 {R S : Value → D → Prop} : ∀ {vs : List Value} {ds : List D}, W.EachIs (fun v d => R v d ∧ S v d) vs ds → W.EachIs R vs ds
  | _, _, .nil => .nil
  | _, _, .cons h t => .cons h.1 (each_mem2 t)
theorem each_perm {R : Value → D → Prop} {vs us : List Value} (p : List.Perm us vs) : ∀ {ds : List D}, W.EachIs R vs ds → ∃ es, List.Perm es ds ∧ W.EachIs R us es := by
  induction p with
  | nil => intro ds h; cases h; exact ⟨[], .refl _, .nil⟩
  | cons x p ih =>
    intro ds h
    cases h with
    | cons h1 t =>
      obtain ⟨es, q, e⟩ := ih t
      exact ⟨_ :: es, q.cons _, .cons h1 e⟩
  | swap x y l =>
    intro ds h
    cases h with
    | cons h1 t =>
      cases t with
      | cons h2 t => exact ⟨_, .swap _ _ _, .cons h2 (.cons h1 t)⟩
  | trans p1 p2 i1 i2 =>
    intro ds h
    obtain ⟨es, q, e⟩ := i2 h
    obtain ⟨es2, q2, e2⟩ := i1 e
    exact ⟨es2, q2.trans q, e2⟩
theorem likes_perm {xs ys : List D} (p : List.Perm xs ys) (h : likes ys = true) : ∀ a ∈ xs, ∀ b ∈ xs, (cls b = cls a) ∧ (cls a).ok = true := fun a ha b hb => by
  have q := likes_mem h b (p.mem_iff.mp hb) a (p.mem_iff.mp ha)
  exact ⟨q.1, by rw [← q.1]; exact q.2⟩
theorem sortOk_perm {xs ys : List D} (p : List.Perm xs ys) (h : sortOk ys = true) : sortOk xs = true := by
  unfold sortOk at h ⊢
  simp only [Bool.and_eq_true, decide_eq_true_eq, List.all_eq_true] at h ⊢
  refine ⟨⟨?_, ?_⟩, fun x hx => h.2 x (p.mem_iff.mp hx)⟩
  · cases xs with
    | nil => rfl
    | cons x xs =>
      have q := likes_perm p h.1.1
      show ((cls x).ok && xs.all fun y => decide (cls y = cls x)) = true
      simp only [Bool.and_eq_true, List.all_eq_true, decide_eq_true_eq]
      exact ⟨(q x List.mem_cons_self x List.mem_cons_self).2, fun y hy => (q x List.mem_cons_self y (List.mem_cons_of_mem _ hy)).1⟩
  · exact depthAll_le fun x hx => Nat.le_trans (depth_mem (p.mem_iff.mp hx)) h.1.2

section
variable {m : Type → Type} [PM m] {X : Cx} {ρ : Rh} {a : Expr} {xa : m D} {p p2 q pos : Pos}
/-- f(set(a)) -/
theorem ve_onSet {f : Str} {id : String} {g : List D → Option D} (hc : X.calm = true) (hu : X.A.units + 64 < cLine) (hb : bootBuiltins f = some (.builtin id)) (hm : X.mg f = none) (hm2 : X.mg "set" = none) (hn : f ≠ "__name__") (hd : (f == ("__debug__" : Str)) = false)
    (call : ∀ (pins : List (Addr × Obj)) (s : Shared) (σ : L2.St) (H : Hp) (T : Tk) (A : Addr → Prop) (b : Addr) (xs : List D) (l : List D) (d : D) (Q : Value → Shared → Prop) (E : Value → Shared → Prop), Wd T A H → Inv X pins σ H s → SetIs X.prog X.w (RD X.K T A H) s b l → l = dedupD xs → ((dInts xs).isSome = true ∨ (tupI xs).isSome = true) → g l = some d →
      (∀ v s', (∃ x H', Inv X pins σ H' s' ∧ RelV x v ∧ Post X.K T A H H' d x) → Q v s') → wpAny (model X.prog X.w) X.A (PySem.call (.builtin id) [.ref b]) Q E s)
    (ha : VE X ρ a xa) (hg : Gl X f := by rfl) (hg2 : Gl X "set" := by rfl) (na : starEach [a] X.env = (false, eval a X.env) :: starEach [] X.env := by rfl) :
    VE X ρ (.Call (.Name f p) [.Call (.Name "set" p2) [a] [] q] [] pos) (xa >>= fun d => PM.lift ((setI d).bind g)) := by
  refine ⟨fun pins s σ H Q I h => Call_ (ld_blt I hg hm hb (PyProof.Rows.callWith_builtin1 (PyProof.Rows.args_cons (Call_ (ld_blt I hg2 hm2 PyProof.Rows.boot_set (PyProof.Rows.callWith_type1 (PyProof.Rows.args_cons (thn (ha.run pins s σ H _ I (seqE h (R := fun x H1 => ∃ T A d, Wd T A H1 ∧ Rep X.K T A H1 x d ∧ PM.run (m := m) (PM.lift ((setI d).bind g)) fun e => ∀ v H', Post X.K T A H1 H' e v → Q v H') fun T A v H1 d w ev rp h => ⟨T, A, d, w, rp, h⟩)) fun v s1 ⟨x, H1, I1, r1, T, A, d, w, rp, h1⟩ => PyProof.Rows.args_nil ?_) na) na rfl))) rfl) rfl rfl) hn hd)⟩
  obtain ⟨e, e1, h2⟩ := (PM.run_lift _ _).mp h1
  obtain ⟨l, e2, e3⟩ := Option.bind_eq_some_iff.mp e1
  obtain ⟨xs, e4, e5⟩ := setI_cls e2
  refine set_made hc hu I1 r1 rp e2 fun b s2 I2 S => PyProof.Rows.args_nil ?_
  exact call pins s2 σ H1 T A b xs l e _ _ w I2 S e4 e5 e3 fun v s' ⟨x', H', I', r', o⟩ => ⟨x', H', I', r', h2 x' H' o⟩
theorem VE.lenSet (hc : X.calm = true) (hu : X.A.units + 64 < cLine) (hm : X.mg "len" = none) (hm2 : X.mg "set" = none) (ha : VE X ρ a xa) (hg : Gl X "len" := by rfl) (hg2 : Gl X "set" := by rfl) (na : starEach [a] X.env = (false, eval a X.env) :: starEach [] X.env := by rfl) :
    VE X ρ (.Call (.Name "len" p) [.Call (.Name "set" p2) [a] [] q] [] pos) (xa >>= fun d => PM.lift ((setI d).bind fun l => some (.int l.length))) :=
  ve_onSet (f := "len") hc hu PySem.boot_len hm hm2 (by decide) (by decide) (fun pins s σ H T A b xs l d Q E w I S _ _ e k => by
    cases e
    obtain ⟨o, es, ep, t, ds, ho, hex, hd, hf, hb, hr, hl, pm, ea⟩ := S
    have hz : es.size = l.length := by rw [← pm.length_eq, ← ea.length, List.length_map, Array.length_toList]
    refine call_len_set ho hex hd hf (by unfold scanBound at hb; omega) (k _ _ ⟨.int l.length, H, I.tok _, ⟨_, by rw [hz]⟩, .same w (.int _)⟩)) ha hg hg2 na
end
theorem reps_each {K : PySem.W.Frag} {T : Tk} {A : Addr → Prop} {H : Hp} : ∀ {us : List V} {ds : List D}, W.EachIs (fun x d => Rep K T A H x d) us ds → Reps K T A H us ds
  | _, _, .nil => .nil
  | _, _, .cons h t => .cons h (reps_each t)
theorem each_reps {K : PySem.W.Frag} {T : Tk} {A : Addr → Prop} {H : Hp} : ∀ {us : List V} {ds : List D} {vs : List Value}, Vals us vs → Reps K T A H us ds → W.EachIs (RD K T A H) vs ds
  | _, _, _, .nil, .nil => .nil
  | _, _, _, .cons r t, .cons h q => .cons ⟨_, r, h⟩ (each_reps t q)
theorem each_and {R S : Value → D → Prop} : ∀ {vs : List Value} {ds : List D}, W.EachIs (fun v d => R v d ∧ S v d) vs ds → W.EachIs R vs ds ∧ W.EachIs S vs ds
  | _, _, .nil => ⟨.nil, .nil⟩
  | _, _, .cons h t => ⟨.cons h.1 (each_and t).1, .cons h.2 (each_and t).2⟩
section
variable {X : Cx}
theorem objok_ex {P : Program} {w : World} {H : Hp} {h : Heap} {a : Addr} {o : HO} (x : ObjOk P w H h a o) : ∃ u, h.get? a = some u := by
  cases o with
  | lst xs => obtain ⟨_, _, _, _, e⟩ := x; exact ⟨_, e⟩
  | tup xs => obtain ⟨_, _, _, ob, e, _⟩ := x; exact ⟨_, e⟩
  | dK kvs => obtain ⟨_, _, _, _, o, _, _, e, _⟩ := x; exact ⟨_, e⟩
  | dT kvs => obtain ⟨_, _, _, _, o, _, _, e, _⟩ := x; exact ⟨_, e⟩
  | set S n => obtain ⟨o, _, _, _, e, _⟩ := x; exact ⟨_, e⟩
  | ins C dx fs => obtain ⟨_, _, _, e, _⟩ := x; exact ⟨_, e⟩
  | own y => exact x
  | xd fs => obtain ⟨_, ⟨_, _, _, e, _⟩, _⟩ := x; exact ⟨_, e⟩
  | rng lo hi => obtain ⟨_, _, _, e⟩ := x; exact ⟨_, e⟩
  | frz ob u => obtain ⟨e, _⟩ := x; exact ⟨_, e⟩
  | tbl ps => exact ⟨_, x⟩
  | met f y => exact ⟨_, x⟩
  | ext φ => obtain ⟨_, e, _⟩ := x; exact e
theorem hp_none {pins : List (Addr × Obj)} {s : Shared} {σ : L2.St} {H : Hp} {a : Addr} (I : Inv X pins σ H s) (h : s.heap.get? a = none) : H a = none := by
  cases e : H a with
  | none => rfl
  | some o =>
    obtain ⟨u, q⟩ := objok_ex (I.hok a o e)
    rw [h] at q
    cases q
/-- sorted, once the items are gathered: what is left for our heap -/
theorem sorted_gath {pins : List (Addr × Obj)} {s : Shared} {σ : L2.St} {H : Hp} {T : Tk} {A : Addr → Prop} {Q : Value → Shared → Prop} {E : Value → Shared → Prop} {x : Value} {ds : List D} (hu : X.A.units + 64 < cLine) (w : Wd T A H) (I : Inv X pins σ H s) (ho : sortOk ds = true) (hz : ds.length ≤ sizeLine) (Pm : List D → Prop) (hPm : ∀ es, Pm es → List.Perm es ds)
    (hc : ∀ G : List Value → Shared → Prop, (∀ s1 vs, (∀ b o, s.heap.get? b = some o → s1.heap.get? b = some o) → s1.gens = s.gens → s1.os = s.os → (∃ es, Pm es ∧ W.EachIs (RD X.K T A H) vs es ∧ W.EachIs (fun v d => ∃ as, Reads s.heap v d as) vs es) → G vs s1) → wpAny (model X.prog X.w) X.A.in1 (collect x) G E s)
    (k : ∀ es, Pm es → ∀ v s', (∃ x H', Inv X pins σ H' s' ∧ RelV x v ∧ Post X.K T A H H' (.list (srtD leD es)) x) → Q v s') :
    wpAny (model X.prog X.w) X.A (call (.builtin "sorted") [x]) Q E s := by
  refine sorted_of (R := RD X.K T A H) (hc _ fun s1 vs k1 g1 o1 ⟨es, pm0, e1, e2⟩ => ?_)
  have pm := hPm es pm0
  have hso := sortOk_perm pm ho
  have ho' := hso
  simp only [sortOk, Bool.and_eq_true, decide_eq_true_eq] at ho'
  refine ⟨k1, g1, o1, es, e1, e2.mono fun v d ⟨as, r⟩ => ⟨as, PyProof.Rows.Reads.keeps k1 r⟩, fun d hd d' hd' => alike_cls d d' (likes_mem ho'.1.1 d hd d' hd').1 (likes_mem ho'.1.1 d hd d' hd').2, sortable_of hso, by rw [pm.length_eq]; exact hz, fun d hd => ?_, fun p c out s' kk gg oo zz hp hlen he => ?_⟩
  · have := depth_mem hd
    have := ho'.1.2
    omega
  · obtain ⟨us, hv, hr⟩ := each_back he
    have hn : H p = none := hp_none I zz
    have hl2 : us.length ≤ sizeLine := by rw [hv.length, hlen, pm.length_eq]; exact hz
    exact k es pm0 _ _ ⟨.ref p, upd H p (.lst us), I.call' oo (ch := []) (Un.laidN kk zz hn) (I.hok.laidN kk hn ⟨hl2, out, c, hv, hp⟩) (by rw [gg]; exact I.bare) (fun _ z => nomatch z), rfl, .lst w hn (reps_each hr)⟩
def dSortL (l : List D) : Option D := if sortOk l then some (.list (srtD leD l)) else none
theorem dedup_len : ∀ xs : List D, (dedupD xs).length ≤ xs.length
  | [] => Nat.le_refl _
  | x :: xs => by
    rw [dedupD, List.length_cons, List.length_cons]
    exact Nat.succ_le_succ (Nat.le_trans (List.length_filter_le _ _) (dedup_len xs))
/-- sorted(x), of a list or a tuple -/
def rSortY (K : PySem.W.Frag) : List V → Hp → VK → Prop := fun xs H Q => ∃ T A a us ds, Wd T A H ∧ xs = [V.ref a] ∧ (SqL K H a us ∨ SqT K H a us) ∧ Reps K T A H us ds ∧ sortOk ds = true ∧ ∀ v H', Post K T A H H' (.list (srtD leD ds)) v → Q v H'
theorem sortOk_plain {ds : List D} (h : sortOk ds = true) : PyData.plainAll ds = true := by
  simp only [sortOk, Bool.and_eq_true] at h
  exact likes_plain h.1.1
theorem cr_sortY (hu : X.A.units + 64 < cLine) : CallR X (.builtin "sorted") (rSortY X.K) := by
  intro pins s σ H vs us' Q I r h
  obtain ⟨T, A, a, us, ds, w, rfl, hs, hr, ho, q⟩ := h
  rw [Vals.ref1 r]
  have fin : ∀ (its : List Value), Vals us its → (∃ t o n, (t = "list" ∨ t = "tuple") ∧ s.heap.get? a = some o ∧ o.cls = .type t ∧ o.data = .seq its.toArray n) → its.length ≤ sizeLine → wpAny (model X.prog X.w) X.A (call (.builtin "sorted") [.ref a]) (fun v s' => ∃ x H', Inv X pins σ H' s' ∧ RelV x v ∧ Q x H') X.xe s := fun its rv ⟨t, o, n, ht, go, gc, gd⟩ hz => by
    obtain ⟨bs, hb⟩ := Inv.dpAll I (hr.dp (sortOk_plain ho)) rv
    refine sorted_gath (E := X.xe) hu w I ho (by rw [← hr.length, rv.length]; exact hz) (fun es => es = ds) (fun es e => by rw [e]) (fun G hG => wpAny_collect_seq a ht go gc gd (fun h' k1 => hG { s with heap := h' } _ k1 rfl rfl ⟨ds, rfl, each_reps (by simpa using rv) hr, ?_⟩) (by simpa using hz)) fun es e v s' ⟨x, H', I', r', o'⟩ => ⟨x, H', I', r', q x H' (by rw [← e]; exact o')⟩
    have := W.readsAll_each (h := s.heap) (enc := (id : D → D)) (vs := its) (bs := ds) (as := bs) (by rw [List.map_id]; exact hb)
    simpa using this
  rcases hs with hs | hs
  · obtain ⟨its, rv, pl, hz⟩ := I.list hs
    obtain ⟨o, go, gc, n, gd⟩ := pl.isList
    exact fin its rv ⟨"list", o, n, .inl rfl, go, gc, gd⟩ (by rw [← rv.length]; exact hz)
  · obtain ⟨its, rv, pl, hz⟩ := I.tuple hs
    obtain ⟨o, go, gc, n, gd⟩ := pl
    exact fin its rv ⟨"tuple", o, n, .inr rfl, go, gc, gd⟩ (by rw [← rv.length]; exact hz)
theorem okSorted : OkC X.K (f1 dSorted) (rSortY X.K) := okc1 fun T A H v p d Q w r e k => by
  cases r with
  | @lst a us ds n h hr =>
    obtain ⟨ho, e⟩ := ifs e
    subst e
    exact ⟨T, A, a, us, ds, w, rfl, .inl (SqL.of h), hr, ho, k⟩
  | @tup a us ds h hr =>
    obtain ⟨ho, e⟩ := ifs e
    subst e
    exact ⟨T, A, a, us, ds, w, rfl, .inr h, hr, ho, k⟩
  | _ => cases e
section
variable {m : Type → Type} [PM m] {ρ : Rh} {a : Expr} {xa : m D} {p p2 q pos : Pos}
theorem VE.sortedSet (hc : X.calm = true) (hu : X.A.units + 64 < cLine) (hm : X.mg "sorted" = none) (hm2 : X.mg "set" = none) (ha : VE X ρ a xa) (hg : Gl X "sorted" := by rfl) (hg2 : Gl X "set" := by rfl) (na : starEach [a] X.env = (false, eval a X.env) :: starEach [] X.env := by rfl) :
    VE X ρ (.Call (.Name "sorted" p) [.Call (.Name "set" p2) [a] [] q] [] pos) (xa >>= fun d => PM.lift ((setI d).bind dSortL)) :=
  ve_onSet (f := "sorted") hc hu boot_sorted hm hm2 (by decide) (by decide) (fun pins s σ H T A b xs l d Q E w I S e4 e5 e k => by
    obtain ⟨hs, e⟩ := ifs e
    subst e
    obtain ⟨o, es, ep, t, ds, ho, hex, hd, hf, hb, hr, hl, pm, ea⟩ := S
    have hz : es.size = l.length := by rw [← pm.length_eq, ← ea.length, List.length_map, Array.length_toList]
    refine sorted_gath hu w I hs (by rw [← hz, sizeLine_eq]; unfold scanBound at hb; omega) (fun es => List.Perm es l) (fun _ h => h) (fun G hG => collect_set (A := X.A.in1) (I.ok.hd hc) ⟨o, ho, hex.1, hd⟩ hf hb hr hl fun s' out k1 z1 g1 o1 pm1 => hG s' out k1 g1 o1 ?_) fun es' pm2 v s' h => k v s' ?_
    · obtain ⟨es', p1, p2⟩ := each_perm pm1 ea
      exact ⟨es', p1.trans pm, each_and p2⟩
    · subst e4
      rw [← srt_perm pm2.symm (anti_cls e5)] at h
      exact h) ha hg hg2 na
end
end
end Qv

namespace Qv
open PySem PySem.Spec PyProof.Rows L2
/-! ## {k: v, ..}[x], the keys written -/
def keyD : D → Option Key
  | .int i => some (.inl i)
  | .str x => some (.inr x)
  | _ => none
/-- the last of the like keys -/
def pickK : List Key → List D → Key → Option D
  | k :: ks, d :: ds, x => match pickK ks ds x with
    | some e => some e
    | none => if decide (k = x) then some d else none
  | _, _, _ => none
def dPick (ks : List Key) (ds : List D) (x : D) : Option D := (keyD x).bind (pickK ks ds)
theorem valV_merge {kvs acc : List (Key × V)} {x : Key} : valV (mergeK acc kvs) x = match valV (mergeK [] kvs) x with | some v => some v | none => valV acc x := by
  have go : ∀ (kvs acc : List (Key × V)) , valV (mergeK acc kvs) x = (match (kvs.reverse.find? fun kv => decide (kv.1 = x)) with | some kv => some kv.2 | none => valV acc x) := by
    intro kvs
    induction kvs with
    | nil => intro acc; rfl
    | cons p r ih =>
      intro acc
      show valV (mergeK (putK acc p.1 p.2) r) x = _
      rw [ih, List.reverse_cons, List.find?_append, valV_put]
      cases e : (r.reverse.find? fun kv => decide (kv.1 = x)) with
      | some kv => rfl
      | none =>
        by_cases h : x = p.1
        · rw [if_pos h]; simp [h]
        · rw [if_neg h]; simp [Ne.symm h]
  rw [go, go]
  cases (kvs.reverse.find? fun kv => decide (kv.1 = x)) <;> rfl
theorem pick_val {K : PySem.W.Frag} {T : Tk} {A : Addr → Prop} {H : Hp} {x : Key} : ∀ {ks : List Key} {vs : List V} {ds : List D} {d : D}, Reps K T A H vs ds → ks.length = vs.length → pickK ks ds x = some d → ∃ v, valV (mergeK [] (ks.zip vs)) x = some v ∧ Rep K T A H v d
  | [], _, _, _, _, _, e => by cases e
  | k :: ks, _, _, _, .nil, hl, e => by simp at hl
  | k :: ks, v :: vs, d0 :: ds, d, .cons h r, hl, e => by
    rw [pickK] at e
    have e2 : valV (mergeK [] ((k :: ks).zip (v :: vs))) x = match valV (mergeK [] (ks.zip vs)) x with | some v => some v | none => valV (putK ([] : List (Key × V)) k v) x := valV_merge (kvs := ks.zip vs) (acc := putK [] k v)
    cases e1 : pickK ks ds x with
    | some e' =>
      rw [e1] at e
      cases e
      obtain ⟨u, h1, h2⟩ := pick_val r (by simpa using hl) e1
      exact ⟨u, by rw [e2, h1], h2⟩
    | none =>
      rw [e1] at e
      obtain ⟨hk, e⟩ := ifs e
      subst e
      rw [decide_eq_true_eq] at hk
      have e3 : valV (mergeK [] (ks.zip vs)) x = none := by
        have go : ∀ (ks : List Key) (vs : List V) (ds : List D), Reps K T A H vs ds → ks.length = vs.length → pickK ks ds x = none → valV (mergeK [] (ks.zip vs)) x = none := by
          intro ks
          induction ks with
          | nil => intro vs ds _ _ _; rfl
          | cons k2 ks ih =>
            intro vs ds r hl e
            cases r with
            | nil => simp at hl
            | @cons v2 vs d2 ds h2 r =>
              rw [pickK] at e
              cases e5 : pickK ks ds x with
              | some z => rw [e5] at e; cases e
              | none =>
                rw [e5] at e
                have e6 : valV (mergeK [] ((k2 :: ks).zip (v2 :: vs))) x = match valV (mergeK [] (ks.zip vs)) x with | some v => some v | none => valV (putK ([] : List (Key × V)) k2 v2) x := valV_merge (kvs := ks.zip vs) (acc := putK [] k2 v2)
                rw [e6, ih vs ds r (by simpa using hl) e5, valV_put]
                by_cases h3 : k2 = x
                · rw [if_pos (decide_eq_true h3)] at e; cases e
                · rw [if_neg (fun z => h3 z.symm)]; rfl
        exact go ks vs ds r (by simpa using hl) e1
      exact ⟨v, by rw [e2, e3, valV_put, if_pos hk.symm], h⟩
mutual
theorem Rep.dict {K : PySem.W.Frag} {T : Tk} {A : Addr → Prop} {H : Hp} {p : Addr} {kv' : List (Key × V)} (hp : H p = some (.dK [])) : ∀ {v : V} {d : D}, Rep K T A H v d → Rep K T A (upd H p (.dK kv')) v d
  | _, _, .non => .non
  | _, _, .bl b => .bl b
  | _, _, .int i => .int i
  | _, _, .str x => .str x
  | _, _, .lst (a := a) n h r => .lst n (by rw [upd_ne (fun e => by rw [e, hp] at h; cases h)]; exact h) (Reps.dict hp r)
  | _, _, .tup h r => .tup (by
      rcases h with (h | ⟨o, h⟩) | h
      · exact .inl (.inl (by rw [upd_ne (fun e => by rw [e, hp] at h; cases h)]; exact h))
      · exact .inl (.inr ⟨o, by rw [upd_ne (fun e => by rw [e, hp] at h; cases h)]; exact h⟩)
      · exact .inr h) (Reps.dict hp r)
  | _, _, .tok h => .tok h
  | _, _, .tok2 h => .tok2 h
  | _, _, .scr h h' => .scr h h'
  | _, _, .dic n h r => .dic n (by rw [upd_ne (fun e => by rw [e, hp] at h; cases h)]; exact h) (RepD.dict hp r)
  | _, _, .dck c n h r => .dck c n (by rw [upd_ne (fun e => by rw [e, hp] at h; cases h; cases r; exact c rfl)]; exact h) (RepK.dict hp r)
theorem Reps.dict {K : PySem.W.Frag} {T : Tk} {A : Addr → Prop} {H : Hp} {p : Addr} {kv' : List (Key × V)} (hp : H p = some (.dK [])) : ∀ {v : List V} {d : List D}, Reps K T A H v d → Reps K T A (upd H p (.dK kv')) v d
  | _, _, .nil => .nil
  | _, _, .cons h r => .cons (Rep.dict hp h) (Reps.dict hp r)
theorem RepD.dict {K : PySem.W.Frag} {T : Tk} {A : Addr → Prop} {H : Hp} {p : Addr} {kv' : List (Key × V)} (hp : H p = some (.dK [])) : ∀ {v : List En} {d : List (D × D)}, RepD K T A H v d → RepD K T A (upd H p (.dK kv')) v d
  | _, _, .nil => .nil
  | _, _, .cons k h q r => .cons k (Rep.dict hp h) (Rep.dict hp q) (RepD.dict hp r)
theorem RepK.dict {K : PySem.W.Frag} {T : Tk} {A : Addr → Prop} {H : Hp} {p : Addr} {kv' : List (Key × V)} (hp : H p = some (.dK [])) : ∀ {v : List (Key × V)} {d : List (D × D)}, RepK K T A H v d → RepK K T A (upd H p (.dK kv')) v d
  | _, _, .nil => .nil
  | _, _, .cons k q r => .cons k (Rep.dict hp q) (RepK.dict hp r)
end
section
variable {m : Type → Type} [PM m] {X : Cx} {ρ : Rh} {pos : Pos}
/-- the pairs -/
structure VD (X : Cx) (ρ : Rh) (pos : Pos) (keys : List (Option Expr)) (vals : List Expr) (ks : List Key) (xs : m (List D)) : Prop where
  ex : ∃ trs, PPs X pos keys vals trs ∧ ∀ (σ : L2.St) (H : Hp) (R : List (V × V) → Hp → Prop), (∃ T A, Wd T A H ∧ Ev X.K T A ρ σ H ∧ PM.run xs fun ds => ∀ vs H', Step T H H' → T.ok H' → Reps X.K T A H' vs ds → ks.length = vs.length → R ((ks.map kV).zip vs) H') → tPairs trs σ H R
  ln : keys.length = ks.length ∧ vals.length = ks.length ∧ keys.all (·.isSome) = true
theorem VD.nil : VD (m := m) X ρ pos [] [] [] (pure []) := ⟨⟨[], pps_nil, fun σ H R ⟨T, A, w, ev, h⟩ => by
  rw [PM.run_pure] at h
  exact h [] H .refl w.ok .nil rfl⟩, rfl, rfl, rfl⟩
theorem VD.cons {k v : Expr} {keys : List (Option Expr)} {vals : List Expr} {ks : List Key} {kk : Key} {xa : m D} {xs : m (List D)} (hk : PE X k (tC (kV kk))) (hv : VE X ρ v xa) (hr : VD X ρ pos keys vals ks xs) : VD X ρ pos (some k :: keys) (v :: vals) (kk :: ks) (xa >>= fun a => xs >>= fun l => pure (a :: l)) := by
  obtain ⟨⟨trs, h1, h2⟩, l1, l2, l3⟩ := hr
  refine ⟨⟨_, pps_cons hk hv h1, fun σ H R ⟨T, A, w, ev, h⟩ => ?_⟩, by rw [List.length_cons, List.length_cons, l1], by rw [List.length_cons, List.length_cons, l2], by rw [List.all_cons, l3]; rfl⟩
  show tC (kV kk) σ H fun x H1 => _
  rw [PM.run_bind] at h
  refine (show tE X.K ρ xa σ H _ from ⟨T, A, w, ev, PM.mono (fun p h v H1 q => ?_) h⟩)
  rw [PM.run_bind] at h
  refine h2 _ _ _ ⟨T, A, q.wd w, ev.step w q.st, PM.mono (fun ds h vs H2 s2 o2 r2 hl => ?_) h⟩
  rw [PM.run_pure] at h
  exact h (v :: vs) H2 (q.st.trans s2) o2 (.cons (q.rp.step (q.wd w) s2) r2) (by rw [List.length_cons, List.length_cons, hl])
theorem VE.dpick {keys : List (Option Expr)} {vals : List Expr} {ks : List Key} {xs : m (List D)} {x : Expr} {xx : m D} {dp : Pos} (hu : X.A.units + 64 < cLine) (h : VD X ρ dp keys vals ks xs) (hx : VE X ρ x xx) (h0 : keys ≠ []) (h15 : keys.length ≤ 15) (hs : NoSl x := by exact fun _ _ => rfl) :
    VE X ρ (.Subscript (.Dict keys vals dp) x pos) (xs >>= fun l => xx >>= fun k => PM.lift (dPick ks l k)) := by
  obtain ⟨⟨trs, h1, h2⟩, l1, l2, l3⟩ := h
  refine imE (pe_dget (by omega) (pe_disp h1 l3 (by rw [l1, l2]) h0 h15) hx hs) fun σ H Q ⟨T, A, w, ev, q⟩ p hp => ?_
  have w1 : Wd T A (upd H p (.dK [])) := w.laid hp
  have s1 : Step T H (upd H p (.dK [])) := step_new hp
  rw [PM.run_bind] at q
  refine h2 _ _ _ ⟨T, A, w1, ev.step w s1, PM.mono (fun ds q vs H2 s2 o2 r2 hl => ?_) q⟩
  have nS : ¬ T.S p := fun z => w.new hp (w.sub p z)
  have e2 : H2 p = some (.dK []) := s2 p _ upd_same nS
  refine ⟨e2, ks.zip vs, ?_, ?_, ?_⟩
  · have go : ∀ (ks : List Key) (vs : List V), (ks.map kV).zip vs = (ks.zip vs).map fun kv => (kV kv.1, kv.2) := by
      intro ks
      induction ks with
      | nil => intro vs; rfl
      | cons k ks ih => intro vs; cases vs with | nil => rfl | cons v vs => rw [List.map_cons, List.zip_cons_cons, List.zip_cons_cons, List.map_cons, ih]
    exact go ks vs
  · rw [List.length_zip]; omega
  · have w2 : Wd T A H2 := w1.step s2 o2
    have nA : ¬ A p := w.new hp
    have s3 : Step T H (upd H2 p (.dK (mergeK [] (ks.zip vs)))) := fun a o e n => by
      have ne : a ≠ p := fun z => by rw [z, hp] at e; cases e
      rw [upd_ne ne]
      exact s2 a o (by rw [upd_ne ne]; exact e) n
    have w3 : Wd T A (upd H2 p (.dK (mergeK [] (ks.zip vs)))) := ⟨T.keep o2 fun a z => upd_ne fun e => nS (e ▸ z), w.sub, fun a z => by rw [upd_ne (fun e => nA (by rw [← e]; exact z))]; exact w2.mu a z⟩
    rw [PM.run_bind] at q
    refine ⟨T, A, w3, ev.step w s3, PM.mono (fun d q v H4 o4 => ?_) q⟩
    obtain ⟨r, er, q⟩ := (PM.run_lift _ _).mp q
    obtain ⟨key, ek, ep⟩ := Option.bind_eq_some_iff.mp er
    have r3 := Reps.dict (kv' := mergeK [] (ks.zip vs)) e2 r2
    obtain ⟨u, hu1, hu2⟩ := pick_val r3 hl ep
    have e4 : H4 p = some (.dK (mergeK [] (ks.zip vs))) := o4.st p _ upd_same nS
    have vk : v = kV key := by
      have rp := o4.rp
      cases rp with
      | int i => cases ek; rfl
      | str x => cases ek; rfl
      | _ => cases ek
    refine ⟨p, u, rfl, ?_, q u H4 ⟨s3.trans o4.st, o4.ok, hu2.step w3 o4.st⟩⟩
    rw [vk, ← hu1]
    exact DGet.k e4
end
/-! ## a written dict of the module, its keys texts -/
def GD (K : PySem.W.Frag) (w : World) (mg : Str → Option Value) (x : Str) (kvs : List (Str × D)) : Prop := ∃ a es n, mg x = some (.ref a) ∧ K.lookup a = some ⟨.type "dict", none, .dict es n, #[]⟩ ∧ PySem.W.KeysLit w.params es.toList ∧ ∀ p ∈ kvs, ∃ u, PySem.W.nsIn K a p.1 = some (some u) ∧ kdat K 10 u = some p.2
def pickS (kvs : List (Str × D)) (x : D) : Option D := match x with
  | .str k => (kvs.find? fun p => decide (p.1 = k)).map (·.2)
  | _ => none
section
variable {m : Type → Type} [PM m] {X : Cx} {ρ : Rh} {pos pn : Pos}
theorem VE.gdict {x : Str} {kvs : List (Str × D)} {i : Expr} {xi : m D} (h : GD X.K X.w X.mg x kvs) (hi : VE X ρ i xi) (hg : Gl X x := by rfl) (hdb : (x == ("__debug__" : Str)) = false := by decide) (hs : PlainIx i := by exact fun _ _ => rfl) :
    VE X ρ (.Subscript (.Name x pn) i pos) (xi >>= fun k => PM.lift (pickS kvs k)) := by
  obtain ⟨a, es, n, h1, h2, h3, h4⟩ := h
  refine imE (pe_ix ix_kdict (pe_glob (v := .ref a) hg h1 rfl hdb) hi hs) fun σ H Q ⟨T, A, w, ev, q⟩ => ?_
  show tE X.K ρ xi σ H _
  rw [PM.run_bind] at q
  refine ⟨T, A, w, ev, PM.mono (fun d q v H1 o => ?_) q⟩
  obtain ⟨r, er, q⟩ := (PM.run_lift _ _).mp q
  have rp := o.rp
  cases rp with
  | str k =>
    have er : (kvs.find? fun p => decide (p.1 = k)).map (·.2) = some r := er
    obtain ⟨p, hp, rfl⟩ := Option.map_eq_some_iff.mp er
    have hk := List.find?_some hp
    rw [decide_eq_true_eq] at hk
    obtain ⟨u, e1, e2⟩ := h4 p (List.mem_of_find?_eq_some hp)
    obtain ⟨v', rv, rr⟩ := kdat_rep (T := T) (A := A) (H := H1) e2
    exact ⟨a, k, v', rfl, rfl, ⟨es, n, u, h2, h3, by rw [← hk]; exact e1, rv⟩, q v' H1 ⟨o.st, o.ok, rr⟩⟩
  | _ => cases er
end
/-! ### is True -/
section
variable {K : W.Frag}
def dIsB : D → D → Option D
  | .bool a, .bool b => some (.bool (decide (a = b)))
  | _, _ => none
def dIsNotB : D → D → Option D
  | .bool a, .bool b => some (.bool (!decide (a = b)))
  | _, _ => none
theorem okIsB : OkR K dIsB rIsB := by
  intro T A H x y p q d Q w rx ry e k
  cases rx <;> cases ry <;> first
    | (cases e; exact ⟨_, _, rfl, rfl, k _ _ (.same w (.bl _))⟩)
    | cases e
theorem okIsNotB : OkR K dIsNotB rNotB := by
  intro T A H x y p q d Q w rx ry e k
  cases rx <;> cases ry <;> first
    | (cases e; exact ⟨_, _, rfl, rfl, k _ _ (.same w (.bl _))⟩)
    | cases e
end
end Qv

namespace Qv
open PySem PySem.Spec PyProof.Rows L2
/-! ## new dicts -/
section
variable {m : Type → Type} [PM m] {X : Cx} {ρ : Rh} {pos : Pos}
theorem pe_dnewN : PE X (.Dict [] [] pos) (fun _ H Q => ∀ p o, H p = none → Q (.ref p) (upd H p (DN p [] o))) := ⟨fun pins s σ H Q I h => by
  obtain ⟨o, ok⟩ := dn_mk (P := X.prog) (w := X.w) (xs := []) (us := []) (beq_eq_false_iff_ne.mpr (Ne.symm (Nat.ne_of_lt I.big))) (Nat.zero_le _) (fun _ h => by cases h) .nil (Heap.DictOfH.new s.heap)
  exact wpAny_Dict_empty ⟨.ref s.heap.objs.size, _, I.laid (a := s.heap.objs.size) (o := DN s.heap.objs.size [] o) (t' := s.toks) (fun _ _ q => Heap.get?_push_of_some _ q) (Nat.le_refl _) (ok _), rfl, h _ _ (I.hok.fresh (Nat.le_refl _))⟩⟩
theorem VN.dct0 : VN (m := m) X ρ (.Dict [] [] pos) (pure (.dict [])) :=
  imE pe_dnewN fun σ H Q ⟨T, A, w, ev, q⟩ p o np => by
    rw [PM.run_pure] at q
    exact q _ _ ⟨step_new np, (w.laid np).ok, np, .dct upd_same .nil⟩
end
end Qv

namespace Qv
open PySem PySem.Spec PyProof.Rows L2
/-! ## methods: index, count, get -/
/-- the first place -/
def idxD (d : D) : List D → Nat → Option Nat
  | [], _ => none
  | x :: xs, n => if PyData.eqv x d then some n else idxD d xs (n + 1)
def seqOk (ds : List D) (d : D) : Bool := SeqAt.shaped (.list ds) && SeqAt.shaped d
def dIndexS (ds : List D) (d : D) : Option D := if seqOk ds d then (idxD d ds 0).map fun n => PyData.int ((n : Nat) : Int) else none
def dIndexL : D → D → Option D
  | .list ds, d => dIndexS ds d
  | _, _ => none
def cntD (d : D) (ds : List D) : Nat := ds.countP fun z => PyData.eqv z d
def dCount : D → D → Option D
  | .list ds, d => if seqOk ds d then some (.int ((cntD d ds : Nat) : Int)) else none
  | _, _ => none
theorem idxD_spec {d : D} : ∀ {ds : List D} {n j : Nat}, idxD d ds n = some j → ∃ i z, j = n + i ∧ ds[i]? = some z ∧ PyData.eqv z d = true ∧ ∀ (m : Nat) (z' : D), m < i → ds[m]? = some z' → PyData.eqv z' d = false
  | [], n, j, h => by cases h
  | x :: xs, n, j, h => by
    unfold idxD at h
    by_cases c : PyData.eqv x d = true
    · rw [if_pos c] at h
      cases h
      exact ⟨0, x, rfl, rfl, c, fun m z' hm => absurd hm (Nat.not_lt_zero _)⟩
    · rw [if_neg c] at h
      obtain ⟨i, z, e, hz, hc, hm⟩ := idxD_spec h
      refine ⟨i + 1, z, by omega, by simpa using hz, hc, fun m z' hl hz' => ?_⟩
      cases m with
      | zero =>
        simp only [List.getElem?_cons_zero, Option.some.injEq] at hz'
        subst hz'
        exact Bool.eq_false_iff.mpr c
      | succ m => exact hm m z' (by omega) (by simpa using hz')
section
variable {X : Cx}
/-- what stands in a list or a tuple, as data -/
theorem seq_data {pins : List (Addr × Obj)} {σ : L2.St} {H : Hp} {s : Shared} {its : List Value} {us : List V} {ds : List D} {d : D} {y : V} {u : Value} (hu : X.A.units + 65 < cLine) (I : Inv X pins σ H s) (rv : Vals us its) (ha : DpAll X.K H us ds) (hy : Dp X.K H y d) (ry : RelV y u) (ho : seqOk ds d = true) :
    (∀ v, v ∈ its.toArray → SeqAt.EqAt X.A.in1 s v u (PyData.eqv (SeqAt.readOf s.heap v) d)) ∧ its.map (SeqAt.readOf s.heap) = ds := by
  simp only [seqOk, Bool.and_eq_true] at ho
  obtain ⟨bs, r1⟩ := Dp.reads I d y u hy ry
  obtain ⟨as, h4⟩ := Dp.readsAll I ds us its ha rv
  have hxs : PyData.canLayAll0 ds = true := SeqAt.canLay_of_shaped ho.1
  have hroom : X.A.units + 1 + min (PyData.depthAll ds) d.depth < cLine := by
    have h1 := SeqAt.depth_of_shaped ho.2
    have : min (PyData.depthAll ds) d.depth ≤ d.depth := Nat.min_le_right _ _
    omega
  exact ⟨SeqAt.items_eqAt (vs := its.toArray) (show ReadsAll s.heap its.toArray.toList ds as from h4) r1 hxs (SeqAt.canLay_of_shaped ho.2) hroom, SeqAt.readsAll_map ds its as hxs h4⟩
theorem at_mapV {f : Value → D} {its : List Value} {ds : List D} (e : its.map f = ds) (m : Nat) (hm : m < its.toArray.size) : ds[m]? = some (f its.toArray[m]) := by
  have hm' : m < its.length := by simpa using hm
  rw [← e, List.getElem?_map, List.getElem?_eq_getElem hm', Option.map_some, List.getElem_toArray]
/-- x.index(y) -/
theorem call_index {pins : List (Addr × Obj)} {σ : L2.St} {H : Hp} {s : Shared} {a : Addr} {us : List V} {ds : List D} {d : D} {y : V} {u : Value} {j : Nat} {Q : VK} (tp : Bool) (hu : X.A.units + 65 < cLine) (I : Inv X pins σ H s) (hs : if tp then SqT X.K H a us else SqL X.K H a us) (ha : DpAll X.K H us ds) (hy : Dp X.K H y d) (ry : RelV y u) (ho : seqOk ds d = true) (hj : idxD d ds 0 = some j) (q : Q (.int (j : Nat)) H) :
    wpAny (model X.prog X.w) X.A (call (.builtin (if tp then "tuple.index" else "list.index")) [.ref a, u]) (EP X pins σ Q) X.xe s := by
  obtain ⟨i, z, e, hz, hc, hm⟩ := idxD_spec hj
  rw [Nat.zero_add] at e
  subst e
  have hjd := (List.getElem?_eq_some_iff.mp hz).1
  have hsl := sizeLine_eq
  cases tp with
  | false =>
    obtain ⟨its, rv, ⟨⟨cls, dd, data, sls⟩, n, ho', hc', hdn, hdt⟩, hlen⟩ := I.list hs
    simp only at hc' hdt
    subst hc' hdt
    obtain ⟨h1, h2⟩ := seq_data hu I rv ha hy ry ho
    have hl : its.length = ds.length := by rw [← h2, List.length_map]
    have hvl := rv.length
    have hj2 : j < its.toArray.size := by simp; omega
    refine call_meets PySem.F.slot_list_index ⟨_, ho', rfl⟩ PySem.F.entry_list_index (PySem.F.args_list_index_2 _ _) (SeqAt.list_indexAt a its.toArray n dd sls u (fun v => PyData.eqv (SeqAt.readOf s.heap v) d) j hj2 (by omega) ?_ fun m hm1 hm2 => hm m _ hm2 (at_mapV h2 m hm1)) ⟨ho', h1, ?_⟩
    · have := at_mapV h2 j hj2
      rw [hz] at this
      show PyData.eqv (SeqAt.readOf s.heap its.toArray[j]) d = true
      rw [← Option.some.inj this]; exact hc
    · exact ⟨.int (j : Nat), H, I.tok _, ⟨_, rfl⟩, q⟩
  | true =>
    obtain ⟨its, rv, ⟨⟨cls, dd, dt, sls⟩, ho', hc', n, hdt⟩, hlen⟩ := I.tuple hs
    simp only at hc' hdt
    subst hc' hdt
    obtain ⟨h1, h2⟩ := seq_data hu I rv ha hy ry ho
    have hl : its.length = ds.length := by rw [← h2, List.length_map]
    have hvl := rv.length
    have hj2 : j < its.toArray.size := by simp; omega
    refine call_meets PySem.F.slot_tuple_index ⟨_, ho', rfl⟩ PySem.F.entry_tuple_index (PySem.F.args_tuple_index_2 _ _) (TI.tuple_indexAt a its.toArray n dd sls u (fun v => PyData.eqv (SeqAt.readOf s.heap v) d) j hj2 ?_ fun m hm1 hm2 => hm m _ hm2 (at_mapV h2 m hm1)) ⟨ho', h1, ?_⟩
    · have := at_mapV h2 j hj2
      rw [hz] at this
      show PyData.eqv (SeqAt.readOf s.heap its.toArray[j]) d = true
      rw [← Option.some.inj this]; exact hc
    · exact ⟨.int (j : Nat), H, I.tok _, ⟨_, rfl⟩, q⟩
theorem call_count {pins : List (Addr × Obj)} {σ : L2.St} {H : Hp} {s : Shared} {a : Addr} {us : List V} {ds : List D} {d : D} {y : V} {u : Value} {Q : VK} (hu : X.A.units + 65 < cLine) (I : Inv X pins σ H s) (hs : SqL X.K H a us) (ha : DpAll X.K H us ds) (hy : Dp X.K H y d) (ry : RelV y u) (ho : seqOk ds d = true) (q : Q (.int (cntD d ds : Nat)) H) :
    wpAny (model X.prog X.w) X.A (call (.builtin "list.count") [.ref a, u]) (EP X pins σ Q) X.xe s := by
  obtain ⟨its, rv, ⟨⟨cls, dd, data, sls⟩, n, ho', hc', hdn, hdt⟩, hlen⟩ := I.list hs
  simp only at hc' hdt
  subst hc' hdt
  obtain ⟨h1, h2⟩ := seq_data hu I rv ha hy ry ho
  refine call_meets PySem.F.slot_list_count ⟨_, ho', rfl⟩ PySem.F.entry_list_count (PySem.F.args_list_count_2 _ _) (SeqAt.list_countAt a its.toArray n dd sls u (fun v => PyData.eqv (SeqAt.readOf s.heap v) d)) ⟨ho', h1, ?_⟩
  refine ⟨.int (cntD d ds : Nat), H, I.tok _, ⟨s.toks, ?_⟩, q⟩
  have : List.countP (fun v => PyData.eqv (SeqAt.readOf s.heap v) d) its.toArray.toList = cntD d ds := by
    unfold cntD
    rw [← h2, List.countP_map]
    rfl
  rw [this]
end
/-! ### a method of a built-in type, called with one or two things -/
structure MT (T : String) (name : Str) (id : String) : Prop where
  pa : PlainAttrs T
  slot : Slot T name id
  ty : typeOf (.builtin id) = pure (.type "method_descriptor")
def TyAt (X : Cx) (x : V) (T : String) (H : Hp) : Prop := ∀ (pins : List (Addr × Obj)) (σ : L2.St) (s : Shared) (v : Value), Inv X pins σ H s → RelV x v → s.TypeIs v T ∧ ∀ a, v = .ref a → ∃ ob, s.heap.get? a = some ob ∧ ob.dict = none
def tM1 (X : Cx) (name : Str) (to te : TE) : TE := fun σ H Q => to σ H fun x H1 => ∃ T id, MT T name id ∧ TyAt X x T H1 ∧ te σ H1 fun y H2 => ∀ (pins : List (Addr × Obj)) (s : Shared) (v u : Value), Inv X pins σ H2 s → RelV x v → RelV y u → wpAny (model X.prog X.w) X.A (call (.builtin id) [v, u]) (EP X pins σ Q) X.xe s
def tM2 (X : Cx) (name : Str) (to te tf : TE) : TE := fun σ H Q => to σ H fun x H1 => ∃ T id, MT T name id ∧ TyAt X x T H1 ∧ te σ H1 fun y H2 => tf σ H2 fun z H3 => ∀ (pins : List (Addr × Obj)) (s : Shared) (v u r : Value), Inv X pins σ H3 s → RelV x v → RelV y u → RelV z r → wpAny (model X.prog X.w) X.A (call (.builtin id) [v, u, r]) (EP X pins σ Q) X.xe s
section
variable {X : Cx} {o e f : Expr} {name : Str} {apos cpos : Pos} {to te tf : TE}
theorem pe_m1 (ho : PE X o to) (he : PE X e te) (m : M1 X o name apos e cpos) : PE X (.Call (.Attribute o name apos) [e] [] cpos) (tM1 X name to te) := by
  refine ⟨fun pins s σ H Q I h => ?_⟩
  refine wpAny_Call_method_late m.base m.few m.line m.trees (thn (ho.run pins s σ H _ I h) fun v s1 ⟨x, H1, I1, r1, T, id, mt, ty, q1⟩ => ?_)
  obtain ⟨t1, t2⟩ := ty pins σ s1 v I1 r1
  exact ⟨T, id, mt.pa, mt.slot, mt.ty, t1, t2, Calls.callWith_builtin rfl (Calls.evalArgs_plain (Calls.spliced_cons (thn (he.run pins s1 σ H1 _ I1 q1) fun u s2 ⟨y, H2, I2, r2, q2⟩ => Calls.spliced_nil (q2 pins s2 v u I2 r1 r2))))⟩
theorem pe_m2 (ho : PE X o to) (he : PE X e te) (hf : PE X f tf) (m : M2 X o name apos e f cpos) : PE X (.Call (.Attribute o name apos) [e, f] [] cpos) (tM2 X name to te tf) := by
  refine ⟨fun pins s σ H Q I h => ?_⟩
  refine wpAny_Call_method_late m.base m.few m.line m.trees (thn (ho.run pins s σ H _ I h) fun v s1 ⟨x, H1, I1, r1, T, id, mt, ty, q1⟩ => ?_)
  obtain ⟨t1, t2⟩ := ty pins σ s1 v I1 r1
  exact ⟨T, id, mt.pa, mt.slot, mt.ty, t1, t2, Calls.callWith_builtin rfl (Calls.evalArgs_plain (Calls.spliced_cons (thn (he.run pins s1 σ H1 _ I1 q1) fun u s2 ⟨y, H2, I2, r2, q2⟩ => Calls.spliced_cons (thn (hf.run pins s2 σ H2 _ I2 q2) fun w s3 ⟨z, H3, I3, r3, q3⟩ => Calls.spliced_nil (q3 pins s3 v u w I3 r1 r2 r3)))))⟩
theorem ty_list {H : Hp} {a : Addr} {us : List V} (h : SqL X.K H a us) : TyAt X (.ref a) "list" H := fun pins σ s v I r => by
  cases r
  obtain ⟨its, _, pl, _⟩ := I.list h
  refine ⟨pl.isList.typeIs, fun b e => ?_⟩
  cases e
  obtain ⟨ob, n, e, c, hd, _⟩ := pl
  exact ⟨ob, e, hd⟩
theorem ty_dic {T : Tk} {A : Addr → Prop} {H : Hp} {a : Addr} {ds : List (D × D)} (h : DicAt X.K T A H a ds) : TyAt X (.ref a) "dict" H := fun pins σ s v I r => by
  cases r
  have z : ∃ o, s.heap.get? a = some o ∧ o.ExactDict := by
    rcases h with ⟨xs, o, e, r⟩ | ⟨kvs, _, e, r⟩
    · obtain ⟨_, _, _, us, rv, o, es, ep, h5, h6, _⟩ := dn_of I e r
      exact ⟨o, h5, h6⟩
    · obtain ⟨_, _, _, _, o, _, _, e, ex, _⟩ := I.hok a _ e
      exact ⟨o, e, ex⟩
  obtain ⟨o, e, ex⟩ := z
  refine ⟨⟨o, e, ex.1⟩, fun b e2 => ?_⟩
  cases e2
  exact ⟨o, e, ex.2.1⟩
theorem mt_ix : MT "list" "index" "list.index" := ⟨PySem.F.plainAttrs_list, PySem.F.slot_list_index, PySem.F.type_list_index⟩
theorem mt_cn : MT "list" "count" "list.count" := ⟨PySem.F.plainAttrs_list, PySem.F.slot_list_count, PySem.F.type_list_count⟩
theorem mt_gt : MT "dict" "get" "dict.get" := ⟨PySem.F.plainAttrs_dict, PySem.F.slot_dict_get, PySem.F.type_dict_get⟩
end
section
variable {m : Type → Type} [PM m] {X : Cx} {ρ : Rh} {o e f : Expr} {xo xe xf : m D} {apos cpos : Pos}
theorem seq_plain {ds : List D} {d : D} (h : seqOk ds d = true) : PyData.plainAll ds = true ∧ d.plain = true := by
  simp only [seqOk, Bool.and_eq_true] at h
  exact ⟨PyData.plainAll_of_canLay0 _ (SeqAt.canLay_of_shaped h.1), PyData.plain_of_canLay0 _ (SeqAt.canLay_of_shaped h.2)⟩
theorem no_lift {α β γ : Type} {x : m α} {y : α → β → Option γ} {z : m β} {K : γ → Prop} (hy : ∀ a b, y a b = none) (h : PM.run (x >>= fun a => z >>= fun b => PM.lift (y a b)) K) : False := by
  rw [PM.run_bind] at h
  refine PM.run_no x (PM.mono (fun a h => ?_) h)
  rw [PM.run_bind] at h
  refine PM.run_no z (PM.mono (fun b h => ?_) h)
  rw [PM.run_lift, hy] at h
  obtain ⟨_, e, _⟩ := h
  cases e
theorem no_lift1 {β γ : Type} {y : β → Option γ} {z : m β} {K : γ → Prop} (hy : ∀ b, y b = none) (h : PM.run (z >>= fun b => PM.lift (y b)) K) : False := by
  rw [PM.run_bind] at h
  refine PM.run_no z (PM.mono (fun b h => ?_) h)
  rw [PM.run_lift, hy] at h
  obtain ⟨_, e, _⟩ := h
  cases e
theorem VE.index (hu : X.A.units + 65 < cLine) (ho : VE X ρ o xo) (he : VE X ρ e xe) (mm : M1 X o "index" apos e cpos) : VE X ρ (.Call (.Attribute o "index" apos) [e] [] cpos) (xo >>= fun p => xe >>= fun q => PM.lift (dIndexL p q)) :=
  imE (pe_m1 ho he mm) fun σ H Q h => seqE h fun T A v H1 p w ev rp h => by
    cases rp with
    | @lst a us ds n hs hr =>
      refine ⟨_, _, mt_ix, ty_list (SqL.of hs), ?_⟩
      rw [PM.run_bind] at h
      refine ⟨T, A, w, ev, PM.mono (fun q h v2 H2 o2 pins s v' u I r1 r2 => ?_) h⟩
      rw [PM.run_lift] at h
      obtain ⟨d, ed, h⟩ := h
      obtain ⟨hc, j, hj, ed⟩ : seqOk ds q = true ∧ ∃ j, idxD q ds 0 = some j ∧ d = .int (j : Nat) := by
        have ed : dIndexS ds q = some d := ed
        unfold dIndexS at ed
        split at ed
        · rename_i hc
          cases hj : idxD q ds 0 with
          | none => rw [hj] at ed; cases ed
          | some j => rw [hj] at ed; cases ed; exact ⟨hc, j, rfl, rfl⟩
        · cases ed
      subst ed
      cases r1
      have hp := seq_plain hc
      have w2 := o2.wd w
      have hs2 : H2 a = some (.lst us) := o2.st a _ hs fun z => n (w.sub a z)
      have hr2 := hr.step w o2.st
      exact call_index (tp := false) hu I (SqL.of hs2) (hr2.dp hp.1) (o2.rp.dp hp.2) r2 hc hj (h _ H2 ⟨o2.st, o2.ok, .int _⟩)
    | _ => exact (no_lift1 (fun b => rfl) h).elim
theorem VE.count (hu : X.A.units + 65 < cLine) (ho : VE X ρ o xo) (he : VE X ρ e xe) (mm : M1 X o "count" apos e cpos) : VE X ρ (.Call (.Attribute o "count" apos) [e] [] cpos) (xo >>= fun p => xe >>= fun q => PM.lift (dCount p q)) :=
  imE (pe_m1 ho he mm) fun σ H Q h => seqE h fun T A v H1 p w ev rp h => by
    cases rp with
    | @lst a us ds n hs hr =>
      refine ⟨_, _, mt_cn, ty_list (SqL.of hs), ?_⟩
      rw [PM.run_bind] at h
      refine ⟨T, A, w, ev, PM.mono (fun q h v2 H2 o2 pins s v' u I r1 r2 => ?_) h⟩
      rw [PM.run_lift] at h
      obtain ⟨d, ed, h⟩ := h
      obtain ⟨hc, ed⟩ := ifs (show (if seqOk ds q then some (PyData.int ((cntD q ds : Nat) : Int)) else none) = some d from ed)
      subst ed
      cases r1
      have hp := seq_plain hc
      have hs2 : H2 a = some (.lst us) := o2.st a _ hs fun z => n (w.sub a z)
      have hr2 := hr.step w o2.st
      exact call_count hu I (SqL.of hs2) (hr2.dp hp.1) (o2.rp.dp hp.2) r2 hc (h _ H2 ⟨o2.st, o2.ok, .int _⟩)
    | _ => exact (no_lift1 (fun b => rfl) h).elim
theorem dic_step {K : PySem.W.Frag} {T : Tk} {A : Addr → Prop} {H H' : Hp} {a : Addr} {ds : List (D × D)} (w : Wd T A H) (n : ¬ A a) (h : DicAt K T A H a ds) (s : Step T H H') : DicAt K T A H' a ds := by
  rcases h with ⟨xs, o, e, r⟩ | ⟨kvs, c, e, r⟩
  · exact .inl ⟨xs, o, s a _ e fun z => n (w.sub a z), r.stA w.mun (s.stA w.sub)⟩
  · exact .inr ⟨kvs, c, s a _ e fun z => n (w.sub a z), r.stA w.mun (s.stA w.sub)⟩
/-- what get is asked of -/
theorem get_of {K : PySem.W.Frag} {T : Tk} {A : Addr → Prop} {H : Hp} {v : V} {p : D} (r : Rep K T A H v p) : (∃ ds a, p = .dict ds ∧ v = .ref a ∧ ¬ A a ∧ DicAt K T A H a ds) ∨ (∀ e x, dGet2 p e x = none) ∧ ∀ e, dGet1 p e = none := by
  cases r with
  | dic n h1 r1 => exact .inl ⟨_, _, rfl, rfl, n, .inl ⟨_, _, h1, r1⟩⟩
  | dck c n h1 r1 => exact .inl ⟨_, _, rfl, rfl, n, .inr ⟨_, c, h1, r1⟩⟩
  | tok _ => exact .inr ⟨fun e x => by cases e <;> rfl, fun e => by cases e <;> rfl⟩
  | tok2 _ => exact .inr ⟨fun e x => by cases e <;> rfl, fun e => by cases e <;> rfl⟩
  | scr _ _ => exact .inr ⟨fun e x => by cases e <;> rfl, fun e => by cases e <;> rfl⟩
  | _ => exact .inr ⟨fun _ _ => rfl, fun _ => rfl⟩
theorem VE.get2 (hu : X.A.units + 65 < cLine) (ho : VE X ρ o xo) (he : VE X ρ e xe) (hf : VE X ρ f xf) (mm : M2 X o "get" apos e f cpos) : VE X ρ (.Call (.Attribute o "get" apos) [e, f] [] cpos) (xo >>= fun p => xe >>= fun q => xf >>= fun x => PM.lift (dGet2 p q x)) :=
  imE (pe_m2 ho he hf mm) fun σ H Q h => seqE h fun T A v H1 p w ev rp h => by
    rcases get_of rp with ⟨ds, a, rfl, rfl, n, hd⟩ | ⟨hn, _⟩
    · refine ⟨_, _, mt_gt, ty_dic hd, ?_⟩
      rw [PM.run_bind] at h
      refine ⟨T, A, w, ev, PM.mono (fun q h v2 H2 o2 => ?_) h⟩
      rw [PM.run_bind] at h
      have w2 := o2.wd w
      refine ⟨T, A, w2, ev.step w o2.st, PM.mono (fun x h v3 H3 o3 pins s v' u r I r1 r2 r3 => ?_) h⟩
      rw [PM.run_lift] at h
      obtain ⟨d, ed, h⟩ := h
      obtain ⟨hc, ed⟩ := ifs (show (if kOk ds q then some ((dFind ds q).getD x) else none) = some d from ed)
      subst ed
      cases r1
      have hd3 := dic_step w2 n (dic_step w n hd o2.st) o3.st
      exact call_get true (by omega) I ⟨hd3, o2.rp.step w2 o3.st, hc⟩ r2 r3 o3.rp (fun z => nomatch z) fun w' w0 s' I' rw' rr => ⟨w0, H3, I', rw', h _ H3 ⟨o2.st.trans o3.st, o3.ok, rr⟩⟩
    · exact (no_lift (y := fun q x => dGet2 p q x) hn h).elim
theorem VE.get1 (hu : X.A.units + 65 < cLine) (ho : VE X ρ o xo) (he : VE X ρ e xe) (mm : M1 X o "get" apos e cpos) : VE X ρ (.Call (.Attribute o "get" apos) [e] [] cpos) (xo >>= fun p => xe >>= fun q => PM.lift (dGet1 p q)) :=
  imE (pe_m1 ho he mm) fun σ H Q h => seqE h fun T A v H1 p w ev rp h => by
    rcases get_of rp with ⟨ds, a, rfl, rfl, n, hd⟩ | ⟨_, hn⟩
    · refine ⟨_, _, mt_gt, ty_dic hd, ?_⟩
      rw [PM.run_bind] at h
      refine ⟨T, A, w, ev, PM.mono (fun q h v2 H2 o2 pins s v' u I r1 r2 => ?_) h⟩
      rw [PM.run_lift] at h
      obtain ⟨d, ed, h⟩ := h
      obtain ⟨hc, ed⟩ := ifs (show (if kOk ds q then some ((dFind ds q).getD .none) else none) = some d from ed)
      subst ed
      cases r1
      exact call_get false (x := .none) (z := .non) (r := .none) (by omega) I ⟨dic_step w n hd o2.st, o2.rp, hc⟩ r2 rfl .non (fun _ => rfl) fun w' w0 s' I' rw' rr => ⟨w0, H2, I', rw', h _ H2 ⟨o2.st, o2.ok, rr⟩⟩
    · exact (no_lift1 hn h).elim
end
end Qv

namespace Qv
open PySem PySem.Spec PyProof.Rows L2
/-! ## x[::-1] -/
theorem adj_rev (n : Nat) : Builtin.Slice.sliceAdjust none none (-1) (n : Int) = ((n : Int) - 1, -1) := by
  unfold Builtin.Slice.sliceAdjust
  rfl
theorem places_rev (n : Nat) : Builtin.Slice.slicePlaces ((n : Int) - 1) (-1) (-1) = n := by
  unfold Builtin.Slice.slicePlaces
  have h1 : ¬ ((-1 : Int) > 0) := by decide
  rw [if_neg h1]
  by_cases h : (n : Int) - 1 > -1
  · rw [if_pos h, show (- -1 : Int) = 1 by decide, Int.ediv_one]; omega
  · rw [if_neg h]; omega
theorem pick_rev {α : Type} (xs : Array α) : ((List.range xs.size).filterMap fun (k : Nat) => xs[((xs.size : Int) - 1 + (k : Int) * (-1)).toNat]?) = xs.toList.reverse := by
  rw [← PySem.W.krv_all xs, ← List.filterMap_reverse, ← PySem.W.krv_range, List.filterMap_map]
  have go : ∀ l : List Nat, (∀ k ∈ l, k < xs.size) → l.filterMap (fun (k : Nat) => xs[((xs.size : Int) - 1 + (k : Int) * (-1)).toNat]?) = l.filterMap ((fun x => xs[x]?) ∘ fun k => xs.size - 1 - k) := by
    intro l hl
    induction l with
    | nil => rfl
    | cons k l ih =>
      have hk := hl k List.mem_cons_self
      rw [List.filterMap_cons, List.filterMap_cons, ih fun j hj => hl j (List.mem_cons_of_mem _ hj)]
      show (match xs[((xs.size : Int) - 1 + (k : Int) * (-1)).toNat]? with | none => _ | some b => _) = (match xs[xs.size - 1 - k]? with | none => _ | some b => _)
      rw [show ((xs.size : Int) - 1 + (k : Int) * (-1)).toNat = xs.size - 1 - k by omega]
  exact go _ fun k hk => List.mem_range.mp hk
section
variable {prog : Program} {w : World} {A : Around} {E : Value → Shared → Prop} {s : Shared}
theorem applied_rev {sl : Addr} {vu : Value} {n : Nat} {Q : Int × Int × Nat → Shared → Prop} (hs : s.heap.IsSliceOf sl .none .none vu) (pu : IsPart vu (some (-1))) (h : Q ((n : Int) - 1, -1, n) s) : wpAny (model prog w) A (Builtin.Slice.sliceApplied (.ref sl) (pure (n : Int))) Q E s := by
  obtain ⟨os, hos, hcs, hds⟩ := id hs
  cases pu with
  | int i t =>
    unfold Builtin.Slice.sliceApplied
    unfold Builtin.Slice.sliceFields
    refine wpAny_bind (wpAny_bind (wpAny_field hos hds (x := .none) rfl (wpAny_bind (wpAny_field hos hds (x := .none) rfl (wpAny_bind (wpAny_field hos hds (x := .int (-1) t) rfl (wpAny_pure (wpAny_bind (slicePart_int ?_)))))))))
    show wpAny _ _ (if ((-1 : Int) == 0) = true then _ else _) _ _ s
    rw [if_neg (by decide)]
    refine wpAny_bind (slicePart_none (wpAny_bind (slicePart_none (wpAny_bind (wpAny_pure ?_)))))
    show wpAny _ _ (match Builtin.Slice.sliceAdjust none none (-1) (n : Int) with | (lo, hi) => pure (lo, (-1 : Int), Builtin.Slice.slicePlaces lo hi (-1))) _ _ s
    rw [adj_rev n]
    show wpAny _ _ (pure ((n : Int) - 1, (-1 : Int), Builtin.Slice.slicePlaces ((n : Int) - 1) (-1) (-1))) _ _ s
    rw [places_rev]
    exact wpAny_pure h
theorem tuple_rev {t sl : Addr} {items : Array Value} {vu : Value} {Q : Value → Shared → Prop} (ht : IsTup s.heap t items) (hs : s.heap.IsSliceOf sl .none .none vu) (pu : IsPart vu (some (-1)))
    (h : Q (.ref s.heap.objs.size) { s with heap := s.heap.push { cls := .type "tuple", data := .seq items.toList.reverse.toArray } }) (hsz : items.size ≤ sizeLine) : wpAny (model prog w) A (getItem (.ref t) (.ref sl)) Q E s := by
  have hok : sizeOk (.seq items.toList.reverse.toArray) := by
    show items.toList.reverse.toArray.size ≤ sizeLine
    rw [List.size_toArray, List.length_reverse, Array.length_toList]; exact hsz
  obtain ⟨os, hos, hcs, hds⟩ := id hs
  have hT : s.TypeIs (.ref sl) "slice" := ⟨os, hos, hcs⟩
  unfold getItem
  try with_reducible refine wpAny_holding ?_
  first | refine wpAny_bind (wpAny_pure ?_) | skip
  refine wpAny_bind (wpAny_sequenceKey ht.typeIs (by decide) (wpAny_bind (wpAny_callSpecial?_slot (name := Str.ofString "__getitem__") ht.typeIs PyProof.Rows.slot_tuple_getitem (wpAny_call_entry PyProof.Rows.slot_tuple_getitem ht.typeIs entry_tuple_getitem ?_ (args_tuple_getitem _ _)))))
  show wpAny _ _ (Builtin.Tuple.tupleItemsOf (.ref t) >>= _) _ _ s
  refine wpAny_bind (tupleItemsOf_ ht (wpAny_bind (wpAny_typeOf hT ?_)))
  rw [if_pos (by decide)]
  refine wpAny_bind (applied_rev hs pu ?_)
  have hno : ¬ ((((items.size : Int) - 1) == 0 && (-1 : Int) == 1 && items.size == items.size) = true) := by simp
  show wpAny _ _ (if (((items.size : Int) - 1) == 0 && (-1 : Int) == 1 && items.size == items.size) = true then _ else _) _ _ s
  rw [if_neg hno, pick_rev]
  first
    | exact wpAny_bind (m := Builtin.Tuple.tupleExact _) (wpAny_newObj_type (wpAny_pure ⟨_, rfl, wpAny_pure h⟩) hok)
    | exact wpAny_bind (m := Builtin.Tuple.tupleExact _) (wpAny_newObj_type (wpAny_bind (wpAny_pure (wpAny_pure ⟨_, rfl, wpAny_pure h⟩))) hok)
    | exact wpAny_bind (wpAny_bind (m := Builtin.Tuple.tupleExact _) (wpAny_newObj_type (wpAny_pure (wpAny_pure ⟨_, rfl, wpAny_pure h⟩)) hok))
end
def revS (x : Str) : Str := ⟨x.cps.toList.reverse.toArray⟩
theorem revS_len (x : Str) : (revS x).length = x.length := by
  show (revS x).cps.size = x.cps.size
  simp [revS]
theorem picked_rev (x : Str) (t : Tok) : slicePicked x none none (some (-1, t)) = (List.range x.length).reverse := by
  show Builtin.Str.strSliceIndices none none (-1) x.length = _
  unfold Builtin.Str.strSliceIndices
  show sliceRange ((x.length : Int) - 1) (-1) (-1) = _
  rw [PySem.W.krv_sliceRange, PySem.W.krv_range]
theorem made_rev (x : Str) (t t' : Tok) : sliceMade x t none none (some (-1, t')) = .str (revS x) := by
  unfold sliceMade
  rw [picked_rev]
  rw [if_neg (by show ¬ ((((-1 : Int)) == 1 && _) = true); simp)]
  have e : (List.range x.length).reverse.filterMap (fun i => x.cps[i]?) = x.cps.toList.reverse := by
    rw [List.filterMap_reverse]
    exact congrArg List.reverse (PySem.W.krv_all x.cps)
  rw [e]
  rfl
def rRev (K : PySem.W.Frag) : V → Hp → VK → Prop := fun x H Q => (∃ a xs, x = .ref a ∧ SqL K H a xs ∧ ∀ p, H p = none → Q (.ref p) (upd H p (.lst xs.reverse))) ∨ (∃ a xs, x = .ref a ∧ SqT K H a xs ∧ ∀ p, H p = none → Q (.ref p) (upd H p (.tup xs.reverse))) ∨ (∃ z, x = .str z ∧ z.length ≤ sizeLine ∧ Q (.str (revS z)) H)
theorem pe_rev {X : Cx} {e : Expr} {te : TE} {k : Nat} {p1 p2 p3 pos : Pos} (he : PE X e te) : PE X (.Subscript e (.Slice none none (some (.UnaryOp .USub (.Constant (.int 1) k p1) p2)) p3) pos) (fun σ H Q => te σ H fun x H1 => rRev X.K x H1 Q) := by
  refine ⟨fun pins s σ H Q I h => Subscript_ (thn (he.run pins s σ H _ I h) fun v s1 ⟨x, H1, I1, r1, q1⟩ => ?_)⟩
  have hst : PO X (some (.UnaryOp .USub (.Constant (.int 1) k p1) p2)) (tPart (tUn (rU fun i => .int (-i)) (tC (.int 1)))) := po_some (pe_un un_neg pe_int)
  refine wpAny_Slice ?_
  rw [evalPart_none]
  refine wpAny_pure (wpAny_pure (thn (hst.run pins s1 σ H1 (fun o H2 => o = some (-1) ∧ H2 = H1) I1 ⟨1, rfl, -1, rfl, rfl, rfl⟩) fun vs s2 ⟨o, H2, I2, ps, eo, eh⟩ => ?_))
  subst eo eh
  have I5 : Inv X pins σ H2 { s2 with heap := s2.heap.push { cls := .type "slice", data := .fields #[.none, .none, vs] } } := I2.kept (t' := s2.toks) fun b ob q => Heap.get?_push_of_some _ q
  show wpAny (model X.prog X.w) X.A (subscriptTail e (.Slice none none (some (.UnaryOp .USub (.Constant (.int 1) k p1) p2)) p3) v (.ref s2.heap.objs.size)) (EP X pins σ Q) X.xe { s2 with heap := s2.heap.push { cls := .type "slice", data := .fields #[.none, .none, vs] } }
  rcases q1 with ⟨a, xs, rfl, hx, q⟩ | ⟨a, xs, rfl, hx, q⟩ | ⟨z, rfl, hz, q⟩
  · cases r1
    obtain ⟨its, r, ht, hz⟩ := I5.list hx
    have hlen := r.length
    refine tail_any (ops := [.ref a, .ref s2.heap.objs.size]) ht.isList.typeIs (PySem.slot_list_getitem.lookup) (wpAny_getItem_list_slice ht.isList (Heap.IsSliceOf.new _ .none .none vs) .none .none ps (by decide) ?_ (by rw [List.size_toArray]; omega)) (by with_unfolding_all rfl)
    rw [PySem.W.krv_pick]
    refine ⟨.ref _, _, I5.laid (t' := s2.toks) (o := .lst xs.reverse) (fun b ob q => Heap.get?_push_of_some _ q) (Nat.le_refl _) ⟨by rw [List.length_reverse]; exact hz, _, 0, r.reverse, Heap.get?_push_size _ rfl⟩, rfl, q _ (I5.hok.fresh (Nat.le_refl _))⟩
  · cases r1
    obtain ⟨its, r, ht, hz⟩ := I5.tuple hx
    have hlen := r.length
    refine tail_any (ops := [.ref a, .ref s2.heap.objs.size]) ht.typeIs PyProof.Rows.slot_tuple_getitem.lookup (tuple_rev ht (Heap.IsSliceOf.new _ .none .none vs) ps ?_ (by rw [List.size_toArray]; omega)) (by with_unfolding_all rfl)
    refine ⟨.ref _, _, I5.laid (t' := s2.toks) (o := .tup xs.reverse) (fun b ob q => Heap.get?_push_of_some _ q) (Nat.le_refl _) ⟨by rw [List.length_reverse]; exact hz, _, r.reverse, IsTup.new _ _⟩, rfl, q _ (I5.hok.fresh (Nat.le_refl _))⟩
  · obtain ⟨t, rfl⟩ := r1
    obtain ⟨t', rfl⟩ : ∃ t', vs = .int (-1) t' := by cases ps with | int i t' => exact ⟨t', rfl⟩
    refine tail_any (ops := [.str z t, .ref s2.heap.objs.size]) (typeIs_str _ z t) PySem.F.slot_str_getitem.lookup (wpAny_getItem_str_slice (l := none) (u := none) (st := some (-1, t')) ⟨_, Heap.get?_push_size _ rfl, rfl, rfl⟩ rfl ?_) (by with_unfolding_all rfl)
    rw [made_rev]
    exact ⟨by rw [revS_len]; exact hz, .str (revS z), H2, I5.tok _, ⟨_, rfl⟩, q⟩
def dRev : D → Option D
  | .list xs => some (.list xs.reverse)
  | .tuple xs => some (.tuple xs.reverse)
  | .str z => if z.length ≤ sizeLine then some (.str (revS z)) else none
  | _ => none
def dRevL : D → Option D
  | .list xs => some (.list xs.reverse)
  | _ => none
section
variable {m : Type → Type} [PM m] {X : Cx} {ρ : Rh} {e : Expr} {xe : m D} {k : Nat} {p1 p2 p3 pos : Pos}
theorem VE.rev (he : VE X ρ e xe) : VE X ρ (.Subscript e (.Slice none none (some (.UnaryOp .USub (.Constant (.int 1) k p1) p2)) p3) pos) (xe >>= fun p => PM.lift (dRev p)) :=
  imE (pe_rev he) fun σ H Q h => seqE h fun T A v H1 p w ev rp h => by
    rw [PM.run_lift] at h
    obtain ⟨d, ed, h⟩ := h
    cases rp with
    | lst n hs hr => cases ed; exact .inl ⟨_, _, rfl, SqL.of hs, fun p np => h _ _ (.lst w np hr.reverse)⟩
    | tup hs hr => cases ed; exact .inr (.inl ⟨_, _, rfl, hs, fun p np => h _ _ (.tup w np hr.reverse)⟩)
    | str z =>
      obtain ⟨hz, ed⟩ := ifs ed
      subst ed
      exact .inr (.inr ⟨z, rfl, hz, h _ _ (.same w (.str _))⟩)
    | _ => cases ed
theorem VN.rev (he : VE X ρ e xe) : VN X ρ (.Subscript e (.Slice none none (some (.UnaryOp .USub (.Constant (.int 1) k p1) p2)) p3) pos) (xe >>= fun p => PM.lift (dRevL p)) :=
  imE (pe_rev he) fun σ H Q ⟨T, A, w, ev, h⟩ => by
    rw [PM.run_bind] at h
    refine ⟨T, A, w, ev, PM.mono (fun p h v H1 o => ?_) h⟩
    rw [PM.run_lift] at h
    obtain ⟨d, ed, h⟩ := h
    have rp := o.rp
    cases rp with
    | lst n hs hr =>
      cases ed
      exact .inl ⟨_, _, rfl, SqL.of hs, fun p np => h _ _ ((postN_new (o.wd w) np hr.reverse).after o.st (step_none o.st o.ok np))⟩
    | _ => cases ed
end
end Qv

namespace Qv
open PySem PySem.Spec PyProof.Rows L2
/-! ## {k: v for t in it if ..} -/
section
variable {X : Cx}
/-- the store of a comprehension -/
theorem dset_any {pins : List (Addr × Obj)} {s : Shared} {σ : L2.St} {H : Hp} {E : Value → Shared → Prop} {D0 : Addr} {i v : V} {iv u : Value} {Nx : Hp → Prop} {Q : Unit → Shared → Prop} (hu : X.A.units + 9 < cLine) (I : Inv X pins σ H s) (ri : RelV i iv) (rv : RelV v u) (h : rSetD X.K (.ref D0) i v H Nx)
    (k : ∀ s' H', Inv X pins σ H' s' → Nx H' → Q () s') : wpAny (model X.prog X.w) X.A (dictSet D0 iv u) Q E s := by
  obtain ⟨T, A, a, ds, e, ea, ⟨ha, rk, ho⟩, hz, q1, q2⟩ := h
  cases ea
  have mu := ha.mu
  rcases kOk_of ho with ⟨ho, kk, hk⟩ | ⟨ho, kk, hk⟩
  · obtain ⟨xs, rd, hs, hl, hn, us, rvs, hd⟩ := dn_any I ha ho
    obtain ⟨b, rfl, rfl, ik⟩ := rep_key I rk ri hk
    have hlen : xs.length = us.length := by have := rvs.length; simpa using this
    have hxl : xs.length = ds.length := repD_len0 rd
    refine wpAny_dictSet_heap (show X.A.units + 8 < cLine by omega) ik hd (fun h' hm hsb => ?_) (by rw [zE_len hlen]; exact hl)
    obtain ⟨us', r2, e2⟩ := zE_put (k := kk) (b := b) rv rvs
    rw [← e2] at hm
    have hz2 : (putE xs kk b v).length ≤ sizeLine := by
      have := putE_len (xs := xs) (k := kk) (b := b) (v := v)
      omega
    have hn2 : ∀ x ∈ putE xs kk b v, numK x.1 = true := fun x hx => by
      rcases putE_mem hx with h | ⟨y, hy, h⟩
      · rw [h]
        obtain ⟨_, _, h1, _⟩ := keyT_of hk
        exact nk_num h1
      · rw [← h]; exact hn y hy
    obtain ⟨o2, ok2⟩ := dn_mk (xs := putE xs kk b v) hs hz2 hn2 r2 hm
    exact k _ _ (I.write (x := D0) (e := D0) mu (.inl rfl) (fun c w hc q => (hsb.2 c hc).trans q) (let ⟨o, _, _, ho, _⟩ := hm; ⟨o, ho⟩) (ok2 _)) (q1 xs kk b o2 rfl hk rd)
  · obtain ⟨kvs, rd, z, hd, vs, rel, dd⟩ := dk_any I ha ho
    have ei := keyS_rep rk hk
    subst ei
    have hkl := repK_len rd
    refine wpAny_dictSet_pairs (hsz := by rw [← rel.length]; exact z) (kV_is ri) dd fun h' dd' hs => ?_
    have hl : (putK kvs kk v).length ≤ sizeLine := by have := length_putK kvs kk v; omega
    exact k _ _ (d_write I mu hs (let ⟨q, _, _, hq, _⟩ := dd'; ⟨q, hq⟩) (dk_new hl hd (rel.put kk rv) dd')) (q2 kvs kk hk rd)
/-- what a dict's comprehension asks: from the empty dict on -/
def tDg (K : PySem.W.Frag) (wi : TI) (g : TG) (tt : TT) (tk tv : TE) (vs : List Nat) : TE := fun σ H Q => wi σ H fun J H1 => ∀ D o, H1 D = none → ∃ W : Nat → Nat → Hp → Prop, (∃ m, W 0 m (upd H1 D (DN D [] o))) ∧ ∀ i m H, W i m H →
  (J.stop i H ∧ Q (.ref D) H) ∨ (J.go i H ∧ ∃ Nx : Hp → Prop, (∀ H', Nx H' → ∃ m', m' < m ∧ W (i + 1) m' H') ∧ ∀ x H', J.yld i H x H' → g x (wipe σ vs) H' fun σ2 H2 => wipe σ2 vs = wipe σ vs ∧ tt σ2 H2 fun b H3 =>
    if b = true then tk σ2 H3 fun y H4 => tv σ2 H4 fun z H5 => rSetD K (.ref D) y z H5 Nx else Nx H3)
theorem dg_core {pins : List (Addr × Obj)} {s : Shared} {σ : L2.St} {H : Hp} {Q : VK} {kx vx tg iter : Expr} {ifs : List Expr} {scope : Scope} {own : List (Str × Nat)} {pos pos' : Pos} {wi : TI} {g : TG} {tt : TT} {tk tv : TE} {use : Option (Value → Sem Unit)} {Qf : Value → Shared → Prop} (hu : X.A.units + 9 < cLine) (hc : X.calm = true) (hN : X.N.Nodup) (I : Inv X pins σ H s) (hi : PI X tg iter wi) (ok : BlkOk X.N X.env.scope scope own)
    (hg : ∀ s H C cl fp, PG (Bk X scope s H C cl fp) tg g) (ht : ∀ s H C cl fp, PTs (Bk X scope s H C cl fp) ifs tt) (hk : ∀ s H C cl fp, PE (Bk X scope s H C cl fp) kx tk) (he : ∀ s H C cl fp, PE (Bk X scope s H C cl fp) vx tv) (hs : ∀ x, foldedSetIterable iter X.env x = pure x)
    (h : tDg X.K wi g tt tk tv (own.map (·.2)) σ H Q) (hRR : ∀ L C s' m H', Inv X pins σ H' s' → Q (.ref L) H' → s'.heap.Ns C m → FpOk X pins H' C → compPost (model X.prog X.w) X.A X.xe use Qf (.ref L) C (.ok .next) s') :
    wpAny (model X.prog X.w) X.A (comprehension (.DictComp kx vx [⟨tg, iter, ifs, 0⟩] scope pos) scope X.env pos' newDict false (eval iter X.env) use) Qf X.xe s := by
  have hfree : ∀ y ∈ scope.names, y.2 = .free → ∃ c, X.env.cells.lookup y.1 = some c := fun y hy e => (ok.free y hy e).elim (fun k => I.ok.has _ (.inl k)) fun k => I.ok.has _ (.inr k)
  refine wpAny_comprehension_free (use := use) rfl hs (closure_ok hfree) ok.kind (fun y hy e => by rw [ok.uniq y hy, e]) (thn (hi.run pins s σ H _ I h) fun xv s1 hx => thn hx fun itv s2 ⟨it, fp, tn, J, H2, e, I2, T, st2, f2, q⟩ => ?_)
  subst e
  refine wpAny_newObj_type (newEnv_comp ?_)
  generalize hD : s2.heap.objs.size = D0
  have hDn : H2 D0 = none := I2.hok.fresh (Nat.le_of_eq hD)
  obtain ⟨o0, ok0⟩ := dn_mk (P := X.prog) (w := X.w) (xs := []) (us := []) (beq_eq_false_iff_ne.mpr (Ne.symm (Nat.ne_of_lt I2.big))) (Nat.zero_le _) (fun _ h => by cases h) .nil (Heap.DictOfH.new s2.heap)
  rw [hD] at ok0
  obtain ⟨W, ⟨m0, w0⟩, turn⟩ := q D0 o0 hDn
  generalize hs3 : ({ s2 with heap := s2.heap.push { cls := .type "dict", data := .dict #[] } } : Shared) = s3
  have h3 : s3.heap = s2.heap.push { cls := .type "dict", data := .dict #[] } := by rw [← hs3]
  have I3 : Inv X pins σ (upd H2 D0 (DN D0 [] o0)) s3 := by
    rw [← hs3]
    exact I2.laid (t' := s2.toks) (fun b o e => Heap.get?_push_of_some _ e) (Nat.le_of_eq hD) (ok0 _)
  have f3 : ∀ b ∈ fp, FpOk X pins (upd H2 D0 (DN D0 [] o0)) b ∧ b < s3.heap.objs.size := fun b hb => by
    obtain ⟨o, e, _⟩ := T.obj _ _ st2 b hb
    have hlt := Heap.lt_size e
    exact ⟨⟨by rw [upd_ne (by rw [← hD]; exact Nat.ne_of_lt hlt)]; exact (f2 b hb).1, (f2 b hb).2⟩, by rw [h3, Heap.size_push]; exact Nat.lt_succ_of_lt hlt⟩
  have I4 := block_start I3 ok hN f3
  generalize hH3 : upd H2 D0 (DN D0 [] o0) = H3 at I3 I4 w0 f3
  generalize hcl : cellsFrom (s3.heap.objs.size + 1) scope.names (cloFrom X.env.cells scope.names []) = cl at I4
  have pg : PG (X.blk s3 H3 scope (compEnvC scope cl s3.heap.objs.size X.env) fp) tg g := hg s3 H3 s3.heap.objs.size cl fp
  have pt : PTs (X.blk s3 H3 scope (compEnvC scope cl s3.heap.objs.size X.env) fp) ifs tt := ht s3 H3 s3.heap.objs.size cl fp
  have pk : PE (X.blk s3 H3 scope (compEnvC scope cl s3.heap.objs.size X.env) fp) kx tk := hk s3 H3 s3.heap.objs.size cl fp
  have pe : PE (X.blk s3 H3 scope (compEnvC scope cl s3.heap.objs.size X.env) fp) vx tv := he s3 H3 s3.heap.objs.size cl fp
  show codeAny _ _ (.compStart (.DictComp kx vx [⟨tg, iter, ifs, 0⟩] scope pos) 0 (.ref it) (.ref D0) (compEnvC scope cl s3.heap.objs.size X.env)) (compPost (model X.prog X.w) X.A X.xe use Qf (.ref D0) s3.heap.objs.size) { s3 with heap := pushCells (s3.heap.push { cls := .type "dict", data := .dict #[] }) scope.names }
  generalize hs4 : ({ s3 with heap := pushCells (s3.heap.push { cls := .type "dict", data := .dict #[] }) scope.names } : Shared) = s4 at I4 ⊢
  have st4 : tn 0 s4.heap := T.keep _ _ _ st2 fun b _ o e => by
    rw [← hs4]
    exact pushCells_keeps _ _ _ _ (Heap.get?_push_of_some _ (by rw [h3]; exact Heap.get?_push_of_some _ e))
  generalize hce : compEnvC scope cl s3.heap.objs.size X.env = ce at *
  have cL : ce.locals = s3.heap.objs.size := by rw [← hce]; rfl
  have stat : ∀ {σ' : L2.St} {H' : Hp} {s' : Shared}, Inv (X.blk s3 H3 scope ce fp) [] σ' H' s' → (∀ b ∈ fp, H' b = none) → ∀ b ∈ fp, FpOk (X.blk s3 H3 scope ce fp) [] H' b := fun {σ' H' s'} I' hn b hb =>
    ⟨hn b hb, (I'.ok.exf b hb).1, I'.ok.exfs b hb, .inl hb, fun x c e => (I'.ok.exf b hb).2 x c e, fun p hp => absurd (show p ∈ ([] : List (Addr × Obj)) ++ [] from hp) (by simp)⟩
  have loop : codeAny (model X.prog X.w) X.A (.compLoop (.DictComp kx vx [⟨tg, iter, ifs, 0⟩] scope pos) 0 (.ref it) (.ref D0) ce) (compPost (model X.prog X.w) X.A X.xe use Qf (.ref D0) s3.heap.objs.size) s4 := by
    refine compLoop_anyD (fun n s' => ∃ i H', Inv (X.blk s3 H3 scope ce fp) [] (wipe σ (own.map (·.2))) H' s' ∧ tn i s'.heap ∧ (∀ b ∈ fp, H' b = none) ∧ W i n H') (fun n s5 ⟨i, H5, I5, st5, n5, w5⟩ => ?_) m0 ⟨0, H3, I4, st4, fun b hb => (f3 b hb).1.1, w0⟩
    rcases turn i n H5 w5 with ⟨stop, qq⟩ | ⟨go, Nx, hNx, step⟩
    · refine thnF (T.done (X.blk s3 H3 scope ce fp) rfl rfl rfl hc i [] s5 _ H5 (fun _ _ => False) I5 (stat I5 n5) st5 stop) fun r s6 ⟨hr, I6⟩ => ?_
      subst hr
      have I7 : Inv X pins σ H5 s6 := I3.call' (ch := fp) I6.os I6.base I6.hok I6.bare fun b hb => let z := (f3 b hb).1.2; ⟨z.2.2.1, z.1, z.2.2.2.1, z.2.2.2.2⟩
      have z : H5 ce.locals = none := I6.free
      obtain ⟨m, hn, _⟩ := I6.loc
      have hn : s6.heap.Ns ce.locals m := hn
      rw [cL] at hn z
      exact hRR D0 s3.heap.objs.size s6 m H5 I7 qq hn (I3.fpOk (Nat.le_refl _) z)
    · refine thnF (T.item (X.blk s3 H3 scope ce fp) rfl rfl rfl hc i [] s5 _ H5 (fun _ _ => False) I5 (stat I5 n5) st5 go) fun r s6 ⟨u, hr, h6⟩ => ?_
      subst hr
      refine thnF h6 fun _ s7 ⟨x, H7, I7, r7, y7, st7, n7⟩ => thnF (pg.run _ s7 _ H7 x u _ (I7.pinned (stat I7 n7) (T.obj _ _ st7)) r7 (step x H7 y7)) fun _ s8 ⟨σ8, H8, I8, hw8, q8⟩ => thnF (pt.run _ s8 σ8 H8 _ I8 q8) fun b s9 ⟨H9, I9, q9⟩ => ?_
      have fin : ∀ {s' : Shared} {H' : Hp}, Inv (X.blk s3 H3 scope ce fp) ([] ++ pinsAt fp s7.heap) σ8 H' s' → Nx H' → ∃ m, m < n ∧ ∃ i H', Inv (X.blk s3 H3 scope ce fp) [] (wipe σ (own.map (·.2))) H' s' ∧ tn i s'.heap ∧ (∀ b ∈ fp, H' b = none) ∧ W i m H' := fun {s' H'} I' nx => by
        obtain ⟨m', hm, w'⟩ := hNx H' nx
        have pin' : ∀ b ∈ fp, ∀ o, s7.heap.get? b = some o → s'.heap.get? b = some o ∧ H' b = none := fun b hb o e => let z := I'.pin (b, o) (List.mem_append_right _ (List.mem_append_right _ (mem_pinsAt hb e))); ⟨z.1, z.2.1⟩
        refine ⟨m', hm, i + 1, H', (I'.unpinned (pins := [])).weak (by rw [← hw8, wipe_length]) (fun j v e => ?_), T.keep _ _ _ st7 fun b hb o e => (pin' b hb o e).1, fun b hb => ?_, w'⟩
        · rw [← hw8] at e
          exact (wipe_some e).1
        · obtain ⟨o, e, _⟩ := T.obj _ _ st7 b hb
          exact (pin' b hb o e).2
      cases b with
      | false =>
        rw [if_neg Bool.false_ne_true] at q9 ⊢
        exact fin I9 q9
      | true =>
        rw [if_pos rfl] at q9 ⊢
        exact thnF (pk.run _ s9 σ8 H9 _ I9 q9) fun z s10 ⟨yk, H10, I10, r10, q10⟩ => thnF (pe.run _ s10 σ8 H10 _ I10 q10) fun z2 s11 ⟨yv, H11, I11, r11, nx⟩ => dset_any (X := X.blk s3 H3 scope ce fp) hu I11 r10 r11 nx fun s12 H12 I12 nx' => fin I12 nx'
  exact codeAny_compStart_dict loop (T.self X.A 0 _ _ _ st4 loop)
theorem pe_dg {kx vx tg iter : Expr} {ifs : List Expr} {scope : Scope} {own : List (Str × Nat)} {pos : Pos} {wi : TI} {g : TG} {tt : TT} {tk tv : TE} (hu : X.A.units + 9 < cLine) (hc : X.calm = true) (hN : X.N.Nodup) (hi : PI X tg iter wi) (ok : BlkOk X.N X.env.scope scope own)
    (hg : ∀ s H C cl fp, PG (Bk X scope s H C cl fp) tg g) (ht : ∀ s H C cl fp, PTs (Bk X scope s H C cl fp) ifs tt) (hk : ∀ s H C cl fp, PE (Bk X scope s H C cl fp) kx tk) (he : ∀ s H C cl fp, PE (Bk X scope s H C cl fp) vx tv) (hs : ∀ x, foldedSetIterable iter X.env x = pure x := by intro _; rfl) :
    PE X (.DictComp kx vx [⟨tg, iter, ifs, 0⟩] scope pos) (tDg X.K wi g tt tk tv (own.map (·.2))) := by
  refine ⟨fun pins s σ H Q I h => ?_⟩
  rw [arm_eval_DictComp]
  refine dg_core hu hc hN I hi ok hg ht hk he hs h fun L C s' m H' I' q hn f => ⟨m, hn, fun h'' sb => ?_⟩
  obtain ⟨g0, g1, g2, g3, g4, g5⟩ := f
  exact ⟨.ref L, H', I'.turned (t' := s'.toks) (fun b o hb e => (sb.2 b hb).trans e) g0 g1 g3 g4 g5, rfl, q⟩
theorem ps_setDg {i : Nat} {y : Str} {py : Pos} {kx vx tg iter : Expr} {ifs : List Expr} {scope : Scope} {own : List (Str × Nat)} {pos spos : Pos} {wi : TI} {g : TG} {tt : TT} {tk tv : TE} (hu : X.A.units + 9 < cLine) (hc : X.calm = true) (hN : X.N.Nodup) (hy : X.N[i]? = some y) (hyl : X.env.scope.names.lookup y = some .local) (hsw : swapsWith (.DictComp kx vx [⟨tg, iter, ifs, 0⟩] scope pos) (some (.Name y py)) spos.line X.env = pure true) (hi : PI X tg iter wi) (ok : BlkOk X.N X.env.scope scope own)
    (hg : ∀ s H C cl fp, PG (Bk X scope s H C cl fp) tg g) (ht : ∀ s H C cl fp, PTs (Bk X scope s H C cl fp) ifs tt) (hk : ∀ s H C cl fp, PE (Bk X scope s H C cl fp) kx tk) (he : ∀ s H C cl fp, PE (Bk X scope s H C cl fp) vx tv) (hs : ∀ x, foldedSetIterable iter X.env x = pure x := by intro _; rfl) :
    PS X (.Assign [.Name y py] (.DictComp kx vx [⟨tg, iter, ifs, 0⟩] scope pos) spos) (tAsg (tDg X.K wi g tt tk tv (own.map (·.2))) (gName i)) := by
  refine ⟨fun pins s σ H D I h => ?_⟩
  rw [exec_Assign_Name_used _ _ _ _ hsw]
  refine wpAny_bind (wpAny_standAt (wpAny_bind ?_))
  show wpAny _ X.A (do let _ ← comprehension (.DictComp kx vx [⟨tg, iter, ifs, 0⟩] scope pos) scope X.env (firstIterPos [⟨tg, iter, ifs, 0⟩] pos) newDict false (eval iter X.env) (some (assign (.Name y py) X.env))) _ _ s
  have h : tDg X.K wi g tt tk tv (own.map (·.2)) σ H (fun x H1 => gName i x σ H1 D.nx) := h
  refine wpAny_bind (thn (dg_core (Qf := fun _ s' => SP X pins D .next s') hu hc hN I hi ok hg ht hk he hs h fun L C s' m H' I' q hn f => ?_) fun _ s' hq => wpAny_pure (wpAny_pure hq))
  obtain ⟨g0, g1, g2, g3, g4, g5⟩ := f
  refine wpAny_assign_Name (store_ok2 (v := V.ref L) I' hN hy (.inl hyl) rfl (fun s2 I2 ⟨a, sb, ha⟩ => ⟨m, hn.sameBut sb (ha.elim (fun z => by rw [z]; exact g1) fun z e => g4 y a z e.symm), fun h3 sb3 => ⟨_, H', I2.turned (t' := s2.toks) (fun b o hb e => (sb3.2 b hb).trans e) g0 g1 g3 g4 g5, q⟩⟩) (.inr hyl))
theorem sw_trueD {kx vx : Expr} {gs : List Comprehension} {scope : Scope} {pos py : Pos} {y : Str} {l : Nat} {env : Env} (hk : env.scope.kind = .function) (hy : env.scope.names.lookup y = some .local) (hl : (py.line == pos.line) = true)
    (ha : (scope.names.any fun (n, k) => n == y && (k == .local || k == .cell)) = false) : swapsWith (.DictComp kx vx gs scope pos) (some (.Name y py)) l env = pure true := by
  have ky : env.kindOf y = some .local := hy
  have hb : env.blockKind = .function := by unfold Env.blockKind; rw [hk]; rfl
  unfold swapsWith
  simp only [hb, ky, ha, Expr.pos, hl]
  rfl
end
theorem own_dicAt {K : PySem.W.Frag} {T : Tk} {B : Addr → Prop} {H : Hp} {a : Addr} {ds : List (D × D)} (o : Own K T B H a (.dict ds)) : DicAt K T B H a ds := by
  cases o with
  | dct e r => exact .inl ⟨_, _, e, r⟩
  | dck c e r => exact .inr ⟨_, c, e, r⟩
section
variable {m : Type → Type} [PM m]
def turnK (pt : Pt) (c : List D → m Bool) (k v : List D → m D) (p : D) : m (Option (D × D)) := PM.lift (pt.flat p) >>= fun l => c l >>= fun b => if b = true then k l >>= fun y => v l >>= fun z => pure (some (y, z)) else pure none
def dStep (ds : List (D × D)) (p : D × D) : Option (List (D × D)) := if kOk ds p.1 && decide (ds.length < sizeLine) then some (dPutL ds p.1 p.2) else none
def dcmpD (f : D → m (Option (D × D))) : List D → List (D × D) → m (List (D × D))
  | [], acc => pure acc
  | x :: xs, acc => f x >>= fun o => match o with
    | none => dcmpD f xs acc
    | some yz => PM.lift (dStep acc yz) >>= fun acc' => dcmpD f xs acc'
def compDM (it : m (List D)) (pt : Pt) (c : List D → m Bool) (k v : List D → m D) : m D := it >>= fun ps => PM.lift (sizeL ps) >>= fun ps => dcmpD (turnK pt c k v) ps [] >>= fun ds => pure (.dict ds)
theorem run_turnK {pt : Pt} {c : List D → m Bool} {k v : List D → m D} {p : D} {K : Option (D × D) → Prop} (h : PM.run (turnK pt c k v p) K) : ∃ l, pt.flat p = some l ∧ PM.run (c l) fun b => PM.run (if b = true then k l >>= fun y => v l >>= fun z => pure (some (y, z)) else pure none) K := by
  unfold turnK at h
  rw [PM.run_bind, PM.run_lift] at h
  obtain ⟨l, e, h⟩ := h
  rw [PM.run_bind] at h
  exact ⟨l, e, h⟩
structure MkD (K : PySem.W.Frag) (T : Tk) (A : Addr → Prop) (H1 : Hp) (L : Addr) (n : Nat) (Q : VK) (rest : Nat → List (D × D) → m (List (D × D))) (i k : Nat) (H : Hp) : Prop where
  hk : k = n - i
  hi : i ≤ n
  wd : Wd T (fun a => A a ∨ a = L) H
  st : Step T H1 H
  dn : ∃ acc, Own K T (fun a => A a ∨ a = L) H L (.dict acc) ∧ PM.run (rest i acc) fun ds => ∀ v H', PostN K T A H1 H' (.dict ds) v → Q (.ref v) H'
theorem mkD_set {X : Cx} {T : Tk} {A : Addr → Prop} {H1 H4 : Hp} {L : Addr} {n : Nat} {Q : VK} {rest : Nat → List (D × D) → m (List (D × D))} {i : Nat} {y z : V} {yk zd : D} {acc acc' : List (D × D)} (w1 : Wd T A H1) (nL : H1 L = none) (hi : i < n)
    (w4 : Wd T (fun a => A a ∨ a = L) H4) (s4 : Step T H1 H4) (o4 : Own X.K T (fun a => A a ∨ a = L) H4 L (.dict acc)) (ry : Rep X.K T (fun a => A a ∨ a = L) H4 y yk) (rz : Rep X.K T (fun a => A a ∨ a = L) H4 z zd) (ed : dStep acc (yk, zd) = some acc')
    (q : PM.run (rest (i + 1) acc') fun ds => ∀ v H', PostN X.K T A H1 H' (.dict ds) v → Q (.ref v) H') : rSetD X.K (.ref L) y z H4 fun H' => MkD (m := m) X.K T A H1 L n Q rest (i + 1) (n - (i + 1)) H' := by
  obtain ⟨hc, ed⟩ := ifs ed
  subst ed
  rw [Bool.and_eq_true, decide_eq_true_eq] at hc
  have nS : ¬ T.S L := fun z => w1.new nL (w1.sub _ z)
  have fin : ∀ u : HO, Mut (some u) → Own X.K T (fun a => A a ∨ a = L) (upd H4 L u) L (.dict (dPutL acc yk zd)) → MkD (m := m) X.K T A H1 L n Q rest (i + 1) (n - (i + 1)) (upd H4 L u) := fun u mu ow => by
    have keep : ∀ a, T.S a → upd H4 L u a = H4 a := fun a z => upd_ne fun e => nS (e ▸ z)
    refine ⟨rfl, hi, ⟨T.keep w4.ok keep, fun a z => .inl (w1.sub a z), fun a z => ?_⟩, fun a o e z => by rw [upd_ne (ne_of_none e nL)]; exact s4 a o e z, _, ow, q⟩
    by_cases h : a = L
    · rw [h, upd_same]; exact mu
    · rw [upd_ne h]; exact w4.mu a z
  have st : ∀ u : HO, StA (fun a => A a ∨ a = L) H4 (upd H4 L u) := fun u a o e z => by rw [upd_ne fun q => z (.inr q)]; exact e
  refine ⟨T, _, L, acc, yk, rfl, ⟨own_dicAt o4, ry, hc.1⟩, hc.2, fun xs k b o eb hk rd => ?_, fun kvs k hk rd => ?_⟩
  · subst eb
    exact fin _ trivial (.dct upd_same ((repD_put rd hk ry rz).stA w4.mun (st _)))
  · exact fin _ trivial (.dck (dPutL_ne _ _ _) upd_same ((repK_put rd hk rz).stA w4.mun (st _)))
theorem tDg_read {X : Cx} {ρ : Rh} {own : List (Str × Nat)} {pt : Pt} {it : m (List D)} {c : List D → m Bool} {kx vx : List D → m D} {σ : L2.St} {H : Hp} {Q : VK} (hsub : ∀ i ∈ pt.slots, i ∈ own.map (·.2))
    (h : tN X.K ρ (compDM it pt c kx vx) σ H Q) :
    tDg X.K (tI X.K ρ it) (tG X.K pt) (tP' X.K pt.slots.length (fun l => rPuts (rCut ρ (own.map (·.2))) pt.slots l) c) (tE' X.K pt.slots.length (fun l => rPuts (rCut ρ (own.map (·.2))) pt.slots l) kx) (tE' X.K pt.slots.length (fun l => rPuts (rCut ρ (own.map (·.2))) pt.slots l) vx) (own.map (·.2)) σ H Q := by
  obtain ⟨T, A, w, ev, h⟩ := h
  unfold compDM at h
  rw [PM.run_bind] at h
  refine ⟨T, A, w, ev, PM.mono (fun ps h J H1 s1 o1 hJ L ob nL => ?_) h⟩
  rw [PM.run_bind, PM.run_lift] at h
  obtain ⟨ps', e, h⟩ := h
  obtain ⟨hz, e⟩ := ifs e
  subst e
  rw [PM.run_bind] at h
  have w1 := w.step s1 o1
  have ev1 := ev.step w s1
  have hB : ∀ a, A a ∨ a = L → A a ∨ H1 a = none := fun a q => q.elim .inl fun e => .inr (e ▸ nL)
  have evB := ev1.ext hB
  have nS : ¬ T.S L := fun z => w1.new nL (w1.sub _ z)
  let R : Nat → List (D × D) → m (List (D × D)) := fun i acc => dcmpD (turnK pt c kx vx) (ps.drop i) acc
  refine ⟨MkD (m := m) X.K T A H1 L ps.length Q R, ⟨ps.length, by simp, Nat.zero_le _, ⟨(w1.laid nL).ok, fun a z => .inl (w1.sub a z), fun a z => ?_⟩, step_new nL, [], .dct upd_same .nil, ?_⟩, fun i k H2 M => ?_⟩
  · by_cases hq : a = L
    · subst hq; rw [upd_same]; trivial
    · rw [upd_ne hq]; exact w1.mu a (z.resolve_right hq)
  · show PM.run (dcmpD (turnK pt c kx vx) (ps.drop 0) []) _
    rw [List.drop_zero]
    refine PM.mono (fun ds q v H' o => ?_) h
    rw [PM.run_pure] at q
    exact q v H' (o.after s1 (step_none s1 o1 o.nw))
  · have hI := hJ _ hB i H2 M.wd ((M.st.stA w1.sub).weak fun _ => .inl)
    obtain ⟨acc, ow, q⟩ := M.dn
    by_cases hlt : i < ps.length
    · obtain ⟨p, ep, ed⟩ := drop_get hlt
      obtain ⟨hgo, hy⟩ := hI.1 p ep
      refine .inr ⟨hgo, fun H' => MkD (m := m) X.K T A H1 L ps.length Q R (i + 1) (ps.length - (i + 1)) H', fun H' M' => ⟨_, by have := M.hk; omega, M'⟩, fun xv H3 yv => ?_⟩
      obtain ⟨keep3, ok3, rp3⟩ := hy xv H3 yv
      have s23 : Step T H2 H3 := fun a o e _ => keep3 a o e
      have w3 := M.wd.step s23 ok3
      have st13 : Step T H1 H3 := M.st.trans s23
      have ev3 : Ev X.K T (fun a => A a ∨ a = L) ρ σ H3 := evB.stA (munB w1 hB) (st13.stA (fun a z => .inl (w1.sub a z)))
      have ow3 : Own X.K T (fun a => A a ∨ a = L) H3 L (.dict acc) := ow.stA M.wd.mun (s23.stA M.wd.sub) (by
        have m2 := M.wd.mu L (.inr rfl)
        cases e : H2 L with
        | none => rw [e] at m2; exact m2.elim
        | some o => exact keep3 L o e)
      change PM.run (dcmpD (turnK pt c kx vx) (ps.drop i) acc) _ at q
      rw [ed] at q
      change PM.run (turnK pt c kx vx p >>= fun o => match o with | none => dcmpD (turnK pt c kx vx) (ps.drop (i + 1)) acc | some yz => PM.lift (dStep acc yz) >>= fun acc' => dcmpD (turnK pt c kx vx) (ps.drop (i + 1)) acc') _ at q
      rw [PM.run_bind] at q
      obtain ⟨l, el, q⟩ := run_turnK q
      refine ⟨T, _, p, l, w3, rp3, el, fun us hus => ⟨(sPut_wipe _ _ _ _ hsub).trans (wipe_wipe σ _), ?_⟩⟩
      have ev4 := (ev3.cut (own.map (·.2))).puts (is := pt.slots) hus
      have st : ∀ {Ha Hb : Hp}, Wd T (fun a => A a ∨ a = L) Ha → Step T Ha Hb → Own X.K T (fun a => A a ∨ a = L) Ha L (.dict acc) → Own X.K T (fun a => A a ∨ a = L) Hb L (.dict acc) := fun {Ha Hb} wa sa oa => oa.stA wa.mun (sa.stA wa.sub) (by
        have m2 := wa.mu L (.inr rfl)
        cases e : Ha L with
        | none => rw [e] at m2; exact m2.elim
        | some o => exact sa L o e nS)
      refine ⟨l, flat_len _ _ _ el, T, _, w3, ev4, PM.mono (fun bb q H4 s4 o4 => ?_) q⟩
      have w4 := w3.step s4 o4
      cases bb with
      | true =>
        rw [if_pos rfl] at q
        rw [PM.run_bind] at q
        dsimp only
        rw [if_pos rfl]
        refine ⟨l, flat_len _ _ _ el, T, _, w4, ev4.step w3 s4, PM.mono (fun yk q yv2 H5 o5 => ?_) q⟩
        rw [PM.run_bind] at q
        have w5 := o5.wd w4
        refine ⟨l, flat_len _ _ _ el, T, _, w5, (ev4.step w3 s4).step w4 o5.st, PM.mono (fun zd q zv H6 o6 => ?_) q⟩
        rw [PM.run_pure] at q
        dsimp only at q
        rw [PM.run_bind, PM.run_lift] at q
        obtain ⟨acc', ea, q⟩ := q
        exact mkD_set w1 nL hlt (o6.wd w5) (st13.trans (s4.trans (o5.st.trans o6.st))) (st w5 o6.st (st w4 o5.st (st w3 s4 ow3))) (o5.rp.step w5 o6.st) o6.rp ea q
      | false =>
        rw [if_neg Bool.false_ne_true] at q
        dsimp only
        rw [if_neg Bool.false_ne_true]
        rw [PM.run_pure] at q
        exact ⟨rfl, hlt, w4, st13.trans s4, acc, st w3 s4 ow3, q⟩
    · have e0 : i = ps.length := Nat.le_antisymm M.hi (Nat.le_of_not_lt hlt)
      refine .inl ⟨hI.2 (Nat.le_of_not_lt hlt), ?_⟩
      have q : PM.run (dcmpD (turnK pt c kx vx) (ps.drop i) acc) _ := q
      rw [e0, List.drop_length] at q
      have q := (PM.run_pure acc _).mp q
      exact q _ _ ⟨M.st, M.wd.ok, nL, ow⟩
/-- {k: v for t in it if ..} -/
theorem VN.dcomp {X : Cx} {ρ : Rh} {tg kx vx iter : Expr} {ifs : List Expr} {scope : Scope} {own : List (Str × Nat)} {pt : Pt} {it : m (List D)} {c : List D → m Bool} {xk xv : List D → m D} {pos : Pos} (hu : X.A.units + 64 < cLine) (hN : X.N.Nodup) (hi : VI X ρ tg iter it) (ok : blkC X.N X.env.scope scope own = true)
    (hg : ∀ s H C cl fp, VG (Bk X scope s H C cl fp) tg pt) (ht : ∀ s H C cl fp l, l.length = pt.slots.length → VT_ (Bk X scope s H C cl fp) (rPuts (rCut ρ (own.map (·.2))) pt.slots l) ifs (c l))
    (hk : ∀ s H C cl fp l, l.length = pt.slots.length → VE (Bk X scope s H C cl fp) (rPuts (rCut ρ (own.map (·.2))) pt.slots l) kx (xk l)) (he : ∀ s H C cl fp l, l.length = pt.slots.length → VE (Bk X scope s H C cl fp) (rPuts (rCut ρ (own.map (·.2))) pt.slots l) vx (xv l))
    (hsub : ∀ i ∈ pt.slots, i ∈ own.map (·.2) := by decide) (hc : X.calm = true := by rfl) (hs : ∀ x, foldedSetIterable iter X.env x = pure x := by intro _; rfl) :
    VN X ρ (.DictComp kx vx [⟨tg, iter, ifs, 0⟩] scope pos) (compDM it pt c xk xv) :=
  imE (pe_dg (by omega) hc hN hi (blkOk_by ok) (fun s H C cl fp => hg s H C cl fp) (fun s H C cl fp => pts_ex (ht s H C cl fp)) (fun s H C cl fp => pe_ex (hk s H C cl fp)) (fun s H C cl fp => pe_ex (he s H C cl fp)) hs) fun σ H Q h => tDg_read hsub h
theorem SC.d1 {X : Cx} {ρ : Rh} {tg kx vx iter : Expr} {ifs : List Expr} {scope : Scope} {own : List (Str × Nat)} {pt : Pt} {it : m (List D)} {c : List D → m Bool} {xk xv : List D → m D} {pos py spos : Pos} {i : Nat} {y : Str} (hu : X.A.units + 64 < cLine) (hN : X.N.Nodup) (hi : VI X ρ tg iter it) (ok : blkC X.N X.env.scope scope own = true)
    (hg : ∀ s H C cl fp, VG (Bk X scope s H C cl fp) tg pt) (ht : ∀ s H C cl fp l, l.length = pt.slots.length → VT_ (Bk X scope s H C cl fp) (rPuts (rCut ρ (own.map (·.2))) pt.slots l) ifs (c l))
    (hk : ∀ s H C cl fp l, l.length = pt.slots.length → VE (Bk X scope s H C cl fp) (rPuts (rCut ρ (own.map (·.2))) pt.slots l) kx (xk l)) (he : ∀ s H C cl fp l, l.length = pt.slots.length → VE (Bk X scope s H C cl fp) (rPuts (rCut ρ (own.map (·.2))) pt.slots l) vx (xv l))
    (hy : X.N[i]? = some y := by rfl) (hyl : X.env.scope.names.lookup y = some .local := by rfl) (hsw : swapsWith (.DictComp kx vx [⟨tg, iter, ifs, 0⟩] scope pos) (some (.Name y py)) spos.line X.env = pure true := by exact sw_trueD rfl rfl rfl (by decide +kernel))
    (hsub : ∀ i ∈ pt.slots, i ∈ own.map (·.2) := by decide) (hc : X.calm = true := by rfl) (hs : ∀ x, foldedSetIterable iter X.env x = pure x := by intro _; rfl) :
    SC X ρ i (.Assign [.Name y py] (.DictComp kx vx [⟨tg, iter, ifs, 0⟩] scope pos) spos) (compDM it pt c xk xv) :=
  imS (ps_setDg (by omega) hc hN hy hyl hsw hi (blkOk_by ok) (fun s H C cl fp => hg s H C cl fp) (fun s H C cl fp => pts_ex (ht s H C cl fp)) (fun s H C cl fp => pe_ex (hk s H C cl fp)) (fun s H C cl fp => pe_ex (he s H C cl fp)) hs) fun D σ H h => tDg_read hsub h
end
end Qv

namespace Qv
open PySem PySem.Spec PyProof.Rows L2
/-! ## {k: v, ..} with keys of any kind -/
def StAll (K : PySem.W.Frag) (p : Addr) : List (V × V) → Hp → (Hp → Prop) → Prop
  | [], H, Q => Q H
  | (y, z) :: r, H, Q => rSetD K (.ref p) y z H fun H' => StAll K p r H' Q
section
variable {X : Cx}
theorem store_all {pins : List (Addr × Obj)} {σ : L2.St} {E : Value → Shared → Prop} {p : Addr} {R : Hp → Prop} (hu : X.A.units + 9 < cLine) : ∀ {ps : List (V × V)} {vs : List (Value × Value)} {H : Hp} {s : Shared} {Q : PUnit → Shared → Prop}, Inv X pins σ H s → VV ps vs → StAll X.K p ps H R → (∀ s' H', Inv X pins σ H' s' → R H' → Q PUnit.unit s') →
    wpAny (model X.prog X.w) X.A (forIn vs PUnit.unit fun (x : Value × Value) (_ : PUnit) => (do dictSet p x.1 x.2; pure (ForInStep.yield PUnit.unit) : Sem (ForInStep PUnit))) Q E s
  | [], _, H, s, Q, I, .nil, h, k => by
    rw [List.forIn_nil]
    exact wpAny_pure (k s H I h)
  | (y, z) :: ps, _, H, s, Q, I, .cons (b := b) (l₂ := vs) r t, h, k => by
    rw [List.forIn_cons]
    exact wpAny_bind (wpAny_bind (dset_any hu I r.1 r.2 h fun s' H' I' h' => wpAny_pure (store_all hu I' t h' k)))
def tDispG (K : PySem.W.Frag) (trs : List (TE × TE)) : TE := fun σ H Q => ∀ p o, H p = none → tPairs trs σ (upd H p (DN p [] o)) fun ps H2 => StAll K p ps H2 fun H' => Q (.ref p) H'
theorem pe_dispG {pos : Pos} {keys : List (Option Expr)} {values : List Expr} {trs : List (TE × TE)} (hu : X.A.units + 9 < cLine) (h : PPs X pos keys values trs) (hall : keys.all (·.isSome) = true) (hl : keys.length = values.length) (h0 : keys ≠ []) (h15 : keys.length ≤ 15) : PE X (.Dict keys values pos) (tDispG X.K trs) := by
  refine ⟨fun pins s σ H Q I q => ?_⟩
  obtain ⟨o0, ok0⟩ := dn_mk (P := X.prog) (w := X.w) (xs := []) (us := []) (beq_eq_false_iff_ne.mpr (Ne.symm (Nat.ne_of_lt I.big))) (Nat.zero_le _) (fun _ h => by cases h) .nil (Heap.DictOfH.new s.heap)
  have I1 := I.laid (a := s.heap.objs.size) (o := DN s.heap.objs.size [] o0) (t' := s.toks) (fun _ _ q => Heap.get?_push_of_some _ q) (Nat.le_refl _) (ok0 _)
  have hn := pairTrees_length keys values X.env pos hall hl
  have hne : pairTrees keys values X.env pos ≠ [] := fun he => h0 (List.length_eq_zero_iff.mp (by rw [he] at hn; exact hn.symm))
  rw [arm_eval_Dict, zip_pairTrees keys values X.env pos hall hl, dictDisplay_pairs _ hne (by omega)]
  refine wpAny_bind (wpAny_standAt (wpAny_bind ?_))
  unfold subDict
  refine wpAny_bind (wpAny_alloc (wpAny_bind (wpAny_holding ?_)))
  rw [if_pos (by omega)]
  refine wpAny_bind (wpAny_mono (h.run pins _ σ _ _ I1 (q _ o0 (I.hok.fresh (Nat.le_refl _)))) (fun vs s1 ⟨ps, H2, I2, rel, q2⟩ => wpAny_holding ?_) fun _ _ e => e)
  exact wpAny_bind (store_all hu I2 rel q2 fun s' H' I' q' => wpAny_pure (wpAny_pure (wpAny_pure ⟨.ref s.heap.objs.size, H', I', rfl, q'⟩)))
end
section
variable {m : Type → Type} [PM m] {X : Cx} {ρ : Rh} {pos : Pos}
structure VDP (X : Cx) (ρ : Rh) (pos : Pos) (keys : List (Option Expr)) (vals : List Expr) (xs : m (List (D × D))) : Prop where
  ex : ∃ trs, PPs X pos keys vals trs ∧ ∀ (σ : L2.St) (H : Hp) (R : List (V × V) → Hp → Prop), (∃ T A, Wd T A H ∧ Ev X.K T A ρ σ H ∧ PM.run xs fun ds => ∀ vs H', Step T H H' → T.ok H' → Reps X.K T A H' (vs.map (·.1)) (ds.map (·.1)) → Reps X.K T A H' (vs.map (·.2)) (ds.map (·.2)) → R vs H') → tPairs trs σ H R
  ln : keys.length = vals.length ∧ keys.all (·.isSome) = true
theorem VDP.nil : VDP (m := m) X ρ pos [] [] (pure []) := ⟨⟨[], pps_nil, fun σ H R ⟨T, A, w, ev, h⟩ => by
  rw [PM.run_pure] at h
  exact h [] H .refl w.ok .nil .nil⟩, rfl, rfl⟩
theorem VDP.cons {k v : Expr} {keys : List (Option Expr)} {vals : List Expr} {xk xv : m D} {xs : m (List (D × D))} (hk : VE X ρ k xk) (hv : VE X ρ v xv) (hr : VDP X ρ pos keys vals xs) : VDP X ρ pos (some k :: keys) (v :: vals) (xk >>= fun a => xv >>= fun b => xs >>= fun l => pure ((a, b) :: l)) := by
  obtain ⟨⟨trs, h1, h2⟩, l1, l3⟩ := hr
  refine ⟨⟨_, pps_cons hk hv h1, fun σ H R ⟨T, A, w, ev, h⟩ => ?_⟩, by rw [List.length_cons, List.length_cons, l1], by rw [List.all_cons, l3]; rfl⟩
  show tE X.K ρ xk σ H fun x H1 => tE X.K ρ xv σ H1 _
  rw [PM.run_bind] at h
  refine ⟨T, A, w, ev, PM.mono (fun a h u H1 o1 => ?_) h⟩
  rw [PM.run_bind] at h
  have w1 := o1.wd w
  have ev1 := ev.step w o1.st
  refine ⟨T, A, w1, ev1, PM.mono (fun b h z H2 o2 => ?_) h⟩
  rw [PM.run_bind] at h
  have w2 := o2.wd w1
  refine h2 _ _ _ ⟨T, A, w2, ev1.step w1 o2.st, PM.mono (fun ds h vs H3 s3 o3 r1 r2 => ?_) h⟩
  rw [PM.run_pure] at h
  exact h ((u, z) :: vs) H3 (o1.st.trans (o2.st.trans s3)) o3 (.cons ((o1.rp.step w1 o2.st).step w2 s3) r1) (.cons (o2.rp.step w2 s3) r2)
def dPuts : List (D × D) → List (D × D) → Option (List (D × D))
  | [], acc => some acc
  | p :: ps, acc => (dStep acc p).bind fun acc' => dPuts ps acc'
theorem VN.disp {keys : List (Option Expr)} {vals : List Expr} {xs : m (List (D × D))} (hu : X.A.units + 64 < cLine) (h : VDP X ρ pos keys vals xs) (h0 : keys ≠ []) (h15 : keys.length ≤ 15) : VN X ρ (.Dict keys vals pos) (xs >>= fun l => PM.lift (dPuts l []) >>= fun ds => pure (.dict ds)) := by
  obtain ⟨⟨trs, h1, h2⟩, l1, l3⟩ := h
  refine imE (pe_dispG (by omega) h1 l3 l1 h0 h15) fun σ H Q ⟨T, A, w, ev, q⟩ p o hp => ?_
  let B : Addr → Prop := fun a => A a ∨ a = p
  have w1 : Wd T B (upd H p (DN p [] o)) := ⟨(w.laid hp).ok, fun a z => .inl (w.sub a z), fun a z => by
    by_cases hq : a = p
    · rw [hq, upd_same]; trivial
    · rw [upd_ne hq]; exact w.mu a (z.resolve_right hq)⟩
  have s1 : Step T H (upd H p (DN p [] o)) := step_new hp
  have ev1 : Ev X.K T B ρ σ (upd H p (DN p [] o)) := (ev.ext fun a q => q.elim .inl fun e => .inr (e ▸ hp)).stA (fun a q => q.elim (fun z => .inr (w.mu a z)) fun z => .inl (z ▸ hp)) (s1.stA fun a z => .inl (w.sub a z))
  have nS : ¬ T.S p := fun z => w.new hp (w.sub p z)
  rw [PM.run_bind] at q
  refine h2 _ _ _ ⟨T, B, w1, ev1, PM.mono (fun ds q vs H2 s2 o2 r1 r2 => ?_) q⟩
  rw [PM.run_bind, PM.run_lift] at q
  obtain ⟨res, er, q⟩ := q
  rw [PM.run_pure] at q
  have w2 := w1.step s2 o2
  have go : ∀ (ds : List (D × D)) (vs : List (V × V)) (acc : List (D × D)) (H3 : Hp), Wd T B H3 → Step T H H3 → Own X.K T B H3 p (.dict acc) → Reps X.K T B H3 (vs.map (·.1)) (ds.map (·.1)) → Reps X.K T B H3 (vs.map (·.2)) (ds.map (·.2)) → dPuts ds acc = some res → StAll X.K p vs H3 fun H' => Q (.ref p) H' := by
    intro ds
    induction ds with
    | nil =>
      intro vs acc H3 w3 s3 ow r1 r2 e
      cases vs with
      | nil => cases e; exact q _ _ ⟨s3, w3.ok, hp, ow⟩
      | cons a b => cases r1
    | cons d ds ih =>
      intro vs acc H3 w3 s3 ow r1 r2 e
      cases vs with
      | nil => cases r1
      | cons v vs =>
        cases r1 with
        | cons a1 b1 =>
          cases r2 with
          | cons a2 b2 =>
            obtain ⟨acc', e1, e2⟩ := Option.bind_eq_some_iff.mp e
            obtain ⟨hc, e1⟩ := ifs e1
            subst e1
            rw [Bool.and_eq_true, decide_eq_true_eq] at hc
            have fin : ∀ u : HO, Mut (some u) → Own X.K T B (upd H3 p u) p (.dict (dPutL acc d.1 d.2)) → StAll X.K p vs (upd H3 p u) fun H' => Q (.ref p) H' := fun u mu ow' => by
              have st : StA B H3 (upd H3 p u) := fun a o e z => by rw [upd_ne fun q => z (.inr q)]; exact e
              refine ih vs _ _ ⟨T.keep w3.ok fun a z => upd_ne fun e => nS (e ▸ z), w3.sub, fun a z => ?_⟩ (fun a o e z => by rw [upd_ne (ne_of_none e hp)]; exact s3 a o e z) ow' (b1.stA w3.mun st) (b2.stA w3.mun st) e2
              by_cases h : a = p
              · rw [h, upd_same]; exact mu
              · rw [upd_ne h]; exact w3.mu a z
            have st : ∀ u : HO, StA B H3 (upd H3 p u) := fun u a o e z => by rw [upd_ne fun q => z (.inr q)]; exact e
            refine ⟨T, B, p, acc, d.1, rfl, ⟨own_dicAt ow, a1, hc.1⟩, hc.2, fun xs k b o eb hk rd => ?_, fun kvs k hk rd => ?_⟩
            · have a1 : Rep X.K T B H3 (.ref b) d.1 := (show v.1 = .ref b from eb) ▸ a1
              exact fin _ trivial (.dct upd_same ((repD_put rd hk a1 a2).stA w3.mun (st _)))
            · exact fin _ trivial (.dck (dPutL_ne _ _ _) upd_same ((repK_put rd hk a2).stA w3.mun (st _)))
  exact go ds vs [] H2 w2 (s1.trans s2) (.dct (s2 p _ upd_same nS) .nil) r1 r2 er
end
end Qv

namespace Qv
open PySem PySem.Spec PyProof.Rows L2
/-! ## sorted(d), list(d), len(d), list(d.values()) -/
section
variable {X : Cx} {pins : List (Addr × Obj)} {σ : L2.St} {H : Hp} {s : Shared} {T : Tk} {A : Addr → Prop} {a : Addr} {ds : List (D × D)}
theorem repD_at {K : PySem.W.Frag} : ∀ {xs : List En} {ds : List (D × D)} {i : Nat} {p : D × D}, RepD K T A H xs ds → ds[i]? = some p → ∃ x, xs[i]? = some x ∧ Rep K T A H (.ref x.2.1) p.1 ∧ Rep K T A H x.2.2 p.2
  | _, _, _, _, .nil, h => by simp at h
  | _, _, 0, _, .cons _ h1 h2 _, h => by simp at h; subst h; exact ⟨_, rfl, h1, h2⟩
  | _, _, i + 1, p, .cons _ _ _ r, h => by
    obtain ⟨x, e, h1⟩ := repD_at (i := i) (p := p) r (by simpa using h)
    exact ⟨x, by simpa using e, h1⟩
theorem repK_at {K : PySem.W.Frag} : ∀ {xs : List (Key × V)} {ds : List (D × D)} {i : Nat} {p : D × D}, RepK K T A H xs ds → ds[i]? = some p → ∃ x, xs[i]? = some x ∧ keyS p.1 = some x.1 ∧ Rep K T A H x.2 p.2
  | _, _, _, _, .nil, h => by simp at h
  | _, _, 0, _, .cons k h2 _, h => by simp at h; subst h; exact ⟨_, rfl, k, h2⟩
  | _, _, i + 1, p, .cons _ _ r, h => by
    obtain ⟨x, e, h1⟩ := repK_at (i := i) (p := p) r (by simpa using h)
    exact ⟨x, by simpa using e, h1⟩
theorem kV_rep {K : PySem.W.Frag} {d : D} {k : Key} (h : keyS d = some k) : Rep K T A H (kV k) d := by
  rcases keyS_of h with ⟨i, rfl, rfl⟩ | ⟨x, rfl, rfl⟩
  · exact .int i
  · exact .str x
/-- a dict by its entries -/
theorem dic_raw (I : Inv X pins σ H s) (h : DicAt X.K T A H a ds) : ∃ es ep, s.heap.DictRaw a es ep ∧ es.size = ds.length ∧ (a == sysModules) = false ∧ ds.length ≤ sizeLine ∧
    ∀ i (hi : i < es.size) p, ds[i]? = some p → RD X.K T A H es[i].key p.1 ∧ RD X.K T A H es[i].val p.2 := by
  rcases h with ⟨xs, o, e, r⟩ | ⟨kvs, c, e, r⟩
  · obtain ⟨h1, h2, h4, us, rv, dd⟩ := dn_of I e r
    obtain ⟨es, ep, raw, hz, at_⟩ := dd.raw
    have hl : xs.length = us.length := by have := rv.length; simpa using this
    rw [zE_len hl] at hz
    refine ⟨es, ep, raw, by rw [hz, repD_len0 r], h1, by rw [← repD_len0 r]; exact h2, fun i hi p hp => ?_⟩
    obtain ⟨y, hy, e1, e2, _⟩ := at_ i hi
    obtain ⟨x, hx, r1, r2⟩ := repD_at r hp
    obtain ⟨u, hu, ru⟩ := rv.get (i := i) (x := x.2.2) (by rw [List.getElem?_map, hx]; rfl)
    have e3 : (zE xs us)[i]? = some (x.1, x.2.1, u) := by
      unfold zE
      rw [List.getElem?_zipWith, hx, hu]
    rw [e3] at hy
    cases hy
    exact ⟨⟨_, by rw [e1]; rfl, r1⟩, ⟨_, by rw [e2]; exact ru, r2⟩⟩
  · obtain ⟨z, hd, vs, rel, dd⟩ := dk_of I.hok e
    obtain ⟨es, ep, raw, hz, at_⟩ := dd.raw
    have hkl := repK_len r
    refine ⟨es, ep, raw, by rw [hz, ← rel.length, hkl], hd, by rw [← hkl]; exact z, fun i hi p hp => ?_⟩
    obtain ⟨x, hx, ks, r2⟩ := repK_at r hp
    obtain ⟨q, hq, eq, rq⟩ : ∃ q, vs[i]? = some q ∧ x.1 = q.1 ∧ RelV x.2 q.2 := by
      have go : ∀ {l : List (Key × V)} {m : List (Key × Value)} {i : Nat} {x : Key × V}, KV l m → l[i]? = some x → ∃ q, m[i]? = some q ∧ x.1 = q.1 ∧ RelV x.2 q.2 := by
        intro l m i x r
        unfold KV at r
        induction r generalizing i with
        | nil => intro h; simp at h
        | cons h t ih =>
          intro hx
          cases i with
          | zero => simp at hx; subst hx; exact ⟨_, rfl, h⟩
          | succ i =>
            obtain ⟨q, e, g⟩ := ih (i := i) (by simpa using hx)
            exact ⟨q, by simpa using e, g⟩
      exact go rel hx
    obtain ⟨g1, g2⟩ := at_ i hi q.1 q.2 hq
    refine ⟨⟨kV x.1, ?_, kV_rep ks⟩, ⟨x.2, by rw [g2]; exact rq, r2⟩⟩
    rw [eq]
    rcases keyIs_shape g1 with ⟨j, t, e1, e2⟩ | ⟨y, t, e1, e2⟩
    · rw [e1, e2]; exact ⟨t, rfl⟩
    · rw [e1, e2]; exact ⟨t, rfl⟩
theorem each_items {R : Value → D → Prop} : ∀ {vs : List Value} {es : List D}, vs.length = es.length → (∀ (i : Nat) (v : Value) (d : D), vs[i]? = some v → es[i]? = some d → R v d) → W.EachIs R vs es
  | [], [], _, _ => .nil
  | v :: vs, e :: es, h, f => .cons (f 0 v e rfl rfl) (each_items (by simpa using h) fun i v' d' h1 h2 => f (i + 1) v' d' (by simpa using h1) (by simpa using h2))
  | [], _ :: _, h, _ => by simp at h
  | _ :: _, [], h, _ => by simp at h
end
def dKeys : D → Option (List D)
  | .dict ds => if okD ds then some (ds.map (·.1)) else none
  | _ => none
def dVals : D → Option (List D)
  | .dict ds => if okD ds then some (ds.map (·.2)) else none
  | _ => none
def dSortedD (d : D) : Option D := (dKeys d).bind dSortL
def dLenD (d : D) : Option D := (dKeys d).map fun l => .int (l.length : Int)
def dListD (d : D) : Option D := (dKeys d).map .list
def rDicC (K : PySem.W.Frag) (f : List (D × D) → Option D) : List V → Hp → VK → Prop := fun xs H Q => ∃ T A a ds d, Wd T A H ∧ xs = [V.ref a] ∧ DicAt K T A H a ds ∧ f ds = some d ∧ ∀ v H', Post K T A H H' d v → Q v H'
theorem dic_keys {K : PySem.W.Frag} {T : Tk} {A : Addr → Prop} {H : Hp} {v : V} {d : D} {l : List D} (r : Rep K T A H v d) (h : dKeys d = some l) : ∃ a ds, v = .ref a ∧ DicAt K T A H a ds ∧ l = ds.map (·.1) ∧ d = .dict ds := by
  cases d with
  | dict ds =>
    obtain ⟨ho, e⟩ := ifs (show (if okD ds then some (ds.map (·.1)) else none) = some l from h)
    obtain ⟨a, ev, _, hd⟩ := rep_dic r rfl ho
    exact ⟨a, ds, ev, hd, e.symm, rfl⟩
  | _ => cases h
section
variable {X : Cx}
theorem cr_sortD (hc : X.calm = true) (hu : X.A.units + 64 < cLine) : CallR X (.builtin "sorted") (rDicC X.K fun ds => dSortL (ds.map (·.1))) := by
  intro pins s σ H vs us' Q I r h
  obtain ⟨T, A, a, ds, d, w, rfl, hd, e, q⟩ := h
  rw [Vals.ref1 r]
  obtain ⟨ho, e⟩ := ifs e
  subst e
  obtain ⟨es, ep, raw, hz, hs, hl, at_⟩ := dic_raw I hd
  refine sorted_gath (E := X.xe) hu w I ho (by rw [List.length_map]; exact hl) (fun es' => es' = ds.map (·.1)) (fun es' e => by rw [e]) (fun G hG => W.kdu_collect (KdlSrc.rawDict hs) (I.ok.hd hc) raw (by rw [hz]; exact hl) fun h' tk acc k1 it => hG { s with heap := h', toks := tk } _ k1 rfl rfl ⟨_, rfl, ?_, ?_⟩) fun es' e v s' ⟨x, H', I', r', o'⟩ => ⟨x, H', I', r', q x H' (by rw [← e]; exact o')⟩
  · refine each_items (by rw [Array.length_toList, it.1, hz, List.length_map]) fun i v d h1 h2 => ?_
    rw [Array.getElem?_toList] at h1
    obtain ⟨hi, ev⟩ := it.2 i v h1
    rw [List.getElem?_map] at h2
    obtain ⟨p, hp, ed⟩ := Option.map_eq_some_iff.mp h2
    rw [ev, ← ed]
    exact (at_ i hi p hp).1
  · refine each_items (by rw [Array.length_toList, it.1, hz, List.length_map]) fun i v d h1 h2 => ?_
    rw [Array.getElem?_toList] at h1
    obtain ⟨hi, ev⟩ := it.2 i v h1
    rw [List.getElem?_map] at h2
    obtain ⟨p, hp, ed⟩ := Option.map_eq_some_iff.mp h2
    obtain ⟨x, rx, rep⟩ := (at_ i hi p hp).1
    rw [ev, ← ed]
    have hpl : p.1.plain = true := by
      have := sortOk_plain ho
      have mm : p.1 ∈ ds.map (·.1) := List.mem_map_of_mem (List.mem_of_getElem? hp)
      have go : ∀ (l : List D), PyData.plainAll l = true → ∀ x ∈ l, x.plain = true := by
        intro l
        induction l with
        | nil => intro _ x hx; cases hx
        | cons y l ih =>
          intro h x hx
          rw [PyData.plainAll, Bool.and_eq_true] at h
          rcases List.mem_cons.mp hx with rfl | hx
          · exact h.1
          · exact ih h.2 x hx
      exact go _ this _ mm
    exact Dp.reads I p.1 x _ (rep.dp hpl) rx
theorem okSortedD : OkC X.K (f1 dSortedD) (rDicC X.K fun ds => dSortL (ds.map (·.1))) := okc1 fun T A H v p d Q w r e k => by
  obtain ⟨l, e1, e2⟩ := Option.bind_eq_some_iff.mp (show (dKeys p).bind dSortL = some d from e)
  obtain ⟨a, ds, rfl, hd, rfl, _⟩ := dic_keys r e1
  exact ⟨T, A, a, ds, d, w, rfl, hd, e2, k⟩
theorem cr_lenD (hc : X.calm = true) (hu : X.A.units + 64 < cLine) : CallR X (.builtin "len") (rDicC X.K fun ds => some (.int (ds.length : Int))) := by
  intro pins s σ H vs us' Q I r h
  obtain ⟨T, A, a, ds, d, w, rfl, hd, e, q⟩ := h
  rw [Vals.ref1 r]
  cases e
  obtain ⟨es, ep, raw, hz, hs, hl, _⟩ := dic_raw I hd
  refine PyProof.Rows.call_len_slot (n := es.size) raw.typeIs PySem.F.slot_dict_len (fun Q' hq => call_len_raw hs raw hq) (by omega) (by rw [sizeLine_eq] at hl; omega) ?_
  exact ⟨.int (ds.length : Int), H, I.tok _, ⟨_, by rw [hz]⟩, q _ _ (.same w (.int _))⟩
theorem okLenD : OkC X.K (f1 dLenD) (rDicC X.K fun ds => some (.int (ds.length : Int))) := okc1 fun T A H v p d Q w r e k => by
  obtain ⟨l, e1, e2⟩ := Option.map_eq_some_iff.mp (show (dKeys p).map _ = some d from e)
  obtain ⟨a, ds, rfl, hd, rfl, _⟩ := dic_keys r e1
  exact ⟨T, A, a, ds, d, w, rfl, hd, by rw [← e2, List.length_map], k⟩
end
end Qv
namespace Qv
open PySem PySem.Spec PyProof.Rows L2
theorem room65 {k : Nat} {A : Around} (r : Room k A) : A.units + 65 < cLine := by have := r.un; omega
end Qv

namespace Qv
open PySem PySem.Spec PyProof.Rows L2
/-! ## zip of three tuples -/
def Itz3 (K : PySem.W.Frag) (a b c : Addr) (xs ys zs : List V) : It :=
  ⟨fun i H => SqT K H a xs ∧ SqT K H b ys ∧ SqT K H c zs ∧ i < min (min xs.length ys.length) zs.length,
   fun i H v H' => ∃ T x y z, v = .ref T ∧ H T = none ∧ H' = upd H T (.tup [x, y, z]) ∧ xs[i]? = some x ∧ ys[i]? = some y ∧ zs[i]? = some z,
   fun i H => SqT K H a xs ∧ SqT K H b ys ∧ SqT K H c zs ∧ min (min xs.length ys.length) zs.length ≤ i⟩
section
variable {P : Program} {w : World} {K : PySem.W.Frag} {elts : List Expr} {kk : Nat} {tpos : Pos} {a b c N : Addr} {xs ys zs : List V}
def St3 (a b c N n : Nat) (i : Nat) (h : Heap) : Prop := (IsZip h (N + 5) (N + 3) (N + 4) .none ∧ IsTupOf3 h (N + 3) (.ref N) (.ref (N + 1)) (.ref (N + 2)) ∧ (∃ a1 a2 a3, IsTupOf3 h (N + 4) a1 a2 a3) ∧ h.IsTupleIter N a i ∧ h.IsTupleIter (N + 1) b i ∧ h.IsTupleIter (N + 2) c i) ∧ i ≤ n
def fp3 (N : Nat) : List Addr := [N + 5, N + 3, N + 4, N, N + 1, N + 2]
theorem turn_zip3 (ha : a < N) (hb : b < N) (hc : c < N) : Turn P w K (.Tuple elts kk tpos) (Itz3 K a b c xs ys zs) (fp3 N) (N + 5) (St3 a b c N (min (min xs.length ys.length) zs.length)) where
  mem := by simp [fp3]
  obj := fun i h st d hd => by
    obtain ⟨⟨hz, hTI, ⟨a1, a2, a3, hTO⟩, ⟨o1, e1, _, d1⟩, ⟨o2, e2, _, d2⟩, ⟨o3, e3, _, d3⟩⟩, _⟩ := st
    have e' : d = N + 5 ∨ d = N + 3 ∨ d = N + 4 ∨ d = N ∨ d = N + 1 ∨ d = N + 2 := by simpa [fp3] using hd
    rcases e' with q | q | q | q | q | q <;> rw [q]
    · exact ⟨_, hz, fun v q => nomatch q⟩
    · exact ⟨_, hTI, fun v q => nomatch q⟩
    · exact ⟨_, hTO, fun v q => nomatch q⟩
    · exact ⟨o1, e1, fun v q => by rw [d1] at q; cases q⟩
    · exact ⟨o2, e2, fun v q => by rw [d2] at q; cases q⟩
    · exact ⟨o3, e3, fun v q => by rw [d3] at q; cases q⟩
  keep := fun i h h' st k => by
    obtain ⟨⟨hz, hTI, ⟨a1, a2, a3, hTO⟩, h1, h2, h3⟩, hi⟩ := st
    exact ⟨⟨k _ (by simp [fp3]) _ hz, k _ (by simp [fp3]) _ hTI, ⟨a1, a2, a3, k _ (by simp [fp3]) _ hTO⟩, h1.at fun o q => k _ (by simp [fp3]) o q, h2.at fun o q => k _ (by simp [fp3]) o q, h3.at fun o q => k _ (by simp [fp3]) o q⟩, hi⟩
  item := by
    intro X hP hw hK hcalm i pins s σ H E I hf st hg
    subst hP hw hK
    obtain ⟨qa, qb, qc, hlt⟩ := hg
    obtain ⟨⟨hz, hTI, hTO, h1, h2, h3⟩, hi⟩ := st
    obtain ⟨us, rv, p, _⟩ := I.tuple qa
    obtain ⟨us2, rv2, p2, _⟩ := I.tuple qb
    obtain ⟨us3, rv3, p3, _⟩ := I.tuple qc
    have n1 : us.toArray.size = xs.length := by rw [List.size_toArray]; exact rv.length.symm
    have n2 : us2.toArray.size = ys.length := by rw [List.size_toArray]; exact rv2.length.symm
    have n3 : us3.toArray.size = zs.length := by rw [List.size_toArray]; exact rv3.length.symm
    have hh : X.A.in1.handled = none := I.ok.hd hcalm
    have G := GoesN.zip3 (prog := X.prog) (w := X.w) (A := X.A) (elts := elts) (x1 := kk) (pos := tpos) (zip_sep3 (N := N) (fp1 := [a]) (fp2 := [b]) (fp3 := [c]) (by simpa using ha) (by simpa using hb) (by simpa using hc))
      (Draws.tuple hh N a (Nat.ne_of_lt ha) us.toArray) (Draws.tuple hh (N + 1) b (Nat.ne_of_lt (Nat.lt_succ_of_lt hb)) us2.toArray) (Draws.tuple hh (N + 2) c (Nat.ne_of_lt (Nat.lt_succ_of_lt (Nat.lt_succ_of_lt hc))) us3.toArray)
    rw [n1, n2, n3] at G
    refine wpAny_mono (G.goes i s _ E hlt ⟨hz, hTI, hTO, ⟨h1, p⟩, ⟨h2, p2⟩, ⟨h3, p3⟩⟩ fun v h' tk hY st' hk htk => ?_) (fun r s1 h => h) fun _ _ e => e
    obtain ⟨T, x, y, z, rfl, hT0, hx, hy, hz', hT⟩ := hY
    obtain ⟨x', ex, rx⟩ : ∃ x', xs[i]? = some x' ∧ RelV x' x := by
      have hl : i < xs.length := by omega
      obtain ⟨u, hu, ru⟩ := rv.get (List.getElem?_eq_getElem hl)
      have : u = x := Option.some.inj (hu.symm.trans (by simpa using hx))
      exact ⟨_, List.getElem?_eq_getElem hl, this ▸ ru⟩
    obtain ⟨y', ey, ry⟩ : ∃ x', ys[i]? = some x' ∧ RelV x' y := by
      have hl : i < ys.length := by omega
      obtain ⟨u, hu, ru⟩ := rv2.get (List.getElem?_eq_getElem hl)
      have : u = y := Option.some.inj (hu.symm.trans (by simpa using hy))
      exact ⟨_, List.getElem?_eq_getElem hl, this ▸ ru⟩
    obtain ⟨z', ez, rz⟩ : ∃ x', zs[i]? = some x' ∧ RelV x' z := by
      have hl : i < zs.length := by omega
      obtain ⟨u, hu, ru⟩ := rv3.get (List.getElem?_eq_getElem hl)
      have : u = z := Option.some.inj (hu.symm.trans (by simpa using hz'))
      exact ⟨_, List.getElem?_eq_getElem hl, this ▸ ru⟩
    obtain ⟨g1, g2, g3, g4, g5, g6⟩ := st'
    have new : ObjOk X.prog X.w (upd H T (.tup [x', y', z'])) h' T (.tup [x', y', z']) := ⟨by show 3 ≤ sizeLine; decide, [x, y, z], .cons rx (.cons ry (.cons rz .nil)), hT⟩
    have I1 : Inv X pins σ (upd H T (.tup [x', y', z'])) { s with heap := h', toks := tk } := I.turnedNew (t' := tk) (ch := fp3 N) (fun d o hd q => hk d o (fun z => hd (by simp [fp3] at z ⊢; rcases z with z | z | z | z | z <;> simp [z])) q) hf hT0 new
    exact ⟨.ref T, _, I1, rfl, ⟨T, x', y', z', rfl, I.hok.fresh hT0, rfl, ex, ey, ez⟩, ⟨⟨g1, g2, g3, g4.1, g5.1, g6.1⟩, hlt⟩, fun d hd => by
      have hl : d < s.heap.objs.size := by
        obtain ⟨a1, a2, a3, hTO⟩ := hTO
        have e' : d = N + 5 ∨ d = N + 3 ∨ d = N + 4 ∨ d = N ∨ d = N + 1 ∨ d = N + 2 := by simpa [fp3] using hd
        obtain ⟨_, e1, _⟩ := h1
        obtain ⟨_, e2, _⟩ := h2
        obtain ⟨_, e3, _⟩ := h3
        rcases e' with q | q | q | q | q | q <;> rw [q]
        · exact Heap.lt_size hz
        · exact Heap.lt_size hTI
        · exact Heap.lt_size hTO
        · exact Heap.lt_size e1
        · exact Heap.lt_size e2
        · exact Heap.lt_size e3
      rw [upd_ne (Nat.ne_of_lt (Nat.lt_of_lt_of_le hl hT0))]
      exact (hf d hd).1⟩
  done := by
    intro X hP hw hK hcalm i pins s σ H E I hf st hg
    subst hP hw hK
    obtain ⟨qa, qb, qc, hge⟩ := hg
    obtain ⟨⟨hz, hTI, hTO, h1, h2, h3⟩, hi⟩ := st
    have e0 : i = min (min xs.length ys.length) zs.length := Nat.le_antisymm hi hge
    obtain ⟨us, rv, p, _⟩ := I.tuple qa
    obtain ⟨us2, rv2, p2, _⟩ := I.tuple qb
    obtain ⟨us3, rv3, p3, _⟩ := I.tuple qc
    have n1 : us.toArray.size = xs.length := by rw [List.size_toArray]; exact rv.length.symm
    have n2 : us2.toArray.size = ys.length := by rw [List.size_toArray]; exact rv2.length.symm
    have n3 : us3.toArray.size = zs.length := by rw [List.size_toArray]; exact rv3.length.symm
    have hh : X.A.in1.handled = none := I.ok.hd hcalm
    have G := GoesN.zip3 (prog := X.prog) (w := X.w) (A := X.A) (elts := elts) (x1 := kk) (pos := tpos) (zip_sep3 (N := N) (fp1 := [a]) (fp2 := [b]) (fp3 := [c]) (by simpa using ha) (by simpa using hb) (by simpa using hc))
      (Draws.tuple hh N a (Nat.ne_of_lt ha) us.toArray) (Draws.tuple hh (N + 1) b (Nat.ne_of_lt (Nat.lt_succ_of_lt hb)) us2.toArray) (Draws.tuple hh (N + 2) c (Nat.ne_of_lt (Nat.lt_succ_of_lt (Nat.lt_succ_of_lt hc))) us3.toArray)
    rw [n1, n2, n3, ← e0] at G
    exact G.stops s _ E ⟨hz, hTI, hTO, ⟨h1, p⟩, ⟨h2, p2⟩, ⟨h3, p3⟩⟩ fun h' tk hk htk => I.turnedL (t' := tk) (ch := fp3 N) (fun d o hd q => hk d o (fun z => hd (by simp [fp3] at z ⊢; rcases z with z | z | z | z | z <;> simp [z])) q) hf
  self := fun A i s Q E st h => wpAny_pyIter_zip st.1.1 h
end
section
variable {X : Cx}
theorem pi_zip3 {e e2 e3 : Expr} {ta : TA} {p pos tpos : Pos} {elts : List Expr} {kk : Nat} (hg : Gl X "zip") (hm : X.mg "zip" = none) (ha : PA X [e, e2, e3] ta)
    (hs : starEach [e, e2, e3] X.env = (false, eval e X.env) :: starEach [e2, e3] X.env) (hpl : (backTo pos (starEach [e2, e3] X.env)).any (·.1) = false) :
    PI X (.Tuple elts kk tpos) (.Call (.Name "zip" p) [e, e2, e3] [] pos) (fun σ H R => ta σ H fun vs H1 => ∃ a b c xs ys zs, vs = [.ref a, .ref b, .ref c] ∧ SqT X.K H1 a xs ∧ SqT X.K H1 b ys ∧ SqT X.K H1 c zs ∧ R (Itz3 X.K a b c xs ys zs) H1) := by
  refine ⟨fun pins s σ H R I h => Call_ (ld_blt I hg hm PyProof.Rows.boot_zip (PyProof.Rows.callWith_type1 (thn (ha.run pos pins s σ H _ I h) fun us s1 ⟨vs, H1, I1, r1, a, b, c, xs, ys, zs, ex, qa, qb, qc, q⟩ => ?_) hs hpl))⟩
  subst ex
  obtain ⟨u1, u2, u3, rfl, r1, r2, r3⟩ : ∃ u1 u2 u3, us = [u1, u2, u3] ∧ RelV (.ref a) u1 ∧ RelV (.ref b) u2 ∧ RelV (.ref c) u3 := by
    cases r1 with
    | cons p t =>
      cases t with
      | cons p' t' =>
        cases t' with
        | cons p'' t'' => cases t''; exact ⟨_, _, _, rfl, p, p', p''⟩
  cases r1
  cases r2
  cases r3
  obtain ⟨us, rv, p1, _⟩ := I1.tuple qa
  obtain ⟨us2, rv2, p2, _⟩ := I1.tuple qb
  obtain ⟨us3, rv3, p3, _⟩ := I1.tuple qc
  have fr : ∀ d, d ∈ fp3 s1.heap.objs.size → FpOk X pins H1 d := fun d hd => by
    have hle : s1.heap.objs.size ≤ d := by
      have e' : d = s1.heap.objs.size + 5 ∨ d = s1.heap.objs.size + 3 ∨ d = s1.heap.objs.size + 4 ∨ d = s1.heap.objs.size ∨ d = s1.heap.objs.size + 1 ∨ d = s1.heap.objs.size + 2 := by simpa [fp3] using hd
      rcases e' with z | z | z | z | z | z <;> rw [z] <;> first | exact Nat.le_refl _ | exact Nat.le_add_right _ _
    exact I1.fpOk hle (I1.hok.fresh hle)
  refine zip_begins3 (begins_tuple a us.toArray) (begins_tuple b us2.toArray) (begins_tuple c us3.toArray) p1 p2 p3 fun h' hz hTI hTO h1 h2 h3 hsz hk => wpAny_pyIter_zip hz ?_
  have I2 : Inv X pins σ H1 { s1 with heap := h' } := I1.kept (t' := s1.toks) hk
  obtain ⟨ob1, e1, _⟩ := id p1
  obtain ⟨ob2, e2', _⟩ := id p2
  obtain ⟨ob3, e3', _⟩ := id p3
  exact ⟨s1.heap.objs.size + 5, fp3 s1.heap.objs.size, _, _, H1, rfl, I2, turn_zip3 (Heap.lt_size e1) (Heap.lt_size e2') (Heap.lt_size e3'), ⟨⟨hz, hTI, ⟨_, _, _, hTO⟩, ⟨_, h1, rfl, rfl⟩, ⟨_, h2, rfl, rfl⟩, ⟨_, h3, rfl, rfl⟩⟩, Nat.zero_le _⟩, fr, q⟩
end
def zip3D : List D → List D → List D → List D
  | x :: xs, y :: ys, z :: zs => .tuple [x, y, z] :: zip3D xs ys zs
  | _, _, _ => []
def zipL3 : List D → Option (List D)
  | [.tuple xs, .tuple ys, .tuple zs] => some (zip3D xs ys zs)
  | _ => none
theorem zip3_len : ∀ (xs ys zs : List D), (zip3D xs ys zs).length = min (min xs.length ys.length) zs.length
  | [], _, _ => by simp [zip3D]
  | _ :: _, [], _ => by simp [zip3D]
  | _ :: _, _ :: _, [] => by simp [zip3D]
  | _ :: xs, _ :: ys, _ :: zs => by simp [zip3D, zip3_len xs ys zs]
theorem zip3_get : ∀ {xs ys zs : List D} {i : Nat} {p : D}, (zip3D xs ys zs)[i]? = some p → ∃ x y z, xs[i]? = some x ∧ ys[i]? = some y ∧ zs[i]? = some z ∧ p = .tuple [x, y, z]
  | [], _, _, _, _, h => by simp [zip3D] at h
  | _ :: _, [], _, _, _, h => by simp [zip3D] at h
  | _ :: _, _ :: _, [], _, _, h => by simp [zip3D] at h
  | x :: xs, y :: ys, z :: zs, 0, p, h => by simp [zip3D] at h; exact ⟨x, y, z, rfl, rfl, rfl, h.symm⟩
  | x :: xs, y :: ys, z :: zs, i + 1, p, h => by
    obtain ⟨x', y', z', e1, e2, e3, e4⟩ := zip3_get (xs := xs) (ys := ys) (zs := zs) (i := i) (p := p) (by simpa [zip3D] using h)
    exact ⟨x', y', z', by simpa using e1, by simpa using e2, by simpa using e3, e4⟩
section
variable {K : PySem.W.Frag} {T : Tk} {A : Addr → Prop}
theorem itZip3 {a b c : Addr} {us vs ws : List V} {ds es fs : List D} {H0 : Hp} (h : SqT K H0 a us) (r : Reps K T A H0 us ds) (h' : SqT K H0 b vs) (r' : Reps K T A H0 vs es) (h2 : SqT K H0 c ws) (r2 : Reps K T A H0 ws fs) (w0 : Wd T A H0) : ItOk K T A (Itz3 K a b c us vs ws) (zip3D ds es fs) H0 := fun B hB i H w s => by
  have hs : SqT K H a us := sqT_stA (munB w0 hB) h s
  have hs' : SqT K H b vs := sqT_stA (munB w0 hB) h' s
  have hs2 : SqT K H c ws := sqT_stA (munB w0 hB) h2 s
  have q := (r.ext hB).stA (munB w0 hB) s
  have q' := (r'.ext hB).stA (munB w0 hB) s
  have q2 := (r2.ext hB).stA (munB w0 hB) s
  have hl : (zip3D ds es fs).length = min (min us.length vs.length) ws.length := by rw [zip3_len, r.length, r'.length, r2.length]
  refine ⟨fun p e => ?_, fun e => ⟨hs, hs', hs2, by rw [← hl]; exact e⟩⟩
  have hi : i < min (min us.length vs.length) ws.length := by rw [← hl]; exact (List.getElem?_eq_some_iff.mp e).1
  obtain ⟨d, d', d2, e0, e0', e02, rfl⟩ := zip3_get e
  obtain ⟨v, e1, r1⟩ := q.get e0
  obtain ⟨v', e1', r1'⟩ := q'.get e0'
  obtain ⟨v2, e12, r12⟩ := q2.get e02
  refine ⟨⟨hs, hs', hs2, hi⟩, fun x H' ⟨t, x1, y1, z1, ex, nt, eH, y, y', y2⟩ => ?_⟩
  subst ex eH
  rw [e1] at y
  rw [e1'] at y'
  rw [e12] at y2
  cases y
  cases y'
  cases y2
  exact new_tup w nt (.cons r1 (.cons r1' (.cons r12 .nil)))
end
section
variable {m : Type → Type} [PM m] {X : Cx} {ρ : Rh} {a b c : Expr} {xs : m (List D)} {pos : Pos}
theorem VI.zip3 {p tpos : Pos} {elts : List Expr} {kk : Nat} (hm : X.mg "zip" = none) (ha : VA X ρ [a, b, c] xs) (hg : Gl X "zip" := by rfl) (hs : starEach [a, b, c] X.env = (false, eval a X.env) :: starEach [b, c] X.env := by rfl) (hpl : (backTo pos (starEach [b, c] X.env)).any (·.1) = false := by rfl) :
    VI X ρ (.Tuple elts kk tpos) (.Call (.Name "zip" p) [a, b, c] [] pos) (xs >>= fun l => PM.lift (zipL3 l)) :=
  imI (pi_zip3 hg hm ha.pa hs hpl) fun σ H R ⟨T, A, w, ev, q⟩ => by
    rw [PM.run_bind] at q
    refine ⟨T, A, w, ev, PM.mono (fun l q vs H1 s1 o1 r1 => ?_) q⟩
    rw [PM.run_lift] at q
    obtain ⟨ps, e1, q⟩ := q
    match l, e1 with
    | [.tuple ds, .tuple es, .tuple fs], e1 =>
      cases e1
      cases r1 with
      | cons ra r1 =>
        cases r1 with
        | cons rb r1 =>
          cases r1 with
          | cons rc r1 =>
            cases r1
            cases ra with
            | tup ha' qa =>
              cases rb with
              | tup hb' qb =>
                cases rc with
                | tup hc' qc => exact ⟨_, _, _, _, _, _, rfl, ha', hb', hc', q _ _ s1 o1 (itZip3 ha' qa hb' qb hc' qc (w.step s1 o1))⟩
end
end Qv

namespace Qv
open PySem PySem.Spec PyProof.Rows L2
/-! ## stepping through mirrors by simp -/
theorem dAdd_ii {i j : Int} : dAdd (.int i) (.int j) = some (.int (i + j)) := id rfl
theorem dSub_ii {i j : Int} : dSub (.int i) (.int j) = some (.int (i - j)) := id rfl
theorem dNeg_i {i : Int} : dNeg (.int i) = some (.int (-i)) := id rfl
theorem dLt_ii {i j : Int} : dLt (.int i) (.int j) = some (.bool (decide (i < j))) := id rfl
theorem dLe_ii {i j : Int} : dLe (.int i) (.int j) = some (.bool (decide (i ≤ j))) := id rfl
theorem dGt_ii {i j : Int} : dGt (.int i) (.int j) = some (.bool (decide (j < i))) := id rfl
theorem dGe_ii {i j : Int} : dGe (.int i) (.int j) = some (.bool (decide (j ≤ i))) := id rfl
theorem dEq_i2 {i j : Int} : dEq (.int i) (.int j) = some (.bool (decide (i = j))) := id rfl
theorem dNe_i2 {i j : Int} : dNe (.int i) (.int j) = some (.bool (!decide (i = j))) := id rfl
theorem dNe_bb {i j : Bool} : dNe (.bool i) (.bool j) = some (.bool (i != j)) := by cases i <;> cases j <;> rfl
theorem dEq_bb {i j : Bool} : dEq (.bool i) (.bool j) = some (.bool (i == j)) := by cases i <;> cases j <;> rfl
theorem dTruth_b {b : Bool} : dTruth (.bool b) = some b := id rfl
theorem dBool_b {b : Bool} : dBool (.bool b) = some b := id rfl
theorem dInt_i {i : Int} : f1 dInt [.int i] = some (.int i) := id rfl
theorem dIx_l {l : List D} {i : Int} : dIx (.list l) (.int i) = atI l i := id rfl
theorem dIx_t {l : List D} {i : Int} : dIx (.tuple l) (.int i) = atI l i := id rfl
theorem dLen_l {l : List D} : f1 dLen [.list l] = some (.int l.length) := id rfl
theorem dLen_t {l : List D} : f1 dLen [.tuple l] = some (.int l.length) := id rfl
theorem dTuple_l {l : List D} : f1 dTuple [.list l] = some (.tuple l) := id rfl
theorem dTuple_t {l : List D} : f1 dTuple [.tuple l] = some (.tuple l) := id rfl
theorem dIter_l {l : List D} : dIter (.list l) = some l := id rfl
theorem dIter_t {l : List D} : dIter (.tuple l) = some l := id rfl
theorem flat_n {i : Nat} {x : D} : Pt.flat (.n i) x = some [x] := by rw [Pt.flat]
theorem flat_tt {ps : List Pt} {xs : List D} : Pt.flat (.t ps) (.tuple xs) = Pt.flats ps xs := by rw [Pt.flat]
theorem flat_tl {ps : List Pt} {xs : List D} : Pt.flat (.t ps) (.list xs) = Pt.flats ps xs := by rw [Pt.flat]
theorem flats_nil : Pt.flats [] [] = some [] := by rw [Pt.flats]
theorem flats_cons {p : Pt} {ps : List Pt} {x : D} {xs : List D} : Pt.flats (p :: ps) (x :: xs) = (Pt.flat p x).bind fun a => (Pt.flats ps xs).bind fun b => some (a ++ b) := by
  rw [Pt.flats]
  cases Pt.flat p x with
  | none => rfl
  | some a => cases Pt.flats ps xs <;> rfl
theorem at0 {a : D} {l : List D} : atI (a :: l) 0 = some a := atI_nat (j := 0) rfl
theorem at1 {a b : D} {l : List D} : atI (a :: b :: l) 1 = some b := atI_nat (j := 1) rfl
theorem at2 {a b c : D} {l : List D} : atI (a :: b :: c :: l) 2 = some c := atI_nat (j := 2) rfl
theorem at3 {a b c d : D} {l : List D} : atI (a :: b :: c :: d :: l) 3 = some d := atI_nat (j := 3) rfl
section
variable {m : Type → Type} [PM m] {α β : Type}
theorem run_ls {a : α} {K : α → Prop} : PM.run (PM.lift (some a) : m α) K ↔ K a := by
  rw [PM.run_lift]
  exact ⟨fun ⟨r, e, h⟩ => by cases e; exact h, fun h => ⟨a, rfl, h⟩⟩
theorem run_if {c : Prop} [Decidable c] {x y : m α} {K : α → Prop} : PM.run (if c then x else y) K ↔ (if c then PM.run x K else PM.run y K) := by
  by_cases h : c
  · rw [if_pos h, if_pos h]
  · rw [if_neg h, if_neg h]
theorem thenT_nx {k : α → m D} {a : α} : thenT k (.nx a) = k a := id rfl
theorem thenT_rt {k : α → m D} {v : D} : thenT k (.rt v) = pure v := id rfl
theorem thenO_nx {k : α → m (Out β)} {a : α} : thenO k (.nx a) = k a := id rfl
theorem thenO_rt {k : α → m (Out β)} {v : D} : thenO k (.rt v) = pure (.rt v) := id rfl
theorem un1_c {f : D → m β} {a : D} : un1 f [a] = f a := id rfl
theorem un2_c {f : D → D → m β} {a b : D} : un2 f [a, b] = f a b := id rfl
theorem un3_c {f : D → D → D → m β} {a b c : D} : un3 f [a, b, c] = f a b c := id rfl
theorem un4_c {f : D → D → D → D → m β} {a b c d : D} : un4 f [a, b, c, d] = f a b c d := id rfl
theorem un5_c {f : D → D → D → D → D → m β} {a b c d e : D} : un5 f [a, b, c, d, e] = f a b c d e := id rfl
theorem forO_nil {f : α → D → m (Out α)} {s : α} : forO f s [] = pure (.nx s) := id rfl
/-- [x for .. in ..] that draws -/
theorem run_comp_all {it : m (List D)} {i : Nat} {x : D → m D} {P : D → Prop} {K : D → Prop} (h : PM.run it fun ps => ps.length ≤ 16777216 ∧ (∀ p ∈ ps, PM.run (x p) P) ∧ ∀ ys : List D, ys.length = ps.length → (∀ y ∈ ys, P y) → K (.list ys)) : PM.run (compM it (.n i) (fun _ => pure true) (un1 x)) K := by
  unfold compM
  refine run_b (PM.mono (fun ps ⟨h1, h2, h3⟩ => run_lb (sizeL_some h1) (run_b ?_)) h)
  have go : ∀ (ps : List D) (K2 : List D → Prop), (∀ p ∈ ps, PM.run (x p) P) → (∀ ys : List D, ys.length = ps.length → (∀ y ∈ ys, P y) → K2 ys) → PM.run (cmpD (turnM (.n i) (fun _ => pure true) (un1 x)) ps) K2 := by
    intro ps
    induction ps with
    | nil => exact fun K2 _ k => run_p (k [] rfl (fun y hy => by cases hy))
    | cons p ps ih =>
      intro K2 hx k
      refine run_b ?_
      unfold turnM
      refine run_lb rfl (run_pb ?_)
      rw [if_pos rfl]
      refine run_b (PM.mono (fun y hy => run_p ?_) (hx p List.mem_cons_self))
      refine run_b (ih _ (fun q hq => hx q (List.mem_cons_of_mem _ hq)) fun ys e1 e2 => run_p ?_)
      exact k (y :: ys) (by rw [List.length_cons, e1, List.length_cons]) fun z hz => by
        rcases List.mem_cons.mp hz with rfl | hz
        · exact hy
        · exact e2 z hz
  exact go ps _ h2 fun ys e1 e2 => run_p (h3 ys e1 e2)
end
theorem run_dA' {k : Int} {K : D → Prop} (h : 0 < k ∧ k < 1000000000 ∧ ∀ d : Int, 0 ≤ d → d < k → K (.int d)) : PM.run (drawA [tokA, .int k]) K := run_dA h.1 h.2.1 h.2.2
/-! ## the laws' own comparison, of a thing with itself -/
theorem leq_seq {n : Nat} {d : D} {xs : List D} (hp : d.plain = true) (hl : d.isList = true ∨ d.isTuple = true) (hn : f1 dLen [d] = some (.int xs.length)) (hx : ∀ i : Int, dIx d (.int i) = atI xs i) (hz : xs.length ≤ 16777216) (h : ∀ x ∈ xs, m_law_eq n [x, x] = some (.bool true)) : m_law_eq (n + 1) [d, d] = some (.bool true) := by
  have hc : compM (m := Option) (((PM.lift (f1 dLen [d])) >>= fun a => pure (a :: [])) >>= fun l => PM.lift (rng1L l)) (.n 2) (un1 fun k_1 => (((((PM.lift (dIx d k_1)) >>= fun a => ((PM.lift (dIx d k_1)) >>= fun a => pure (a :: [])) >>= fun l => pure (a :: l)) >>= fun l => PM.lift ((m_law_eq n) l)) >>= fun p => PM.lift (dTruth p)) >>= fun c => pure (!c))) (un1 fun k_1 => (pure k_1)) = some (.list []) := by
    refine (comp_if (ps := rgL 0 xs.length) (b := fun _ => false) (g := id) ?_ (by rw [rgL_len]; exact hz) (fun p hp => ?_) (fun p hp h => by cases h)).trans ?_
    · rw [hn]
      have e := rng1 (n := (xs.length : Int)) (by omega) (by omega)
      rw [Int.toNat_natCast] at e
      simp only [o_lift, o_pure, o_bind, o_some, e]
    · obtain ⟨k, hk, rfl⟩ := rgL_mem hp
      simp only [hx]
      have e : atI xs (0 + (k : Int)) = some xs[k] := by rw [Int.zero_add]; exact atI_nat (List.getElem?_eq_getElem hk)
      simp only [o_lift, o_pure, o_bind, o_some, e, h _ (List.getElem_mem hk)]
      rfl
    · have : ∀ l : List D, (l.filter fun _ => false) = [] := fun l => by induction l with | nil => rfl | cons x xs ih => rw [List.filter_cons, ih]; rfl
      rw [this]; rfl
  have e1 : dNe (PyData.bool d.isList) (.bool d.isList) = some (.bool false) := by cases d.isList <;> rfl
  have e2 : dNe (PyData.bool d.isTuple) (.bool d.isTuple) = some (.bool false) := by cases d.isTuple <;> rfl
  have e3 : dNe (.int (xs.length : Int)) (.int (xs.length : Int)) = some (.bool false) := by
    rw [dNe_i2]; simp
  have e4 : dEq (PyData.list []) (.list []) = some (.bool true) := isS_eq (by decide +kernel)
  unfold m_law_eq
  simp only [o_lift, o_pure, o_bind, hn, o_some] at hc
  rcases hl with hl | hl <;> cases ht : d.isTuple <;> cases hl' : d.isList <;>
    simp only [u2_eq, o_lift, o_pure, o_bind, plainB_some hp, hn, o_some, e1, e2, hl, ht, hl', dTruth_b, dBool_b, dNe_bb, if_true, Bool.false_eq_true, if_false, bne_self_eq_false, e3, hc, e4] at hl hl' ht ⊢ <;> simp at hl
theorem eq_refl : ∀ {n : Nat} {d : D}, good n d = true → m_law_eq n [d, d] = some (.bool true)
  | n + 1, .list xs, h => by
    have hp := good_plain h
    simp only [good, Bool.and_eq_true, List.all_eq_true, decide_eq_true_eq] at h
    exact leq_seq hp (.inl rfl) rfl (fun i => rfl) h.1 fun x hx => eq_refl (h.2 x hx)
  | n + 1, .tuple xs, h => by
    have hp := good_plain h
    simp only [good, Bool.and_eq_true, List.all_eq_true, decide_eq_true_eq] at h
    exact leq_seq hp (.inr rfl) rfl (fun i => rfl) h.1 fun x hx => eq_refl (h.2 x hx)
  | n + 1, .none, _ => rfl
  | n + 1, .bool b, _ => by cases b <;> rfl
  | n + 1, .int i, _ => by
    have k : m_law_eq (n + 1) [.int i, .int i] = (dEq (PyData.int i) (.int i)) := rfl
    rw [k, dEq_i2]; simp
  | n + 1, .str x, _ => by
    have e : dEq (PyData.str x) (.str x) = some (.bool true) := by
      simp [dEq, PyData.plain, PyData.depth, PyData.eqv]
    have k : m_law_eq (n + 1) [.str x, .str x] = (dEq (PyData.str x) (.str x)) := rfl
    rw [k, e]
end Qv

namespace Qv
/-! ## smaller lattices, plainly -/
def fX (a b c x y : Int) : Int := (x - y.fdiv c * b).fmod a
def fY (c y : Int) : Int := y.fmod c
def fS (a b c x y : Int) : Bool := decide (y.fmod c = 0) && decide ((x - y.fdiv c * b).fmod a = 0)
def inL (a b c x y : Int) : Prop := ∃ s t : Int, x = s * a + t * b ∧ y = t * c
theorem eucl {q r t u c : Int} (h0 : 0 ≤ q) (h1 : q < c) (h2 : 0 ≤ r) (h3 : r < c) (h : q + t * c = r + u * c) : q = r ∧ t = u := by
  have e : q = r := by
    have e1 : (q + t * c) % c = q := by rw [Int.add_mul_emod_self_right, Int.emod_eq_of_lt h0 h1]
    have e2 : (r + u * c) % c = r := by rw [Int.add_mul_emod_self_right, Int.emod_eq_of_lt h2 h3]
    rw [← e1, h, e2]
  refine ⟨e, ?_⟩
  subst e
  have h4 : t * c = u * c := by omega
  exact Int.eq_of_mul_eq_mul_right (by omega) h4
section
variable {a b c : Int} (ha : 0 < a) (hc : 0 < c)
include ha hc
theorem fX_bd (x y : Int) : 0 ≤ fX a b c x y ∧ fX a b c x y < a := ⟨Int.fmod_nonneg_of_pos _ ha, Int.fmod_lt_of_pos _ ha⟩
omit ha in
theorem fY_bd (y : Int) : 0 ≤ fY c y ∧ fY c y < c := ⟨Int.fmod_nonneg_of_pos _ hc, Int.fmod_lt_of_pos _ hc⟩
theorem rep (x y : Int) : ∃ s t, x = fX a b c x y + (s * a + t * b) ∧ y = fY c y + t * c := by
  refine ⟨(x - y.fdiv c * b).fdiv a, y.fdiv c, ?_, ?_⟩
  · have := Int.fmod_add_mul_fdiv (x - y.fdiv c * b) a
    unfold fX
    have e := Int.mul_comm a ((x - y.fdiv c * b).fdiv a)
    omega
  · have := Int.fmod_add_mul_fdiv y c
    unfold fY
    have e := Int.mul_comm c (y.fdiv c)
    omega
/-- the told place is the only one in the box -/
theorem rep_eq {x y r q s t : Int} (h0 : 0 ≤ r) (h1 : r < a) (h2 : 0 ≤ q) (h3 : q < c) (hx : x = r + (s * a + t * b)) (hy : y = q + t * c) : fX a b c x y = r ∧ fY c y = q := by
  obtain ⟨s', t', e1, e2⟩ := rep (b := b) ha hc x y
  have ⟨b1, b2⟩ := fX_bd (b := b) ha hc x y
  have ⟨b3, b4⟩ := fY_bd hc y
  obtain ⟨e3, e4⟩ := eucl b3 b4 h2 h3 (e2.symm.trans hy)
  subst e4
  have e5 : fX a b c x y + s' * a = r + s * a := by omega
  exact ⟨(eucl b1 b2 h0 h1 e5).1, e3⟩
theorem cls_iff (x y u v : Int) : (fX a b c x y = fX a b c u v ∧ fY c y = fY c v) ↔ inL a b c (x - u) (y - v) := by
  obtain ⟨s, t, e1, e2⟩ := rep (b := b) ha hc x y
  obtain ⟨s', t', e3, e4⟩ := rep (b := b) ha hc u v
  constructor
  · intro ⟨h1, h2⟩
    refine ⟨s - s', t - t', ?_, ?_⟩
    · rw [Int.sub_mul, Int.sub_mul]; omega
    · rw [Int.sub_mul]; omega
  · intro ⟨s2, t2, h1, h2⟩
    have ⟨b1, b2⟩ := fX_bd (b := b) ha hc u v
    have ⟨b3, b4⟩ := fY_bd hc v
    exact rep_eq (s := s2 + s') (t := t2 + t') ha hc b1 b2 b3 b4 (by rw [Int.add_mul, Int.add_mul]; omega) (by rw [Int.add_mul]; omega)
theorem fS_iff (x y : Int) : fS a b c x y = true ↔ inL a b c x y := by
  have k := cls_iff (b := b) ha hc x y 0 0
  have e0 : fX a b c 0 0 = 0 ∧ fY c 0 = 0 := rep_eq (s := 0) (t := 0) ha hc (Int.le_refl 0) ha (Int.le_refl 0) hc (by simp) (by simp)
  rw [e0.1, e0.2, Int.sub_zero, Int.sub_zero] at k
  rw [← k]
  unfold fS
  rw [Bool.and_eq_true, decide_eq_true_eq, decide_eq_true_eq]
  exact And.comm
omit ha hc in
theorem inL_add {x y u v : Int} (h : inL a b c x y) (k : inL a b c u v) : inL a b c (x + u) (y + v) := by
  obtain ⟨s, t, rfl, rfl⟩ := h
  obtain ⟨s', t', rfl, rfl⟩ := k
  exact ⟨s + s', t + t', by rw [Int.add_mul, Int.add_mul]; omega, by rw [Int.add_mul]⟩
omit ha hc in
theorem inL_mul {x y : Int} (k : Int) (h : inL a b c x y) : inL a b c (k * x) (k * y) := by
  obtain ⟨s, t, rfl, rfl⟩ := h
  exact ⟨k * s, k * t, by rw [Int.mul_add, Int.mul_assoc, Int.mul_assoc], by rw [Int.mul_assoc]⟩
omit ha hc in
theorem inL_neg {x y : Int} (h : inL a b c x y) : inL a b c (-x) (-y) := by
  have := inL_mul (-1) h
  rwa [Int.neg_one_mul, Int.neg_one_mul] at this
omit ha hc in
theorem inL_sub {x y u v : Int} (h : inL a b c x y) (k : inL a b c u v) : inL a b c (x - u) (y - v) := by
  rw [Int.sub_eq_add_neg, Int.sub_eq_add_neg]
  exact inL_add h (inL_neg k)
omit ha hc in
theorem inL_0 : inL a b c 0 0 := ⟨0, 0, by simp, by simp⟩
/-- a linear part that keeps the two steps keeps all -/
def keepP (a b c p q r s : Int) : Prop := ∀ x y, inL a b c x y → inL a b c (p * x + q * y) (r * x + s * y)
omit ha hc in
theorem keep_iff {p q r s : Int} : keepP a b c p q r s ↔ (inL a b c (p * a) (r * a) ∧ inL a b c (p * b + q * c) (r * b + s * c)) := by
  constructor
  · intro h
    have h1 := h a 0 ⟨1, 0, by omega, by omega⟩
    have h2 := h b c ⟨0, 1, by omega, by omega⟩
    rw [Int.mul_zero, Int.mul_zero, Int.add_zero, Int.add_zero] at h1
    exact ⟨h1, h2⟩
  · intro ⟨h1, h2⟩ x y ⟨k, l, hx, hy⟩
    have h3 := inL_add (inL_mul k h1) (inL_mul l h2)
    have e1 : k * (p * a) + l * (p * b + q * c) = p * x + q * y := by subst hx; subst hy; grind
    have e2 : k * (r * a) + l * (r * b + s * c) = r * x + s * y := by subst hx; subst hy; grind
    rwa [e1, e2] at h3
/-- the colour -/
def fC (a b c x y : Int) : Int := fY c y * a + fX a b c x y
theorem fC_bd {n : Int} (hn : a * c = n) (x y : Int) : 0 ≤ fC a b c x y ∧ fC a b c x y < n := by
  have ⟨b1, b2⟩ := fX_bd (b := b) ha hc x y
  have ⟨b3, b4⟩ := fY_bd hc y
  unfold fC
  have e1 : 0 ≤ fY c y * a := Int.mul_nonneg b3 (by omega)
  have e2 : (fY c y + 1) * a ≤ c * a := Int.mul_le_mul_of_nonneg_right (by omega) (by omega)
  rw [Int.add_mul, Int.mul_comm c a, hn] at e2
  omega
theorem fC_iff (x y u v : Int) : fC a b c x y = fC a b c u v ↔ inL a b c (x - u) (y - v) := by
  rw [← cls_iff ha hc]
  have ⟨b1, b2⟩ := fX_bd (b := b) ha hc x y
  have ⟨b3, b4⟩ := fX_bd (b := b) ha hc u v
  unfold fC
  constructor
  · intro h
    have := eucl b1 b2 b3 b4 (t := fY c y) (u := fY c v) (by omega)
    exact ⟨this.1, this.2⟩
  · intro ⟨h1, h2⟩
    rw [h1, h2]
/-- the place of a colour -/
theorem fC_at {k : Int} (h0 : 0 ≤ k) (h1 : k < a * c) : fC a b c (k.fmod a) (k.fdiv a) = k ∧ 0 ≤ k.fdiv a ∧ k.fdiv a < c := by
  have e := Int.fmod_add_mul_fdiv k a
  have m0 := Int.fmod_nonneg_of_pos k ha
  have m1 := Int.fmod_lt_of_pos k ha
  have d0 : 0 ≤ k.fdiv a := Int.fdiv_nonneg h0 (by omega)
  have d1 : k.fdiv a < c := by
    by_cases h : k.fdiv a < c
    · exact h
    · have := Int.mul_le_mul_of_nonneg_left (Int.not_lt.mp h) (show 0 ≤ a by omega)
      omega
  have := rep_eq (b := b) (x := k.fmod a) (y := k.fdiv a) (s := 0) (t := 0) ha hc m0 m1 d0 d1 (by simp) (by simp)
  refine ⟨?_, d0, d1⟩
  unfold fC
  rw [this.1, this.2, Int.mul_comm]
  omega
theorem fC_col (x y : Int) : (fC a b c x y).fmod a = fX a b c x y ∧ (fC a b c x y).fdiv a = fY c y := by
  have ⟨b1, b2⟩ := fX_bd (b := b) ha hc x y
  have e := Int.fmod_add_mul_fdiv (fC a b c x y) a
  have m0 := Int.fmod_nonneg_of_pos (fC a b c x y) ha
  have m1 := Int.fmod_lt_of_pos (fC a b c x y) ha
  have h : (fC a b c x y).fmod a + (fC a b c x y).fdiv a * a = fX a b c x y + fY c y * a := by
    rw [Int.mul_comm] at e
    rw [e]
    unfold fC
    omega
  exact eucl m0 m1 b1 b2 h
end
end Qv

namespace Qv
open PySem PySem.Spec PyProof.Rows L2
def iOf : D → Int
  | .int i => i
  | _ => 0
theorem iOf_i {i : Int} : iOf (.int i) = i := id rfl
/-- told grows -/
theorem forB_grow {f : D → D → Option D} {G : D → List D} : ∀ {xs : List D} {acc : List D}, (∀ acc, ∀ x ∈ xs, acc.length + (G x).length ≤ 16777216 → f (.list acc) x = some (.list (acc ++ G x))) → acc.length + (xs.flatMap G).length ≤ 16777216 → forB (m := Option) f (.list acc) xs = some (.list (acc ++ xs.flatMap G))
  | [], acc, _, _ => by simp [forB]
  | x :: xs, acc, h, hz => by
    have hz' : acc.length + ((G x).length + (xs.flatMap G).length) ≤ 16777216 := by simpa [List.flatMap_cons] using hz
    show (f (.list acc) x).bind _ = _
    rw [h acc x List.mem_cons_self (by omega), o_some, forB_grow (fun acc y hy => h acc y (List.mem_cons_of_mem _ hy)) (by rw [List.length_append]; omega), List.flatMap_cons, List.append_assoc]
theorem app_l {acc : List D} {x : D} (h : acc.length + 1 ≤ 16777216) : dApp (.list acc) x = some (.list (acc ++ [x])) := if_pos (by rw [sizeLine_eq]; omega)
theorem rgL_flat {β : Type} {n : Nat} {G : D → List β} : (rgL 0 n).flatMap G = (List.range n).flatMap fun (k : Nat) => G (.int (k : Int)) := by
  unfold rgL
  rw [List.flatMap_map]
  simp
theorem rgL_map {β : Type} {n : Nat} {G : D → β} : (rgL 0 n).map G = (List.range n).map fun (k : Nat) => G (.int (k : Int)) := by
  unfold rgL
  rw [List.map_map]
  simp [Function.comp_def]
theorem rgL_z {n : Nat} : rgL 0 n = (List.range n).map fun (k : Nat) => PyData.int (k : Int) := by
  unfold rgL
  simp
theorem single_map {α β : Type} {l : List α} {f : α → β} : (l.flatMap fun x => [f x]) = l.map f := by
  induction l with
  | nil => rfl
  | cons x xs ih => rw [List.flatMap_cons, ih]; rfl
theorem flatMap_cg {α β : Type} {l : List α} {f g : α → List β} (h : ∀ x ∈ l, f x = g x) : l.flatMap f = l.flatMap g := by
  induction l with
  | nil => rfl
  | cons x xs ih => rw [List.flatMap_cons, List.flatMap_cons, h x List.mem_cons_self, ih fun y hy => h y (List.mem_cons_of_mem _ hy)]
theorem range_mul {β : Type} (a : Nat) (f : Nat → β) : ∀ c : Nat, (List.range (c * a)).map f = (List.range c).flatMap fun y => (List.range a).map fun x => f (y * a + x)
  | 0 => by simp
  | c + 1 => by
    rw [Nat.succ_mul, List.range_add, List.map_append, range_mul a f c, List.range_succ, List.flatMap_append, List.map_map]
    simp [Function.comp_def]
theorem map_int_len {l : List Int} : (l.map PyData.int).length = l.length := List.length_map ..
theorem isInts_map {l : List Int} : isInts (l.map PyData.int) = true := by
  induction l with
  | nil => rfl
  | cons x xs ih => exact ih
theorem sortOk_ints {l : List Int} : sortOk (l.map PyData.int) = true := by
  have hc : ∀ x ∈ l.map PyData.int, cls x = .i := fun x hx => by obtain ⟨i, _, rfl⟩ := List.mem_map.mp hx; rfl
  unfold sortOk
  simp only [Bool.and_eq_true, decide_eq_true_eq, List.all_eq_true]
  refine ⟨⟨?_, ?_⟩, fun x hx => ?_⟩
  · cases e : l.map PyData.int with
    | nil => rfl
    | cons x xs =>
      rw [e] at hc
      show ((cls x).ok && xs.all fun y => decide (cls y = cls x)) = true
      rw [hc x List.mem_cons_self]
      simp only [Sh.ok, Bool.true_and, List.all_eq_true, decide_eq_true_eq]
      exact fun y hy => hc y (List.mem_cons_of_mem _ hy)
  · exact Nat.le_trans (depthAll_le (n := 1) fun x hx => by obtain ⟨i, _, rfl⟩ := List.mem_map.mp hx; simp [PyData.depth]) (by decide)
  · obtain ⟨i, _, rfl⟩ := List.mem_map.mp hx; rfl
theorem anti_ints {l : List Int} : ∀ x ∈ l.map PyData.int, ∀ y ∈ l.map PyData.int, leD x y = true → leD y x = true → x = y := fun x hx y hy h1 h2 => by
  obtain ⟨i, _, rfl⟩ := List.mem_map.mp hx
  obtain ⟨j, _, rfl⟩ := List.mem_map.mp hy
  rw [leD_ints, decide_eq_true_eq] at h1 h2
  rw [Int.le_antisymm h1 h2]
/-- what is sorted stays -/
theorem srt_id {l : List D} (h : l.Pairwise fun x y => leD x y = true) : srtD leD l = l := by
  induction l with
  | nil => rfl
  | cons x xs ih =>
    rw [List.pairwise_cons] at h
    rw [srtD, ih h.2]
    cases xs with
    | nil => rfl
    | cons y ys => exact if_pos (h.1 y List.mem_cons_self)
theorem rgL_sorted {n : Nat} : (rgL 0 n).Pairwise fun x y => leD x y = true := by
  rw [rgL_z, List.pairwise_map]
  exact List.Pairwise.imp (fun {x y} h => by rw [leD_ints, decide_eq_true_eq]; omega) List.pairwise_lt_range
theorem perm_range {l : List Int} {n : Nat} (hl : l.length = n) (nd : l.Nodup) (bd : ∀ i ∈ l, 0 ≤ i ∧ i < n) : List.Perm l ((List.range n).map fun (k : Nat) => (k : Int)) := by
  have nr : ((List.range n).map fun (k : Nat) => (k : Int)).Nodup := List.nodup_range.map _ fun x y hne e => hne (by omega)
  refine (List.perm_ext_iff_of_nodup nd nr).mpr fun i => ⟨fun h => ?_, fun h => ?_⟩
  · obtain ⟨h1, h2⟩ := bd i h
    exact List.mem_map.mpr ⟨i.toNat, by rw [List.mem_range]; omega, by omega⟩
  · obtain ⟨k, hk, rfl⟩ := List.mem_map.mp h
    by_cases hm : (k : Int) ∈ l
    · exact hm
    · have h1 := nat_nodup_len (((k : Int) :: l).map Int.toNat) (List.range n) ?_ ?_
      · rw [List.length_map, List.length_cons, hl, List.length_range] at h1; omega
      · refine List.pairwise_map.mpr (List.Pairwise.imp_of_mem (fun {x y} hx hy hne e => hne ?_) (List.nodup_cons.mpr ⟨hm, nd⟩))
        have b : ∀ z ∈ (k : Int) :: l, 0 ≤ z := fun z hz => by
          rcases List.mem_cons.mp hz with rfl | hz
          · omega
          · exact (bd z hz).1
        have := b x hx
        have := b y hy
        omega
      · intro x hx
        obtain ⟨z, hz, rfl⟩ := List.mem_map.mp hx
        rw [List.mem_range]
        rcases List.mem_cons.mp hz with rfl | hz
        · rw [List.mem_range] at hk; omega
        · have := bd z hz; omega
theorem sort_range {l : List Int} {n : Nat} (hl : l.length = n) (nd : l.Nodup) (bd : ∀ i ∈ l, 0 ≤ i ∧ i < n) : srtD leD (l.map PyData.int) = rgL 0 n := by
  have p := (perm_range hl nd bd).map PyData.int
  rw [srt_perm p anti_ints, List.map_map]
  have e : ((List.range n).map (PyData.int ∘ fun (k : Nat) => (k : Int))) = rgL 0 n := by rw [rgL_z]; rfl
  rw [e]
  exact srt_id rgL_sorted
theorem allL_map {α : Type} {xs : List α} {h : α → Bool} : f1 dAllL [.list (xs.map fun x => PyData.bool (h x))] = some (.bool (xs.all h)) := by
  have e : ∀ xs : List α, dBools (xs.map fun x => PyData.bool (h x)) = some (xs.map h) := fun xs => by
    induction xs with
    | nil => rfl
    | cons x xs ih => rw [List.map_cons, dBools, ih]; rfl
  show (dBools _).map _ = _
  rw [e]
  simp [Function.comp_def]
theorem good_ints {l : List Int} {n : Nat} (h : l.length ≤ 16777216) : good (n + 2) (.tuple (l.map PyData.int)) = true ∧ good (n + 2) (.list (l.map PyData.int)) = true := by
  have : ((decide ((l.map PyData.int).length ≤ 16777216)) && (l.map PyData.int).all (good (n + 1))) = true := by
    rw [Bool.and_eq_true, decide_eq_true_eq, List.all_eq_true]
    exact ⟨by rw [List.length_map]; exact h, fun x hx => by obtain ⟨i, _, rfl⟩ := List.mem_map.mp hx; rfl⟩
  exact ⟨this, this⟩
theorem dNe_intsT {l : List Int} : dNe (.tuple (l.map PyData.int)) (.tuple (l.map PyData.int)) = some (.bool false) := dNe_self plain_ints (by
  have := depthAll_le (n := 1) (xs := l.map PyData.int) fun x hx => by obtain ⟨i, _, rfl⟩ := List.mem_map.mp hx; simp [PyData.depth]
  show PyData.depthAll _ + 1 ≤ 60
  omega) fun i e => nomatch e
theorem dNe_intsL {l : List Int} : dNe (.list (l.map PyData.int)) (.list (l.map PyData.int)) = some (.bool false) := dNe_self plain_ints (by
  have := depthAll_le (n := 1) (xs := l.map PyData.int) fun x hx => by obtain ⟨i, _, rfl⟩ := List.mem_map.mp hx; simp [PyData.depth]
  show PyData.depthAll _ + 1 ≤ 60
  omega) fun i e => nomatch e
section
variable {m : Type → Type} [PM m]
theorem sure_comp_if {it : m (List D)} {ps : List D} {i : Nat} {c : D → m Bool} {x : D → m D} {b : D → Bool} {g : D → D} (h : Sure it ps) (hz : ps.length ≤ 16777216) (hc : ∀ p ∈ ps, Sure (c p) (b p)) (hx : ∀ p ∈ ps, b p = true → Sure (x p) (g p)) : Sure (compM it (.n i) (un1 c) (un1 x)) (.list ((ps.filter b).map g)) := by
  unfold compM
  refine sure_b h (sure_b (sure_l (sizeL_some hz)) (sure_b (sure_cmp (g := fun p => if b p = true then some (g p) else none) fun p hp => ?_) ?_))
  · unfold turnM
    refine sure_b (sure_l rfl) (sure_b (hc p hp) ?_)
    by_cases e : b p = true
    · rw [if_pos e, if_pos e]; exact sure_b (hx p hp e) sure_p
    · rw [if_neg e, if_neg e]; exact sure_p
  · have e : ∀ ps : List D, ps.filterMap (fun p => if b p = true then some (g p) else none) = (ps.filter b).map g := fun ps => by
      induction ps with
      | nil => rfl
      | cons p ps ih =>
        rw [List.filterMap_cons, List.filter_cons, ih]
        by_cases e : b p = true
        · rw [if_pos e, if_pos e]; rfl
        · rw [if_neg e, if_neg e]
    rw [e]
    exact sure_p
theorem run_forO2 {α : Type} {f : α → D → m (Out α)} {K : Out α → Prop} (I : α → List D → Prop) : ∀ {xs : List D} {s : α}, I s xs → (∀ s x xs, I s (x :: xs) → PM.run (f s x) fun o => ∃ s', (o = .nx s' ∨ o = .ct s') ∧ I s' xs) → (∀ s, I s [] → K (.nx s)) → PM.run (forO f s xs) K
  | [], s, h, k, e => run_p (e s h)
  | x :: xs, s, h, k, e => by
    show PM.run (f s x >>= _) K
    refine run_b (PM.mono (fun o q => ?_) (k s x xs h))
    obtain ⟨s', rfl | rfl, i⟩ := q
    · exact run_forO2 I i k e
    · exact run_forO2 I i k e
theorem run_ifp {α : Type} {k : Bool} {x y : α} {K : α → Prop} : PM.run (if k = true then (pure x : m α) else pure y) K ↔ K (if k = true then x else y) := by
  cases k
  · rw [if_neg (by decide), if_neg (by decide), PM.run_pure]
  · rw [if_pos rfl, if_pos rfl, PM.run_pure]
theorem sure_o {x : m D} {d : D} (h : ∀ K : D → Prop, K d → PM.run x K) : Sure x d := h
end
theorem eqv_nil {l : List D} : PyData.eqv (.list l) (.list []) = l.isEmpty := by cases l <;> simp [PyData.eqv, PyData.eqvAll]
theorem dEq_nil {l : List D} (h : PyData.plainAll l = true) : dEq (.list l) (.list []) = some (.bool l.isEmpty) := by
  show (if _ then _ else _) = _
  rw [if_pos, eqv_nil]
  have e : (PyData.list l).plain = true := h
  rw [e]
  simp [PyData.plain, PyData.plainAll, PyData.depth, PyData.depthAll]
theorem rgM1_eq {n : Int} (h0 : 0 ≤ n) (h : n ≤ 16777216) : rgM1 (.int n) = some (rgL 0 n.toNat) := by
  show (if _ then _ else _) = _
  rw [if_pos (by simp only [rgOk, okR, Bool.and_eq_true, decide_eq_true_eq]; omega), Int.sub_zero]
theorem rgM2_eq {a b : Int} (h0 : -16777216 ≤ a) (h1 : a ≤ 16777216) (h2 : b ≤ 16777216) (h3 : -16777216 ≤ b) (h : (b - a).toNat ≤ 16777216) : rgM2 (.int a) (.int b) = some (rgL a (b - a).toNat) := by
  show (if _ then _ else _) = _
  rw [if_pos (by simp only [rgOk, okR, Bool.and_eq_true, decide_eq_true_eq]; omega)]
theorem eqv_pr {a b c d : Int} : PyData.eqv (.tuple [.int a, .int b]) (.tuple [.int c, .int d]) = (decide (a = c) && decide (b = d)) := by
  simp [PyData.eqv, PyData.eqvAll]
  rfl
def cmpOk (a b : D) : Bool := a.plain && b.plain && decide (min a.depth b.depth ≤ 60)
theorem dNe_t {xs : List D} {d : D} (h : cmpOk (.tuple xs) d = true) : dNe (.tuple xs) d = some (.bool (!PyData.eqv (.tuple xs) d)) := if_pos h
theorem dEq_t {xs : List D} {d : D} (h : cmpOk (.tuple xs) d = true) : dEq (.tuple xs) d = some (.bool (PyData.eqv (.tuple xs) d)) := if_pos h
theorem dNe_l {xs : List D} {d : D} (h : cmpOk (.list xs) d = true) : dNe (.list xs) d = some (.bool (!PyData.eqv (.list xs) d)) := if_pos h
theorem dEq_l {xs : List D} {d : D} (h : cmpOk (.list xs) d = true) : dEq (.list xs) d = some (.bool (PyData.eqv (.list xs) d)) := if_pos h
theorem cmp_pr {a b c d : Int} : cmpOk (.tuple [.int a, .int b]) (.tuple [.int c, .int d]) = true := by simp [cmpOk, PyData.plain, PyData.plainAll, PyData.depth, PyData.depthAll]
theorem dNe_pr {a b c d : Int} : dNe (.tuple [.int a, .int b]) (.tuple [.int c, .int d]) = some (.bool (!(decide (a = c) && decide (b = d)))) := by
  rw [dNe_t cmp_pr, eqv_pr]
theorem dEq_pr {a b c d : Int} : dEq (.tuple [.int a, .int b]) (.tuple [.int c, .int d]) = some (.bool (decide (a = c) && decide (b = d))) := by
  rw [dEq_t cmp_pr, eqv_pr]
theorem comp_mapS {it : Option (List D)} {ps : List D} {i : Nat} {x : D → Option D} {g : D → D} (h : it = some ps) (hz : ps.length ≤ 16777216) (hx : ∀ p ∈ ps, x p = some (g p)) : compM it (.n i) (fun _ => some true) (un1 x) = some (.list (ps.map g)) := comp_map h hz hx
theorem dIs_n : dIs .none .none = some (.bool true) := id rfl
theorem dIs_t {l : List D} : dIs (.tuple l) .none = some (.bool false) := id rfl
theorem dIsNot_n : dIsNot .none .none = some (.bool false) := id rfl
theorem dIsNot_t {l : List D} : dIsNot (.tuple l) .none = some (.bool true) := id rfl
theorem at_map {n : Nat} {f : Int → Int} {k : Int} (h0 : 0 ≤ k) (h1 : k < n) : atI (((List.range n).map fun (j : Nat) => f j).map PyData.int) k = some (.int (f k)) := by
  have := atI_nat (xs := ((List.range n).map fun (j : Nat) => f j).map PyData.int) (j := k.toNat) (v := .int (f k)) (by
    rw [List.getElem?_map, List.getElem?_map, List.getElem?_range (by omega)]
    show some (PyData.int (f (k.toNat : Int))) = _
    rw [Int.toNat_of_nonneg h0])
  rwa [Int.toNat_of_nonneg h0] at this
end Qv

section
set_option maxHeartbeats 4000000
namespace Qv.k88
open PySem PySem.Spec PyProof.Rows L2
def topS (i : Nat) : Stmt := PySem.Challenge.pw_ornamentwright_k88_whole_places_with_eig.main.body.getD i (.Pass ⟨0, 0, 0, 0⟩)


abbrev s_sign : Stmt := topS 3
theorem sc_sign : FnScope ["one", "a", "b"] ["one"] (defScope s_sign) := ⟨rfl, rfl, rfl, by decide +kernel, rfl, by decide +kernel, by decide +kernel⟩
def m_sign : List D → Option D := un1 fun one_0 => (((pure one_0) >>= fun p => PM.lift (Pt.flat (.t [(.n 1), (.n 2)]) p)) >>= un2 fun a_1 b_2 => (((PM.lift ((dGe a_1 (.int 0)).bind dBool)) >>= fun c => if c = true then (PM.lift ((dGe b_2 (.int 0)).bind dBool)) else pure false) >>= fun c => if c = true then (((PM.lift ((dGt a_1 (.int 0)).bind dBool)) >>= fun c => if c = true then pure true else (PM.lift ((dGt b_2 (.int 0)).bind dBool))) >>= fun k => if k = true then (pure (.int 1)) else (pure (.int 0))) else (((PM.lift ((dLe a_1 (.int 0)).bind dBool)) >>= fun c => if c = true then (PM.lift ((dLe b_2 (.int 0)).bind dBool)) else pure false) >>= fun c => if c = true then (pure (.int (-1))) else ((((PM.lift (dMul a_1 a_1)) >>= fun p => ((PM.lift (dMul (.int 2) b_2)) >>= fun p => PM.lift (dMul p b_2)) >>= fun q => PM.lift (dGt p q)) >>= fun p => (PM.lift (dGt a_1 (.int 0))) >>= fun q => PM.lift ((dEq p q).bind dBool)) >>= fun k => if k = true then (pure (.int 1)) else (pure (.int (-1)))))))
theorem ok_sign {P : Program} {w : World} {K : PySem.W.Frag} {mg : Str → Option Value} {base : Heap} {f : Addr} {fd : FuncData} (F : Fun K "sign" "sign" s_sign f fd) (h0 : mg "sign" = some (.ref f))   : FC P w K mg base 1 "sign" m_sign :=
  have nd := sc_sign.nd
  FC.mk' [] F sc_sign h0 (fun _ _ _ _ _ _ us hl => match us, hl with | [_], _ => rfl) un1_len fun cdv A outer s H E hr => len1 fun one_0 => VT.at (ρ' := [some one_0, none, none]) (VT.consP (SB.asgP (pt := (.t [(.n 1), (.n 2)])) (VH.plain (VE.var 0)) (VG.tup (VGs.cons (VG.name 1 nd) (VGs.cons (VG.name 2 nd) VGs.nil)))) flat_ln (len2 fun a_1 b_2 => VT.at (ρ' := [some one_0, some a_1, some b_2]) (VT.ifE (VP.w (VW.and (VP.cmp_pp (opGeP hr.units) okGe (VE.var 1) VE.int (nomark _)) (VW.and1 (VP.cmp_pp (opGeP hr.units) okGe (VE.var 2) VE.int (nomark _))))) (VT.ret (VE.ifx (VP.w (VW.or (VP.cmp_pp (opGtP hr.units) okGt (VE.var 1) VE.int (nomark _)) (VW.or1 (VP.cmp_pp (opGtP hr.units) okGt (VE.var 2) VE.int (nomark _))))) VE.int VE.int)) (VT.ifE (VP.w (VW.and (VP.cmp_pp (opLeP hr.units) okLe (VE.var 1) VE.int (nomark _)) (VW.and1 (VP.cmp_pp (opLeP hr.units) okLe (VE.var 2) VE.int (nomark _))))) (VT.ret VE.negc) (VT.ret (VE.ifx (VP.cmp (opEqP hr.units) okEq (VE.cmp (opGtP hr.units) okGt (VE.op_pp opMul okMul (VE.var 1) (VE.var 1)) (VE.op_xp opMul okMul (VE.op_pp opMul okMul VE.int (VE.var 2)) (VE.var 2)) (nomark _)) (VE.cmp_pp (opGtP hr.units) okGt (VE.var 1) VE.int (nomark _)) (nomark _)) VE.int VE.negc))))))

abbrev s_absolute : Stmt := topS 10
theorem sc_absolute : FnScope ["one"] ["one"] (defScope s_absolute) := ⟨rfl, rfl, rfl, by decide +kernel, rfl, by decide +kernel, by decide +kernel⟩
def m_absolute : List D → Option D := un1 fun one_0 => (((PM.lift (m_sign [one_0])) >>= fun p => PM.lift ((dGe p (.int 0)).bind dBool)) >>= fun k => if k = true then (pure one_0) else ((((PM.lift (dIx one_0 (.int 0))) >>= fun p => PM.lift (dNeg p)) >>= fun a => (((PM.lift (dIx one_0 (.int 1))) >>= fun p => PM.lift (dNeg p)) >>= fun a => pure (a :: [])) >>= fun l => pure (a :: l)) >>= fun l => pure (.tuple l)))
theorem ok_absolute {P : Program} {w : World} {K : PySem.W.Frag} {mg : Str → Option Value} {base : Heap} {f : Addr} {fd : FuncData} (F : Fun K "absolute" "absolute" s_absolute f fd) (h0 : mg "absolute" = some (.ref f))  (c_sign : FC P w K mg base 1 "sign" m_sign) : FC P w K mg base 2 "absolute" m_absolute :=
  have nd := sc_absolute.nd
  FC.mk' [] F sc_absolute h0 (fun _ _ _ _ _ _ us hl => match us, hl with | [_], _ => rfl) un1_len fun cdv A outer s H E hr => len1 fun one_0 => VT.at (ρ' := [some one_0]) (VT.ret (VE.ifx (VP.cmp_xp (opGeP hr.units) okGe (VE.call_p (FC.mono c_sign (by decide : 1 ≤ 1)) hr (VA.consC (VE.var 0) VA.nil)) VE.int (nomark _)) (VE.var 0) (VE.tup (VA.cons (VE.un un_neg okNeg (VE.ix_pp hr.units (VE.var 0) VE.int)) (VA.cons_xp (VE.un un_neg okNeg (VE.ix_pp hr.units (VE.var 0) VE.int)) VA.nil)))))

abbrev s_is_less : Stmt := topS 4
theorem sc_is_less : FnScope ["one", "other"] ["one", "other"] (defScope s_is_less) := ⟨rfl, rfl, rfl, by decide +kernel, rfl, by decide +kernel, by decide +kernel⟩
def m_is_less : List D → Option D := un2 fun one_0 other_0 => (((((((PM.lift (dIx other_0 (.int 0))) >>= fun p => (PM.lift (dIx one_0 (.int 0))) >>= fun q => PM.lift (dSub p q)) >>= fun a => (((PM.lift (dIx other_0 (.int 1))) >>= fun p => (PM.lift (dIx one_0 (.int 1))) >>= fun q => PM.lift (dSub p q)) >>= fun a => pure (a :: [])) >>= fun l => pure (a :: l)) >>= fun l => pure (.tuple l)) >>= fun a => pure (a :: [])) >>= fun l => PM.lift (m_sign l)) >>= fun p => PM.lift (dGt p (.int 0)))
theorem ok_is_less {P : Program} {w : World} {K : PySem.W.Frag} {mg : Str → Option Value} {base : Heap} {f : Addr} {fd : FuncData} (F : Fun K "is_less" "is_less" s_is_less f fd) (h0 : mg "is_less" = some (.ref f))  (c_sign : FC P w K mg base 1 "sign" m_sign) : FC P w K mg base 2 "is_less" m_is_less :=
  have nd := sc_is_less.nd
  FC.mk' [] F sc_is_less h0 (fun _ _ _ _ _ _ us hl => match us, hl with | [_, _], _ => rfl) un2_len fun cdv A outer s H E hr => len2 fun one_0 other_0 => VT.at (ρ' := [some one_0, some other_0]) (VT.ret (VE.cmp_xp (opGtP hr.units) okGt (VE.call (FC.mono c_sign (by decide : 1 ≤ 1)) hr (VA.cons_xp (VE.tup (VA.cons (VE.op op_sub okSub (VE.ix_pp hr.units (VE.var 1) VE.int) (VE.ix_pp hr.units (VE.var 0) VE.int)) (VA.cons_xp (VE.op op_sub okSub (VE.ix_pp hr.units (VE.var 1) VE.int) (VE.ix_pp hr.units (VE.var 0) VE.int)) VA.nil))) VA.nil)) VE.int (nomark _)))

abbrev s_times : Stmt := topS 2
theorem sc_times : FnScope ["one", "other"] ["one", "other"] (defScope s_times) := ⟨rfl, rfl, rfl, by decide +kernel, rfl, by decide +kernel, by decide +kernel⟩
def m_times : List D → Option D := un2 fun one_0 other_0 => (((((PM.lift (dIx one_0 (.int 0))) >>= fun p => (PM.lift (dIx other_0 (.int 0))) >>= fun q => PM.lift (dMul p q)) >>= fun p => (((PM.lift (dIx one_0 (.int 1))) >>= fun q => PM.lift (dMul (.int 2) q)) >>= fun p => (PM.lift (dIx other_0 (.int 1))) >>= fun q => PM.lift (dMul p q)) >>= fun q => PM.lift (dAdd p q)) >>= fun a => ((((PM.lift (dIx one_0 (.int 0))) >>= fun p => (PM.lift (dIx other_0 (.int 1))) >>= fun q => PM.lift (dMul p q)) >>= fun p => ((PM.lift (dIx one_0 (.int 1))) >>= fun p => (PM.lift (dIx other_0 (.int 0))) >>= fun q => PM.lift (dMul p q)) >>= fun q => PM.lift (dAdd p q)) >>= fun a => pure (a :: [])) >>= fun l => pure (a :: l)) >>= fun l => pure (.tuple l))
theorem ok_times {P : Program} {w : World} {K : PySem.W.Frag} {mg : Str → Option Value} {base : Heap} {f : Addr} {fd : FuncData} (F : Fun K "times" "times" s_times f fd) (h0 : mg "times" = some (.ref f))   : FC P w K mg base 1 "times" m_times :=
  have nd := sc_times.nd
  FC.mk' [] F sc_times h0 (fun _ _ _ _ _ _ us hl => match us, hl with | [_, _], _ => rfl) un2_len fun cdv A outer s H E hr => len2 fun one_0 other_0 => VT.at (ρ' := [some one_0, some other_0]) (VT.ret (VE.tup (VA.cons (VE.op opAdd okAdd (VE.op opMul okMul (VE.ix_pp hr.units (VE.var 0) VE.int) (VE.ix_pp hr.units (VE.var 1) VE.int)) (VE.op opMul okMul (VE.op_px opMul okMul VE.int (VE.ix_pp hr.units (VE.var 0) VE.int)) (VE.ix_pp hr.units (VE.var 1) VE.int))) (VA.cons_xp (VE.op opAdd okAdd (VE.op opMul okMul (VE.ix_pp hr.units (VE.var 0) VE.int) (VE.ix_pp hr.units (VE.var 1) VE.int)) (VE.op opMul okMul (VE.ix_pp hr.units (VE.var 0) VE.int) (VE.ix_pp hr.units (VE.var 1) VE.int))) VA.nil))))

abbrev s_plus : Stmt := topS 1
theorem sc_plus : FnScope ["one", "other"] ["one", "other"] (defScope s_plus) := ⟨rfl, rfl, rfl, by decide +kernel, rfl, by decide +kernel, by decide +kernel⟩
def m_plus : List D → Option D := un2 fun one_0 other_0 => ((((PM.lift (dIx one_0 (.int 0))) >>= fun p => (PM.lift (dIx other_0 (.int 0))) >>= fun q => PM.lift (dAdd p q)) >>= fun a => (((PM.lift (dIx one_0 (.int 1))) >>= fun p => (PM.lift (dIx other_0 (.int 1))) >>= fun q => PM.lift (dAdd p q)) >>= fun a => pure (a :: [])) >>= fun l => pure (a :: l)) >>= fun l => pure (.tuple l))
theorem ok_plus {P : Program} {w : World} {K : PySem.W.Frag} {mg : Str → Option Value} {base : Heap} {f : Addr} {fd : FuncData} (F : Fun K "plus" "plus" s_plus f fd) (h0 : mg "plus" = some (.ref f))   : FC P w K mg base 1 "plus" m_plus :=
  have nd := sc_plus.nd
  FC.mk' [] F sc_plus h0 (fun _ _ _ _ _ _ us hl => match us, hl with | [_, _], _ => rfl) un2_len fun cdv A outer s H E hr => len2 fun one_0 other_0 => VT.at (ρ' := [some one_0, some other_0]) (VT.ret (VE.tup (VA.cons (VE.op opAdd okAdd (VE.ix_pp hr.units (VE.var 0) VE.int) (VE.ix_pp hr.units (VE.var 1) VE.int)) (VA.cons_xp (VE.op opAdd okAdd (VE.ix_pp hr.units (VE.var 0) VE.int) (VE.ix_pp hr.units (VE.var 1) VE.int)) VA.nil))))

abbrev s_in_octagon : Stmt := topS 9
theorem sc_in_octagon : FnScope ["place", "wide", "x", "y"] ["place", "wide"] (defScope s_in_octagon) := ⟨rfl, rfl, rfl, by decide +kernel, rfl, by decide +kernel, by decide +kernel⟩
def m_in_octagon : List D → Option D := un2 fun place_0 wide_0 => (((((PM.lift (dIx place_0 (.int 0))) >>= fun a => pure (a :: [])) >>= fun l => PM.lift (m_absolute l)) >>= fun a => ((((PM.lift (dIx place_0 (.int 1))) >>= fun a => pure (a :: [])) >>= fun l => PM.lift (m_absolute l)) >>= fun a => pure (a :: [])) >>= fun l => pure (a :: l)) >>= un2 fun x_1 y_2 => ((((PM.lift (m_is_less [wide_0, x_1])) >>= fun p => PM.lift (dTruth p)) >>= fun c => if c = true then pure true else ((PM.lift (m_is_less [wide_0, y_2])) >>= fun p => PM.lift (dTruth p))) >>= fun c => if c = true then (pure (.bool false)) else ((((PM.lift (m_times [(.tuple [(.int 0), (.int 1)]), wide_0])) >>= fun a => ((PM.lift (m_plus [x_1, y_2])) >>= fun a => pure (a :: [])) >>= fun l => pure (a :: l)) >>= fun l => PM.lift (m_is_less l)) >>= fun p => PM.lift (dTruth p) >>= fun k => pure (.bool (!k)))))
theorem ok_in_octagon {P : Program} {w : World} {K : PySem.W.Frag} {mg : Str → Option Value} {base : Heap} {f : Addr} {fd : FuncData} (F : Fun K "in_octagon" "in_octagon" s_in_octagon f fd) (h0 : mg "in_octagon" = some (.ref f))  (c_absolute : FC P w K mg base 2 "absolute" m_absolute) (c_is_less : FC P w K mg base 2 "is_less" m_is_less) (c_plus : FC P w K mg base 1 "plus" m_plus) (c_times : FC P w K mg base 1 "times" m_times) : FC P w K mg base 3 "in_octagon" m_in_octagon :=
  have nd := sc_in_octagon.nd
  FC.mk' [] F sc_in_octagon h0 (fun _ _ _ _ _ _ us hl => match us, hl with | [_, _], _ => rfl) un2_len fun cdv A outer s H E hr => len2 fun place_0 wide_0 => VT.at (ρ' := [some place_0, some wide_0, none, none]) (VT.consA (E := (fun l => rPuts [some place_0, some wide_0, none, none] [2, 3] l)) (fun h => SB.par2 (i := 2) (j := 3) h (fun _ _ => rfl) nd) (VA.cons (VE.call (FC.mono c_absolute (by decide : 2 ≤ 2)) hr (VA.cons_xp (VE.ix_pp hr.units (VE.var 0) VE.int) VA.nil)) (VA.cons_xp (VE.call (FC.mono c_absolute (by decide : 2 ≤ 2)) hr (VA.cons_xp (VE.ix_pp hr.units (VE.var 0) VE.int) VA.nil)) VA.nil)) (len2 fun x_1 y_2 => VT.at (ρ' := [some place_0, some wide_0, some x_1, some y_2]) (VT.ifE (VP.w (VW.or (VP.tru (VE.call_p (FC.mono c_is_less (by decide : 2 ≤ 2)) hr (VA.consC (VE.var 1) (VA.consC (VE.var 2) VA.nil)))) (VW.or1 (VP.tru (VE.call_p (FC.mono c_is_less (by decide : 2 ≤ 2)) hr (VA.consC (VE.var 1) (VA.consC (VE.var 3) VA.nil))))))) (VT.ret VE.bl) (VT.ret (VE.not (VE.call (FC.mono c_is_less (by decide : 2 ≤ 2)) hr (VA.cons (VE.call_p (FC.mono c_times (by decide : 1 ≤ 2)) hr (VA.consC (VE.tupC (VA.consC VE.int (VA.consC VE.int VA.nil))) (VA.consC (VE.var 1) VA.nil))) (VA.cons_xp (VE.call_p (FC.mono c_plus (by decide : 1 ≤ 2)) hr (VA.consC (VE.var 2) (VA.consC (VE.var 3) VA.nil))) VA.nil))))))))

abbrev s_eight_way : Stmt := topS 5
theorem sc_eight_way : FnScope ["at", "row"] ["at"] (defScope s_eight_way) := ⟨rfl, rfl, rfl, by decide +kernel, rfl, by decide +kernel, by decide +kernel⟩
def m_eight_way : List D → Option D := un1 fun at_0 => ((((PM.lift (dMod at_0 (.int 8))) >>= fun q => PM.lift (dIx (.tuple [(.tuple [(.int 2), (.int 0)]), (.tuple [(.int 0), (.int 1)]), (.tuple [(.int 0), (.int 0)]), (.tuple [(.int 0), (.int (-1))]), (.tuple [(.int (-2)), (.int 0)]), (.tuple [(.int 0), (.int (-1))]), (.tuple [(.int 0), (.int 0)]), (.tuple [(.int 0), (.int 1)])]) q)) >>= fun a => ((((PM.lift (dSub at_0 (.int 2))) >>= fun p => PM.lift (dMod p (.int 8))) >>= fun q => PM.lift (dIx (.tuple [(.tuple [(.int 2), (.int 0)]), (.tuple [(.int 0), (.int 1)]), (.tuple [(.int 0), (.int 0)]), (.tuple [(.int 0), (.int (-1))]), (.tuple [(.int (-2)), (.int 0)]), (.tuple [(.int 0), (.int (-1))]), (.tuple [(.int 0), (.int 0)]), (.tuple [(.int 0), (.int 1)])]) q)) >>= fun a => pure (a :: [])) >>= fun l => pure (a :: l)) >>= fun l => pure (.tuple l))
theorem ok_eight_way {P : Program} {w : World} {K : PySem.W.Frag} {mg : Str → Option Value} {base : Heap} {f : Addr} {fd : FuncData} (F : Fun K "eight_way" "eight_way" s_eight_way f fd) (h0 : mg "eight_way" = some (.ref f))   : FC P w K mg base 1 "eight_way" m_eight_way :=
  have nd := sc_eight_way.nd
  FC.mk' [] F sc_eight_way h0 (fun _ _ _ _ _ _ us hl => match us, hl with | [_], _ => rfl) un1_len fun cdv A outer s H E hr => len1 fun at_0 => VT.at (ρ' := [some at_0, none]) (VT.consV (SB.asg (E := (fun a => [some at_0, some a])) (i := 1) (VH.plain (VE.tupC (VA.consC (VE.tupC (VA.consC VE.int (VA.consC VE.int VA.nil))) (VA.consC (VE.tupC (VA.consC VE.int (VA.consC VE.int VA.nil))) (VA.consC (VE.tupC (VA.consC VE.int (VA.consC VE.int VA.nil))) (VA.consC (VE.tupC (VA.consC VE.int (VA.consC VE.negc VA.nil))) (VA.consC (VE.tupC (VA.consC VE.negc (VA.consC VE.int VA.nil))) (VA.consC (VE.tupC (VA.consC VE.int (VA.consC VE.negc VA.nil))) (VA.consC (VE.tupC (VA.consC VE.int (VA.consC VE.int VA.nil))) (VA.consC (VE.tupC (VA.consC VE.int (VA.consC VE.int VA.nil))) VA.nil)))))))))) (fun _ => rfl) nd) (VT.ret (VE.tup (VA.cons (VE.ix_px hr.units (VE.var 1) (VE.op_pp op_modN okMod (VE.var 0) VE.int)) (VA.cons_xp (VE.ix_px hr.units (VE.var 1) (VE.op_xp op_modN okMod (VE.op_pp op_sub okSub (VE.var 0) VE.int) VE.int)) VA.nil)))))

abbrev s_hidden_place : Stmt := topS 7
theorem sc_hidden_place : FnScope ["four", "told", "at", "many", "x", "y"] ["four"] (defScope s_hidden_place) := ⟨rfl, rfl, rfl, by decide +kernel, rfl, by decide +kernel, by decide +kernel⟩
def m_hidden_place : List D → Option D := un1 fun four_0 => ((((pure [four_0]) >>= fun l => PM.lift (enumA l)) >>= fun ps => forB (fun (s_1 : D) p => PM.lift (Pt.flat (.t [(.n 2), (.n 3)]) p) >>= un2 fun at_2 many_3 => (((((PM.lift (dMul (.int 3) at_2)) >>= fun a => pure (a :: [])) >>= fun l => PM.lift (m_eight_way l)) >>= fun p => PM.lift (Pt.flat (.t [(.n 4), (.n 5)]) p)) >>= un2 fun x_4 y_5 => ((((((PM.lift (dIx s_1 (.int 0))) >>= fun a => ((PM.lift (m_times [(.tuple [many_3, (.int 0)]), x_4])) >>= fun a => pure (a :: [])) >>= fun l => pure (a :: l)) >>= fun l => PM.lift (m_plus l)) >>= fun a => ((((PM.lift (dIx s_1 (.int 1))) >>= fun a => ((PM.lift (m_times [(.tuple [many_3, (.int 0)]), y_5])) >>= fun a => pure (a :: [])) >>= fun l => pure (a :: l)) >>= fun l => PM.lift (m_plus l)) >>= fun a => pure (a :: [])) >>= fun l => pure (a :: l)) >>= fun l => pure (.tuple l)) >>= fun told_6 => pure told_6))) (.tuple [(.tuple [(.int 0), (.int 0)]), (.tuple [(.int 0), (.int 0)])]) ps) >>= fun (s_1 : D) => (pure s_1))
theorem ok_hidden_place {P : Program} {w : World} {K : PySem.W.Frag} {mg : Str → Option Value} {base : Heap} {f : Addr} {fd : FuncData} (F : Fun K "hidden_place" "hidden_place" s_hidden_place f fd) (h0 : mg "hidden_place" = some (.ref f)) (z_enumerate : mg "enumerate" = none) (c_eight_way : FC P w K mg base 1 "eight_way" m_eight_way) (c_plus : FC P w K mg base 1 "plus" m_plus) (c_times : FC P w K mg base 1 "times" m_times) : FC P w K mg base 2 "hidden_place" m_hidden_place :=
  have nd := sc_hidden_place.nd
  FC.mk' [] F sc_hidden_place h0 (fun _ _ _ _ _ _ us hl => match us, hl with | [_], _ => rfl) un1_len fun cdv A outer s H E hr => len1 fun four_0 => VT.at (ρ' := [some four_0, none, none, none, none, none]) (VT.consV (SB.asg (E := (fun a => [some four_0, some a, none, none, none, none])) (i := 1) (VH.plain (VE.tupC (VA.consC (VE.tupC (VA.consC VE.int (VA.consC VE.int VA.nil))) (VA.consC (VE.tupC (VA.consC VE.int (VA.consC VE.int VA.nil))) VA.nil)))) (fun _ => rfl) nd) (VT.cons (E := (fun (s_1 : D) => [some four_0, some s_1, none, none, none, none])) (SB.for (pt := (.t [(.n 2), (.n 3)])) (E := (fun (s_1 : D) => [some four_0, some s_1, none, none, none, none])) (a0 := (.tuple [(.tuple [(.int 0), (.int 0)]), (.tuple [(.int 0), (.int 0)])])) (VIH.hid (VI.enumA z_enumerate (VA.consC (VE.var 0) VA.nil))) (VG.tup (VGs.cons (VG.name 2 nd) (VGs.cons (VG.name 3 nd) VGs.nil))) turnP (.cs (.cs (.cs (.cs (.cs (.cs .nil)))))) (fun s_1 => len2 fun at_2 many_3 => (VB.at (ρ' := [some four_0, some s_1, some at_2, some many_3, none, none]) (VB.consP (SB.asgP (pt := (.t [(.n 4), (.n 5)])) (VH.plain (VE.call (FC.mono c_eight_way (by decide : 1 ≤ 1)) hr (VA.cons_xp (VE.op_pp opMul okMul VE.int (VE.var 2)) VA.nil))) (VG.tup (VGs.cons (VG.name 4 nd) (VGs.cons (VG.name 5 nd) VGs.nil)))) flat_ln (len2 fun x_4 y_5 => VB.at (ρ' := [some four_0, some s_1, some at_2, some many_3, some x_4, some y_5]) (VB.cons (SB.asg (E := (fun told_6 => [some four_0, some told_6, some at_2, some many_3, some x_4, some y_5])) (i := 1) (VH.plain (VE.tup (VA.cons (VE.call (FC.mono c_plus (by decide : 1 ≤ 1)) hr (VA.cons (VE.ix_pp hr.units (VE.var 1) VE.int) (VA.cons_xp (VE.call_p (FC.mono c_times (by decide : 1 ≤ 1)) hr (VA.consC (VE.tupC (VA.consC (VE.var 3) (VA.consC VE.int VA.nil))) (VA.consC (VE.var 4) VA.nil))) VA.nil))) (VA.cons_xp (VE.call (FC.mono c_plus (by decide : 1 ≤ 1)) hr (VA.cons (VE.ix_pp hr.units (VE.var 1) VE.int) (VA.cons_xp (VE.call_p (FC.mono c_times (by decide : 1 ≤ 1)) hr (VA.consC (VE.tupC (VA.consC (VE.var 3) (VA.consC VE.int VA.nil))) (VA.consC (VE.var 5) VA.nil))) VA.nil))) VA.nil)))) (fun _ => rfl) nd) fun told_6 => (VB.nil (a := told_6) (.cs (.cs (.cn (.cn (.cn (.cn .nil))))))))))))) fun s_1 => (VT.ret (VE.var 1))))

abbrev s_chosen_places : Stmt := topS 11
theorem sc_chosen_places : FnScope ["most", "wide", "side", "rows", "_", "row", "one"] ["most", "wide"] (defScope s_chosen_places) := ⟨rfl, rfl, rfl, by decide +kernel, rfl, by decide +kernel, by decide +kernel⟩
def m_chosen_places : List D → Option D := un2 fun most_0 wide_0 => (((PM.lift (dNeg most_0)) >>= fun p => (PM.lift (dAdd most_0 (.int 1))) >>= fun q => PM.lift ((rgM2 p q).map .list)) >>= fun side_1 => (((PM.lift (rng1L [(.int 4)])) >>= fun ps => forB (fun (s_2 : D) u_3 => ((comp2M (PM.lift (dIter s_2)) (.n 5) (.n 6) (fun _ => pure true) (un1 fun row_4 => (PM.lift (dIter side_1))) (fun _ _ => pure true) (unl1 fun row_4 => un1 fun one_5 => (PM.lift (dAdd row_4 (.tuple [one_5]))))) >>= fun rows_6 => pure rows_6)) (.list [(.tuple [])]) ps) >>= fun (s_2 : D) => (compM (PM.lift (dIter s_2)) (.n 5) (un1 fun row_7 => ((((PM.lift (m_hidden_place [row_7])) >>= fun a => pure (a :: [wide_0])) >>= fun l => PM.lift (m_in_octagon l)) >>= fun p => PM.lift (dTruth p))) (un1 fun row_7 => (pure row_7)))))
theorem ok_chosen_places {P : Program} {w : World} {K : PySem.W.Frag} {mg : Str → Option Value} {base : Heap} {f : Addr} {fd : FuncData} (F : Fun K "chosen_places" "chosen_places" s_chosen_places f fd) (h0 : mg "chosen_places" = some (.ref f)) (z_list : mg "list" = none) (z_range : mg "range" = none) (c_hidden_place : FC P w K mg base 2 "hidden_place" m_hidden_place) (c_in_octagon : FC P w K mg base 3 "in_octagon" m_in_octagon) : FC P w K mg base 4 "chosen_places" m_chosen_places :=
  have nd := sc_chosen_places.nd
  FC.mk' [] F sc_chosen_places h0 (fun _ _ _ _ _ _ us hl => match us, hl with | [_, _], _ => rfl) un2_len fun cdv A outer s H E hr => len2 fun most_0 wide_0 => VT.at (ρ' := [some most_0, some wide_0, none, none, none, none, none]) (VT.cons (SB.asg (E := (fun side_1 => [some most_0, some wide_0, some side_1, none, none, none, none])) (i := 2) (VH.plain (VN.ve (VN.listR2 z_list z_range (VE.un_p un_neg okNeg (VE.var 0)) (VE.op_pp opAdd okAdd (VE.var 0) VE.int)))) (fun _ => rfl) nd) fun side_1 => (VT.consV (SB.asg (E := (fun a => [some most_0, some wide_0, some side_1, some a, none, none, none])) (i := 3) (VH.plain (VE.lstC (VA.consC (VE.tupC VA.nil) VA.nil))) (fun _ => rfl) nd) (VT.cons (E := (fun (s_2 : D) => [some most_0, some wide_0, some side_1, some s_2, none, none, none])) (SB.for (pt := (.n 4)) (E := (fun (s_2 : D) => [some most_0, some wide_0, some side_1, some s_2, none, none, none])) (a0 := (.list [(.tuple [])])) (VIH.range1_p z_range (VA.consC VE.int VA.nil)) (VG.name 4 nd) turn1 (.cs (.cs (.cs (.cs (.cs (.cs (.cs .nil))))))) (fun s_2 => len1 fun u_3 => (VB.at (ρ' := [some most_0, some wide_0, some side_1, some s_2, some u_3, none, none]) (VB.cons (SB.scH (E := (fun rows_6 => [some most_0, some wide_0, some side_1, some rows_6, some u_3, none, none])) (SC.c2 (i := 3) nd (own := [("row", 5), ("one", 6)]) (VI.any_p (VE.var 3)) (by rfl) (fun _ _ _ _ _ => (VG.name 5 nd)) (fun _ _ _ _ _ _ _ => VT_.nil) (fun _ _ _ _ _ => len1 fun row_4 => VI.at (ρ' := [some most_0, some wide_0, some side_1, some s_2, some u_3, some row_4, none]) (VI.any_p (VE.var 2))) (fun _ _ _ _ _ => (VG.name 6 nd)) (fun _ _ _ _ _ _ _ _ _ => VT_.nil) (fun _ _ _ _ _ => lenl1_1 fun row_4 one_5 => VE.at (ρ' := [some most_0, some wide_0, some side_1, some s_2, some u_3, some row_4, some one_5]) (VE.op_pp opAdd okAdd (VE.var 5) (VE.tupC (VA.consC (VE.var 6) VA.nil))))) (fun _ => rfl)) fun rows_6 => (VB.nil (a := rows_6) (.cs (.cs (.cs (.cs (.cn (.cs (.cs .nil)))))))))))) fun s_2 => (VT.ret (VN.ve (VN.comp nd (own := [("row", 5)]) (VI.any_p (VE.var 3)) (by rfl) (fun _ _ _ _ _ => (VG.name 5 nd)) (fun _ _ _ _ _ => len1 fun row_7 => VT_.at (ρ' := [some most_0, some wide_0, some side_1, some s_2, none, some row_7, none]) (VT_.one (VP.tru (VE.call (FC.mono c_in_octagon (by decide : 3 ≤ 3)) hr (VA.cons_xp (VE.call_p (FC.mono c_hidden_place (by decide : 2 ≤ 3)) hr (VA.consC (VE.var 5) VA.nil)) (VA.consC (VE.var 1) VA.nil)))))) (fun _ _ _ _ _ => len1 fun row_7 => VE.at (ρ' := [some most_0, some wide_0, some side_1, some s_2, none, some row_7, none]) (VE.var 5))))))))

abbrev s_law_eighth : Stmt := topS 20
theorem sc_law_eighth : FnScope ["at", "rows"] ["at"] (defScope s_law_eighth) := ⟨rfl, rfl, rfl, by decide +kernel, rfl, by decide +kernel, by decide +kernel⟩
def m_law_eighth : List D → Option D := un1 fun at_0 => (((PM.lift ((f1 dInt) [at_0])) >>= fun p => PM.lift (dMod p (.int 8))) >>= fun q => PM.lift (dIx (.list [(.tuple [(.tuple [(.int 2), (.int 0)]), (.tuple [(.int 0), (.int 0)])]), (.tuple [(.tuple [(.int 0), (.int 1)]), (.tuple [(.int 0), (.int 1)])]), (.tuple [(.tuple [(.int 0), (.int 0)]), (.tuple [(.int 2), (.int 0)])]), (.tuple [(.tuple [(.int 0), (.int (-1))]), (.tuple [(.int 0), (.int 1)])]), (.tuple [(.tuple [(.int (-2)), (.int 0)]), (.tuple [(.int 0), (.int 0)])]), (.tuple [(.tuple [(.int 0), (.int (-1))]), (.tuple [(.int 0), (.int (-1))])]), (.tuple [(.tuple [(.int 0), (.int 0)]), (.tuple [(.int (-2)), (.int 0)])]), (.tuple [(.tuple [(.int 0), (.int 1)]), (.tuple [(.int 0), (.int (-1))])])]) q))
theorem ok_law_eighth {P : Program} {w : World} {K : PySem.W.Frag} {mg : Str → Option Value} {base : Heap} {f : Addr} {fd : FuncData} (F : Fun K "_law_eighth" "_law_eighth" s_law_eighth f fd) (h0 : mg "_law_eighth" = some (.ref f)) (z_int : mg "int" = none)  : FC P w K mg base 1 "_law_eighth" m_law_eighth :=
  have nd := sc_law_eighth.nd
  FC.mk' [] F sc_law_eighth h0 (fun _ _ _ _ _ _ us hl => match us, hl with | [_], _ => rfl) un1_len fun cdv A outer s H E hr => len1 fun at_0 => VT.at (ρ' := [some at_0, none]) (VT.consV (SB.asg (E := (fun a => [some at_0, some a])) (i := 1) (VH.plain (VE.lstC (VA.consC (VE.tupC (VA.consC (VE.tupC (VA.consC VE.int (VA.consC VE.int VA.nil))) (VA.consC (VE.tupC (VA.consC VE.int (VA.consC VE.int VA.nil))) VA.nil))) (VA.consC (VE.tupC (VA.consC (VE.tupC (VA.consC VE.int (VA.consC VE.int VA.nil))) (VA.consC (VE.tupC (VA.consC VE.int (VA.consC VE.int VA.nil))) VA.nil))) (VA.consC (VE.tupC (VA.consC (VE.tupC (VA.consC VE.int (VA.consC VE.int VA.nil))) (VA.consC (VE.tupC (VA.consC VE.int (VA.consC VE.int VA.nil))) VA.nil))) (VA.consC (VE.tupC (VA.consC (VE.tupC (VA.consC VE.int (VA.consC VE.negc VA.nil))) (VA.consC (VE.tupC (VA.consC VE.int (VA.consC VE.int VA.nil))) VA.nil))) (VA.consC (VE.tupC (VA.consC (VE.tupC (VA.consC VE.negc (VA.consC VE.int VA.nil))) (VA.consC (VE.tupC (VA.consC VE.int (VA.consC VE.int VA.nil))) VA.nil))) (VA.consC (VE.tupC (VA.consC (VE.tupC (VA.consC VE.int (VA.consC VE.negc VA.nil))) (VA.consC (VE.tupC (VA.consC VE.int (VA.consC VE.negc VA.nil))) VA.nil))) (VA.consC (VE.tupC (VA.consC (VE.tupC (VA.consC VE.int (VA.consC VE.int VA.nil))) (VA.consC (VE.tupC (VA.consC VE.negc (VA.consC VE.int VA.nil))) VA.nil))) (VA.consC (VE.tupC (VA.consC (VE.tupC (VA.consC VE.int (VA.consC VE.int VA.nil))) (VA.consC (VE.tupC (VA.consC VE.int (VA.consC VE.negc VA.nil))) VA.nil))) VA.nil)))))))))) (fun _ => rfl) nd) (VT.ret (VE.ix_px hr.units (VE.var 1) (VE.op_xp op_modN okMod (VE.ty_p call_int1 okInt z_int boot_int (VA.consC (VE.var 0) VA.nil)) VE.int))))

abbrev s_law_place : Stmt := topS 21
theorem sc_law_place : FnScope ["four", "by", "x", "y", "j", "a", "b"] ["four", "by"] (defScope s_law_place) := ⟨rfl, rfl, rfl, by decide +kernel, rfl, by decide +kernel, by decide +kernel⟩
def m_law_place : List D → Option D := un2 fun four_0 by_0 => (((PM.lift (rng1L [(.int 4)])) >>= fun ps => forB (fun (s_1 : D × D) j_2 => (((((PM.lift (dMul by_0 j_2)) >>= fun a => pure (a :: [])) >>= fun l => PM.lift (m_law_eighth l)) >>= fun p => PM.lift (Pt.flat (.t [(.n 5), (.n 6)]) p)) >>= un2 fun a_3 b_4 => ((((((PM.lift (dIx s_1.1 (.int 0))) >>= fun p => ((PM.lift (dIx four_0 j_2)) >>= fun p => (PM.lift (dIx a_3 (.int 0))) >>= fun q => PM.lift (dMul p q)) >>= fun q => PM.lift (dAdd p q)) >>= fun a => (((PM.lift (dIx s_1.1 (.int 1))) >>= fun p => ((PM.lift (dIx four_0 j_2)) >>= fun p => (PM.lift (dIx a_3 (.int 1))) >>= fun q => PM.lift (dMul p q)) >>= fun q => PM.lift (dAdd p q)) >>= fun a => pure (a :: [])) >>= fun l => pure (a :: l)) >>= fun l => pure (.tuple l)) >>= fun a => (((((PM.lift (dIx s_1.2 (.int 0))) >>= fun p => ((PM.lift (dIx four_0 j_2)) >>= fun p => (PM.lift (dIx b_4 (.int 0))) >>= fun q => PM.lift (dMul p q)) >>= fun q => PM.lift (dAdd p q)) >>= fun a => (((PM.lift (dIx s_1.2 (.int 1))) >>= fun p => ((PM.lift (dIx four_0 j_2)) >>= fun p => (PM.lift (dIx b_4 (.int 1))) >>= fun q => PM.lift (dMul p q)) >>= fun q => PM.lift (dAdd p q)) >>= fun a => pure (a :: [])) >>= fun l => pure (a :: l)) >>= fun l => pure (.tuple l)) >>= fun a => pure (a :: [])) >>= fun l => pure (a :: l)) >>= un2 fun x_5 y_6 => pure (x_5, y_6)))) ((.tuple [(.int 0), (.int 0)]), (.tuple [(.int 0), (.int 0)])) ps) >>= fun (s_1 : D × D) => (pure (.tuple [s_1.1, s_1.2])))
theorem ok_law_place {P : Program} {w : World} {K : PySem.W.Frag} {mg : Str → Option Value} {base : Heap} {f : Addr} {fd : FuncData} (F : Fun K "_law_place" "_law_place" s_law_place f fd) (h0 : mg "_law_place" = some (.ref f)) (z_range : mg "range" = none) (c_law_eighth : FC P w K mg base 1 "_law_eighth" m_law_eighth) : FC P w K mg base 2 "_law_place" m_law_place :=
  have nd := sc_law_place.nd
  FC.mk' [] F sc_law_place h0 (fun _ _ _ _ _ _ us hl => match us, hl with | [_, _], _ => rfl) un2_len fun cdv A outer s H E hr => len2 fun four_0 by_0 => VT.at (ρ' := [some four_0, some by_0, none, none, none, none, none]) (VT.consL (E := (fun l => rPuts [some four_0, some by_0, none, none, none, none, none] [2, 3] l)) (l := [(.tuple [(.int 0), (.int 0)]), (.tuple [(.int 0), (.int 0)])]) (SB.asgPV (pt := (.t [(.n 2), (.n 3)])) (VH.plain (VE.tupC (VA.consC (VE.tupC (VA.consC VE.int (VA.consC VE.int VA.nil))) (VA.consC (VE.tupC (VA.consC VE.int (VA.consC VE.int VA.nil))) VA.nil)))) (VG.tup (VGs.cons (VG.name 2 nd) (VGs.cons (VG.name 3 nd) VGs.nil))) (fun _ => rfl)) (VT.at (ρ' := [some four_0, some by_0, some (.tuple [(.int 0), (.int 0)]), some (.tuple [(.int 0), (.int 0)]), none, none, none]) (VT.cons (E := (fun (s_1 : D × D) => [some four_0, some by_0, some s_1.1, some s_1.2, none, none, none])) (SB.for (pt := (.n 4)) (E := (fun (s_1 : D × D) => [some four_0, some by_0, some s_1.1, some s_1.2, none, none, none])) (a0 := ((.tuple [(.int 0), (.int 0)]), (.tuple [(.int 0), (.int 0)]))) (VIH.range1_p z_range (VA.consC VE.int VA.nil)) (VG.name 4 nd) turn1 (.cs (.cs (.cs (.cs (.cs (.cs (.cs .nil))))))) (fun s_1 => len1 fun j_2 => (VB.at (ρ' := [some four_0, some by_0, some s_1.1, some s_1.2, some j_2, none, none]) (VB.consP (SB.asgP (pt := (.t [(.n 5), (.n 6)])) (VH.plain (VE.call (FC.mono c_law_eighth (by decide : 1 ≤ 1)) hr (VA.cons_xp (VE.op_pp opMul okMul (VE.var 1) (VE.var 4)) VA.nil))) (VG.tup (VGs.cons (VG.name 5 nd) (VGs.cons (VG.name 6 nd) VGs.nil)))) flat_ln (len2 fun a_3 b_4 => VB.at (ρ' := [some four_0, some by_0, some s_1.1, some s_1.2, some j_2, some a_3, some b_4]) (VB.consA (E := (fun l => rPuts [some four_0, some by_0, some s_1.1, some s_1.2, some j_2, some a_3, some b_4] [2, 3] l)) (fun h => SB.par2 (i := 2) (j := 3) h (fun _ _ => rfl) nd) (VA.cons (VE.tup (VA.cons (VE.op opAdd okAdd (VE.ix_pp hr.units (VE.var 2) VE.int) (VE.op opMul okMul (VE.ix_pp hr.units (VE.var 0) (VE.var 4)) (VE.ix_pp hr.units (VE.var 5) VE.int))) (VA.cons_xp (VE.op opAdd okAdd (VE.ix_pp hr.units (VE.var 2) VE.int) (VE.op opMul okMul (VE.ix_pp hr.units (VE.var 0) (VE.var 4)) (VE.ix_pp hr.units (VE.var 5) VE.int))) VA.nil))) (VA.cons_xp (VE.tup (VA.cons (VE.op opAdd okAdd (VE.ix_pp hr.units (VE.var 3) VE.int) (VE.op opMul okMul (VE.ix_pp hr.units (VE.var 0) (VE.var 4)) (VE.ix_pp hr.units (VE.var 6) VE.int))) (VA.cons_xp (VE.op opAdd okAdd (VE.ix_pp hr.units (VE.var 3) VE.int) (VE.op opMul okMul (VE.ix_pp hr.units (VE.var 0) (VE.var 4)) (VE.ix_pp hr.units (VE.var 6) VE.int))) VA.nil))) VA.nil)) (len2 fun x_5 y_6 => VB.at (ρ' := [some four_0, some by_0, some x_5, some y_6, some j_2, some a_3, some b_4]) (VB.nil (a := (x_5, y_6)) (.cs (.cs (.cs (.cs (.cn (.cn (.cn .nil))))))))))))))) fun s_1 => (VT.ret (VE.tupC (VA.consC (VE.var 2) (VA.consC (VE.var 3) VA.nil)))))))

abbrev s_law_exact : Stmt := topS 16
theorem sc_law_exact : FnScope ["first", "second", "k", "alike"] ["first", "second"] (defScope s_law_exact) := ⟨rfl, rfl, rfl, by decide +kernel, rfl, by decide +kernel, by decide +kernel⟩
theorem st_law_exact {P : Program} {w : World} {K : PySem.W.Frag} {mg : Str → Option Value} {base : Heap} {f : Addr} {fd : FuncData} (F : Fun K "_law_exact" "_law_exact" s_law_exact f fd) (h0 : mg "_law_exact" = some (.ref f)) (z_all : mg "all" = none) (z_bool : mg "bool" = none) (z_int : mg "int" = none) (z_isinstance : mg "isinstance" = none) (z_len : mg "len" = none) (z_list : mg "list" = none) (z_range : mg "range" = none) (z_str : mg "str" = none) (z_tuple : mg "tuple" = none)  {k n : Nat} (c_self : FC P w K mg base k "_law_exact" (m_law_exact n)) : FC P w K mg base (k + 1) "_law_exact" (m_law_exact (n + 1)) :=
  have nd := sc_law_exact.nd
  FC.mk' [] F sc_law_exact h0 (fun _ _ _ _ _ _ us hl => match us, hl with | [_, _], _ => rfl) un2_len fun cdv A outer s H E hr => len2 fun first_0 second_0 => VT.at (ρ' := [some first_0, some second_0, none, none]) (VT.ifE (VP.tru (VE.isi2_p z_isinstance z_list z_tuple (VE.var 0))) (VT.ifE (VP.w (VW.or (VP.cmp (opNeP hr.units) okNe (VE.isi_p cr_isList z_isinstance z_list boot_list (VE.var 0)) (VE.isi_p cr_isList z_isinstance z_list boot_list (VE.var 1)) (nomark _)) (VW.or1 (VP.cmp (opNeP hr.units) okNe (VE.isi_p cr_isTuple z_isinstance z_tuple boot_tuple (VE.var 0)) (VE.isi_p cr_isTuple z_isinstance z_tuple boot_tuple (VE.var 1)) (nomark _))))) (VT.ret VE.bl) (VT.ret (VE.and (VE.cmp (opEqP hr.units) okEq (VE.bi_p call_len okLen z_len boot_len (VA.consC (VE.var 0) VA.nil)) (VE.bi_p call_len okLen z_len boot_len (VA.consC (VE.var 1) VA.nil)) (nomark _)) (VE.one (VE.bi (cr_all rfl) okAllL z_all boot_all (VA.cons_xp (VN.ve (VN.comp nd (own := [("k", 2)]) (VI.range1 z_range (VA.cons_xp (VE.bi_p call_len okLen z_len boot_len (VA.consC (VE.var 0) VA.nil)) VA.nil)) (by rfl) (fun _ _ _ _ _ => (VG.name 2 nd)) (fun _ _ _ _ _ _ _ => VT_.nil) (fun _ _ _ _ _ => len1 fun k_1 => VE.at (ρ' := [some first_0, some second_0, some k_1, none]) (VE.call c_self hr (VA.cons (VE.ix_pp hr.units (VE.var 0) (VE.var 2)) (VA.cons_xp (VE.ix_pp hr.units (VE.var 1) (VE.var 2)) VA.nil)))))) VA.nil)))))) (VT.ifE (VP.w (VW.or (VP.cmp_pp op_isN okIs (VE.var 0) VE.non (nomark _)) (VW.or1 (VP.cmp_pp op_isN okIs (VE.var 1) VE.non (nomark _))))) (VT.ret (VE.and (VE.cmp_pp op_isN okIs (VE.var 0) VE.non (nomark _)) (VE.one (VE.cmp_pp op_isN okIs (VE.var 1) VE.non (nomark _))))) (VT.cons (SB.asg (E := (fun alike_2 => [some first_0, some second_0, none, some alike_2])) (i := 3) (VH.plain (VE.and (VE.cmp (opEqP hr.units) okEq (VE.isi_p cr_isStr z_isinstance z_str boot_str (VE.var 0)) (VE.isi_p cr_isStr z_isinstance z_str boot_str (VE.var 1)) (nomark _)) (VE.one (VE.cmp (opEqP hr.units) okEq (VE.isi_p cr_isBool z_isinstance z_bool boot_bool (VE.var 0)) (VE.isi_p cr_isBool z_isinstance z_bool boot_bool (VE.var 1)) (nomark _))))) (fun _ => rfl) nd) fun alike_2 => (VT.ret (VE.and (VE.var 3) (VE.and (VE.cmp (opEqP hr.units) okEq (VE.isi_p cr_isInt z_isinstance z_int boot_int (VE.var 0)) (VE.isi_p cr_isInt z_isinstance z_int boot_int (VE.var 1)) (nomark _)) (VE.one (VE.cmp_pp (opEqP hr.units) okEq (VE.var 0) (VE.var 1) (nomark _)))))))))
theorem ok_law_exact {P : Program} {w : World} {K : PySem.W.Frag} {mg : Str → Option Value} {base : Heap} {f : Addr} {fd : FuncData} (F : Fun K "_law_exact" "_law_exact" s_law_exact f fd) (h0 : mg "_law_exact" = some (.ref f)) (z_all : mg "all" = none) (z_bool : mg "bool" = none) (z_int : mg "int" = none) (z_isinstance : mg "isinstance" = none) (z_len : mg "len" = none) (z_list : mg "list" = none) (z_range : mg "range" = none) (z_str : mg "str" = none) (z_tuple : mg "tuple" = none)  : FC P w K mg base 9 "_law_exact" (m_law_exact 8) := by
  have go : ∀ n, FC P w K mg base (n + 1) "_law_exact" (m_law_exact n) := fun n => by
    induction n with
    | zero => exact FC.zero F sc_law_exact h0 (fun _ _ _ _ _ _ us hl => match us, hl with | [_, _], _ => rfl)
    | succ n ih => exact st_law_exact F h0 z_all z_bool z_int z_isinstance z_len z_list z_range z_str z_tuple ih
  exact go 8


abbrev s_law_refill : Stmt := topS 14
theorem sc_law_refill : FnScope ["script", "k", "cell"] ["script", "k"] (defScope s_law_refill) := ⟨rfl, rfl, rfl, by decide +kernel, rfl, by decide +kernel, by decide +kernel⟩
abbrev s_law_draw : Stmt := topS 15
theorem sc_law_draw : FnScope ["state", "script", "size", "digit"] ["state", "script", "size"] (defScope s_law_draw) := ⟨rfl, rfl, rfl, by decide +kernel, rfl, by decide +kernel, by decide +kernel⟩
section
variable {P : Program} {w : World} {K : PySem.W.Frag} {mg : Str → Option Value} {base : Heap}
theorem ok_law_refill {f : Addr} {fd : FuncData} (F : Fun K "_law_refill" "_law_refill" s_law_refill f fd) (z_len : mg "len" = none) (z_int : mg "int" = none) : FnOk P w K mg base CX0 1 f fd ["script", "k"] (spRefill K) :=
  have nd := sc_law_refill.nd
  F.ok sc_law_refill (fun vs H Q E h => by obtain ⟨a, ns, k, rfl, _⟩ := h; rfl) fun cdv A outer s H vs Q E hr h => by
    obtain ⟨a, ns, k, rfl, hs, hk, q⟩ := h
    refine ⟨_, pss_cons (ps_set (i := 2) nd rfl (.inl rfl) pe_int)
      (pss_cons (ps_if (pt_truth (pv 0) (fun _ => rfl)) (pss_one (ps_set (i := 2) nd rfl (.inl rfl) (pe_ix ix_list (pv 0) (pe_op op_mod (pv 1) (pe_callB call_len (by rfl) z_len boot_len (pa_cons (pv 0) pa_nil))) (fun _ _ => rfl)))) pss_nil)
      (pss_cons (ps_if (pt_cmp (pc_lt (pv 2) pe_int)) (pss_one (ps_set (i := 2) nd rfl (.inl rfl) (pe_op op_sub pe_int (pe_op op_mul pe_int (pv 2))))) pss_nil)
      (pss_cons (ps_if (pw_and (pt_cmp (pc_ge (pv 2) (pe_op op_pow pe_int pe_int))) (pw_and1 (pt_cmp (pc_lt (pv 1) (pe_callB call_len (by rfl) z_len boot_len (pa_cons (pv 0) pa_nil)))))).pt (pss_one (ps_ret (pv 2))) pss_nil)
      (pss_one (ps_ret (pe_op op_mod (pe_callTy call_int1 (by rfl) z_int boot_int (pa_cons (pe_op op_add (pe_op op_mul (pe_callTy call_int1 (by rfl) z_int boot_int (pa_cons (pe_op op_add (pe_op op_add (pe_op op_mul (pv 2) pe_int) (pe_op op_mul (pv 1) pe_int)) pe_int) pa_nil)) pe_int) pe_int) pa_nil)) pe_int)))))), ?_⟩
    exact refill_run hs hk q
theorem ok_law_draw {f fr : Addr} {fd fdr : FuncData} (F : Fun K "_law_draw" "_law_draw" s_law_draw f fd) (FR : Fun K "_law_refill" "_law_refill" s_law_refill fr fdr) (h0 : mg "_law_draw" = some (.ref f)) (h1 : mg "_law_refill" = some (.ref fr)) (z_len : mg "len" = none) (z_int : mg "int" = none) : FC P w K mg base 2 "_law_draw" drawC :=
  have nd := sc_law_draw.nd
  have GR : FnOk P w K mg base CX0 1 fr fdr ["script", "k"] (spRefill K) := ok_law_refill FR z_len z_int
  have bR := FR.binds (ps := ["script", "k"]) fun _ _ _ _ _ _ us hl => match us, hl with | [_, _], _ => rfl
  ⟨f, fd, ["state", "script", "size"], F.ok sc_law_draw (fun vs H Q E h => by obtain ⟨T, A, n, k, v, rfl, _⟩ := draw_pre h; rfl) (fun cdv A outer s H vs Q E hr h => by
    obtain ⟨T, A, n, k, v, rfl, w, h1', hn, hn2, hk, hv, hs, hscr, q⟩ := draw_pre h
    refine ⟨_, pss_cons (ps_if (pt_cmp (pc_eqI (pe_ix ix_list (pv 0) pe_int (fun _ _ => rfl)) pe_int))
        (pss_cons (ps_asg (pe_call GR hr (by rfl) h1 FR.kp bR .nil pass0 (pa_cons (pv 1) (pa_cons (pe_ix ix_list (pv 0) pe_int (fun _ _ => rfl)) pa_nil))) (pg_sub (pv 0) pe_int set_list (by intro _; rfl)))
        (pss_one (ps_asg (pe_op op_add (pe_ix ix_list (pv 0) pe_int (fun _ _ => rfl)) pe_int) (pg_sub (pv 0) pe_int set_list (by intro _; rfl))))) pss_nil)
      (pss_cons (ps_set (i := 3) nd rfl (.inl rfl) (pe_op op_mod (pe_callTy call_int1 (by rfl) z_int boot_int (pa_cons (pe_ix ix_list (pv 0) pe_int (fun _ _ => rfl)) pa_nil)) (pv 2)))
      (pss_cons (ps_asg (pe_op opDiv (pe_ix ix_list (pv 0) pe_int (fun _ _ => rfl)) (pv 2)) (pg_sub (pv 0) pe_int set_list (by intro _; rfl)))
      (pss_one (ps_ret (pv 3))))), ?_⟩
    exact draw_run hs hscr hn (by omega) hk hv q), h0, F.kp, F.binds fun _ _ _ _ _ _ us hl => match us, hl with | [_, _, _], _ => rfl⟩
end


abbrev s_law_round : Stmt := topS 22
theorem sc_law_round : FnScope ["place", "x", "y"] ["place"] (defScope s_law_round) := ⟨rfl, rfl, rfl, by decide +kernel, rfl, by decide +kernel, by decide +kernel⟩
def m_law_round : List D → Option D := un1 fun place_0 => (((pure place_0) >>= fun p => PM.lift (Pt.flat (.t [(.n 1), (.n 2)]) p)) >>= un2 fun x_1 y_2 => ((((((PM.lift (dIx x_1 (.int 0))) >>= fun p => (PM.lift (dIx y_2 (.int 0))) >>= fun q => PM.lift (dSub p q)) >>= fun a => (((PM.lift (dIx x_1 (.int 1))) >>= fun p => (PM.lift (dIx y_2 (.int 1))) >>= fun q => PM.lift (dSub p q)) >>= fun a => pure (a :: [])) >>= fun l => pure (a :: l)) >>= fun l => pure (.tuple l)) >>= fun a => (((((PM.lift (dIx x_1 (.int 0))) >>= fun p => (PM.lift (dIx y_2 (.int 0))) >>= fun q => PM.lift (dAdd p q)) >>= fun a => (((PM.lift (dIx x_1 (.int 1))) >>= fun p => (PM.lift (dIx y_2 (.int 1))) >>= fun q => PM.lift (dAdd p q)) >>= fun a => pure (a :: [])) >>= fun l => pure (a :: l)) >>= fun l => pure (.tuple l)) >>= fun a => pure (a :: [])) >>= fun l => pure (a :: l)) >>= fun l => pure (.tuple l)))
theorem ok_law_round {P : Program} {w : World} {K : PySem.W.Frag} {mg : Str → Option Value} {base : Heap} {f : Addr} {fd : FuncData} (F : Fun K "_law_round" "_law_round" s_law_round f fd) (h0 : mg "_law_round" = some (.ref f))   : FC P w K mg base 1 "_law_round" m_law_round :=
  have nd := sc_law_round.nd
  FC.mk' [] F sc_law_round h0 (fun _ _ _ _ _ _ us hl => match us, hl with | [_], _ => rfl) un1_len fun cdv A outer s H E hr => len1 fun place_0 => VT.at (ρ' := [some place_0, none, none]) (VT.consP (SB.asgP (pt := (.t [(.n 1), (.n 2)])) (VH.plain (VE.var 0)) (VG.tup (VGs.cons (VG.name 1 nd) (VGs.cons (VG.name 2 nd) VGs.nil)))) flat_ln (len2 fun x_1 y_2 => VT.at (ρ' := [some place_0, some x_1, some y_2]) (VT.ret (VE.tup (VA.cons (VE.tup (VA.cons (VE.op op_sub okSub (VE.ix_pp hr.units (VE.var 1) VE.int) (VE.ix_pp hr.units (VE.var 2) VE.int)) (VA.cons_xp (VE.op op_sub okSub (VE.ix_pp hr.units (VE.var 1) VE.int) (VE.ix_pp hr.units (VE.var 2) VE.int)) VA.nil))) (VA.cons_xp (VE.tup (VA.cons (VE.op opAdd okAdd (VE.ix_pp hr.units (VE.var 1) VE.int) (VE.ix_pp hr.units (VE.var 2) VE.int)) (VA.cons_xp (VE.op opAdd okAdd (VE.ix_pp hr.units (VE.var 1) VE.int) (VE.ix_pp hr.units (VE.var 2) VE.int)) VA.nil))) VA.nil))))))

abbrev s_ties_of : Stmt := topS 12
theorem sc_ties_of : FnScope ["rows", "book", "at", "row", "told", "place", "other", "one_at", "one"] ["rows"] (defScope s_ties_of) := ⟨rfl, rfl, rfl, by decide +kernel, rfl, by decide +kernel, by decide +kernel⟩
def m_ties_of : List D → Option D := un1 fun rows_0 => ((compDM ((pure [rows_0]) >>= fun l => PM.lift (enumA l)) (.t [(.n 2), (.n 3)]) (fun _ => pure true) (un2 fun at_1 row_2 => (pure row_2)) (un2 fun at_1 row_2 => (pure at_1))) >>= fun book_3 => ((((pure [rows_0]) >>= fun l => PM.lift (enumA l)) >>= fun ps => forB (fun (s_4 : D) p => PM.lift (Pt.flat (.t [(.n 2), (.n 3)]) p) >>= un2 fun at_5 row_6 => (((PM.lift (rng1L [(.int 4)])) >>= fun ps => forB (fun (s_7 : D) place_8 => ((((compM ((pure [row_6]) >>= fun l => PM.lift (enumA l)) (.t [(.n 7), (.n 8)]) (fun _ => pure true) (un2 fun one_at_9 one_10 => ((((PM.lift (dEq one_at_9 place_8)) >>= fun a => pure (a :: [])) >>= fun l => PM.lift ((f1 dInt) l)) >>= fun q => PM.lift (dAdd one_10 q)))) >>= fun a => pure (a :: [])) >>= fun l => PM.lift ((f1 dTuple) l)) >>= fun other_11 => ((((PM.lift ((dIn other_11 book_3).bind dBool)) >>= fun c => if c = true then ((((((PM.lift (dIx book_3 other_11)) >>= fun a => pure (a :: [])) >>= fun l => pure (at_5 :: l)) >>= fun l => pure (.tuple l)) >>= fun p => PM.lift (dApp s_7 p)) >>= fun told_13 => pure told_13) else pure s_7) : Option (D)) >>= fun s_12 => pure s_12))) s_4 ps) >>= fun (s_7 : D) => pure s_7)) (.list []) ps) >>= fun (s_4 : D) => (PM.lift ((f1 dSorted) [s_4]))))
theorem ok_ties_of {P : Program} {w : World} {K : PySem.W.Frag} {mg : Str → Option Value} {base : Heap} {f : Addr} {fd : FuncData} (F : Fun K "ties_of" "ties_of" s_ties_of f fd) (h0 : mg "ties_of" = some (.ref f)) (z_enumerate : mg "enumerate" = none) (z_int : mg "int" = none) (z_range : mg "range" = none) (z_sorted : mg "sorted" = none) (z_tuple : mg "tuple" = none)  : FC P w K mg base 1 "ties_of" m_ties_of :=
  have nd := sc_ties_of.nd
  FC.mk' [] F sc_ties_of h0 (fun _ _ _ _ _ _ us hl => match us, hl with | [_], _ => rfl) un1_len fun cdv A outer s H E hr => len1 fun rows_0 => VT.at (ρ' := [some rows_0, none, none, none, none, none, none, none, none]) (VT.cons (SB.scH (E := (fun book_3 => [some rows_0, some book_3, none, none, none, none, none, none, none])) (SC.d1 (i := 1) (own := [("at", 2), ("row", 3)]) hr.units nd (VI.enumA z_enumerate (VA.consC (VE.var 0) VA.nil)) (by rfl) (fun _ _ _ _ _ => (VG.tup (VGs.cons (VG.name 2 nd) (VGs.cons (VG.name 3 nd) VGs.nil)))) (fun _ _ _ _ _ _ _ => VT_.nil) (fun _ _ _ _ _ => len2 fun at_1 row_2 => VE.at (ρ' := [some rows_0, none, some at_1, some row_2, none, none, none, none, none]) (VE.var 3)) (fun _ _ _ _ _ => len2 fun at_1 row_2 => VE.at (ρ' := [some rows_0, none, some at_1, some row_2, none, none, none, none, none]) (VE.var 2))) (fun _ => rfl)) fun book_3 => (VT.kind (Γ' := [.sh, .sh, .sh, .sh, .ow, .sh, .sh, .sh, .sh]) 4 (VT.consV (SB.own (E := (fun a => [some rows_0, some book_3, none, none, some a, none, none, none, none])) (i := 4) (VNH.hid (VN.lstC VA.nil)) (fun _ => rfl) nd) (VT.cons (E := (fun (s_4 : D) => [some rows_0, some book_3, none, none, some s_4, none, none, none, none])) (SB.for (pt := (.t [(.n 2), (.n 3)])) (E := (fun (s_4 : D) => [some rows_0, some book_3, none, none, some s_4, none, none, none, none])) (a0 := (.list [])) (VIH.hid (VI.enumA z_enumerate (VA.consC (VE.var 0) VA.nil))) (VG.tup (VGs.cons (VG.name 2 nd) (VGs.cons (VG.name 3 nd) VGs.nil))) turnP (.cs (.cs (.cs (.cs (.cs (.cs (.cs (.cs (.cs .nil))))))))) (fun s_4 => len2 fun at_5 row_6 => (VB.at (ρ' := [some rows_0, some book_3, some at_5, some row_6, some s_4, none, none, none, none]) (VB.cons (E := (fun (s_7 : D) => [some rows_0, some book_3, some at_5, some row_6, some s_7, none, none, none, none])) (SB.for (pt := (.n 5)) (E := (fun (s_7 : D) => [some rows_0, some book_3, some at_5, some row_6, some s_7, none, none, none, none])) (a0 := s_4) (VIH.range1_p z_range (VA.consC VE.int VA.nil)) (VG.name 5 nd) turn1 (.cs (.cs (.cs (.cs (.cs (.cs (.cs (.cs (.cs .nil))))))))) (fun s_7 => len1 fun place_8 => (VB.at (ρ' := [some rows_0, some book_3, some at_5, some row_6, some s_7, some place_8, none, none, none]) (VB.cons (SB.asg (E := (fun other_11 => [some rows_0, some book_3, some at_5, some row_6, some s_7, some place_8, some other_11, none, none])) (i := 6) (VH.hid (VE.ty call_tuple_of okTuple z_tuple boot_tuple (VA.cons_xp (VN.ve (VN.comp nd (own := [("one_at", 7), ("one", 8)]) (VI.enumA z_enumerate (VA.consC (VE.var 3) VA.nil)) (by rfl) (fun _ _ _ _ _ => (VG.tup (VGs.cons (VG.name 7 nd) (VGs.cons (VG.name 8 nd) VGs.nil)))) (fun _ _ _ _ _ _ _ => VT_.nil) (fun _ _ _ _ _ => len2 fun one_at_9 one_10 => VE.at (ρ' := [some rows_0, some book_3, some at_5, some row_6, none, some place_8, none, some one_at_9, some one_10]) (VE.op_px opAdd okAdd (VE.var 8) (VE.ty call_int1 okInt z_int boot_int (VA.cons_xp (VE.cmp_pp (opEqP hr.units) okEq (VE.var 7) (VE.var 5) (nomark _)) VA.nil)))))) VA.nil))) (fun _ => rfl) nd) fun other_11 => (VB.cons (E := (fun (s_12 : D) => [some rows_0, some book_3, some at_5, some row_6, some s_12, some place_8, some other_11, none, none])) (SB.ite (VP.cmp_pp (opInP hr.units) okIn (VE.var 6) (VE.var 1) (by rfl)) (VB.cons (SB.app (i := 4) (E := (fun told_13 => [some rows_0, some book_3, some at_5, some row_6, some told_13, some place_8, some other_11, none, none])) (VH.hid (VE.tup (VA.cons_px (VE.var 2) (VA.cons_xp (VE.ix_pp hr.units (VE.var 1) (VE.var 6)) VA.nil)))) rfl (fun _ => rfl)) fun told_13 => (VB.nil (a := told_13) (.cs (.cs (.cs (.cs (.cs (.cs (.cs (.cs (.cs .nil))))))))))) (VB.nil (a := s_7) (.cs (.cs (.cs (.cs (.cs (.cs (.cs (.cs (.cs .nil))))))))))) fun s_12 => (VB.nil (a := s_12) (.cs (.cs (.cs (.cs (.cs (.cn (.cn (.cs (.cs .nil))))))))))))))) fun s_7 => (VB.nil (a := s_7) (.cs (.cs (.cn (.cn (.cs (.cs (.cs (.cs (.cs .nil)))))))))))))) fun s_4 => (VT.ret (VE.bi_p (cr_sortY hr.units) okSorted z_sorted boot_sorted (VA.consC (VE.var 4) VA.nil)))))))

abbrev s_law_root_times : Stmt := topS 19
theorem sc_law_root_times : FnScope ["one", "other"] ["one", "other"] (defScope s_law_root_times) := ⟨rfl, rfl, rfl, by decide +kernel, rfl, by decide +kernel, by decide +kernel⟩
def m_law_root_times : List D → Option D := un2 fun one_0 other_0 => (((((PM.lift (dIx one_0 (.int 0))) >>= fun p => (PM.lift (dIx other_0 (.int 0))) >>= fun q => PM.lift (dMul p q)) >>= fun p => (((PM.lift (dIx one_0 (.int 1))) >>= fun q => PM.lift (dMul (.int 2) q)) >>= fun p => (PM.lift (dIx other_0 (.int 1))) >>= fun q => PM.lift (dMul p q)) >>= fun q => PM.lift (dAdd p q)) >>= fun a => ((((PM.lift (dIx one_0 (.int 0))) >>= fun p => (PM.lift (dIx other_0 (.int 1))) >>= fun q => PM.lift (dMul p q)) >>= fun p => ((PM.lift (dIx one_0 (.int 1))) >>= fun p => (PM.lift (dIx other_0 (.int 0))) >>= fun q => PM.lift (dMul p q)) >>= fun q => PM.lift (dAdd p q)) >>= fun a => pure (a :: [])) >>= fun l => pure (a :: l)) >>= fun l => pure (.tuple l))
theorem ok_law_root_times {P : Program} {w : World} {K : PySem.W.Frag} {mg : Str → Option Value} {base : Heap} {f : Addr} {fd : FuncData} (F : Fun K "_law_root_times" "_law_root_times" s_law_root_times f fd) (h0 : mg "_law_root_times" = some (.ref f))   : FC P w K mg base 1 "_law_root_times" m_law_root_times :=
  have nd := sc_law_root_times.nd
  FC.mk' [] F sc_law_root_times h0 (fun _ _ _ _ _ _ us hl => match us, hl with | [_, _], _ => rfl) un2_len fun cdv A outer s H E hr => len2 fun one_0 other_0 => VT.at (ρ' := [some one_0, some other_0]) (VT.ret (VE.tup (VA.cons (VE.op opAdd okAdd (VE.op opMul okMul (VE.ix_pp hr.units (VE.var 0) VE.int) (VE.ix_pp hr.units (VE.var 1) VE.int)) (VE.op opMul okMul (VE.op_px opMul okMul VE.int (VE.ix_pp hr.units (VE.var 0) VE.int)) (VE.ix_pp hr.units (VE.var 1) VE.int))) (VA.cons_xp (VE.op opAdd okAdd (VE.op opMul okMul (VE.ix_pp hr.units (VE.var 0) VE.int) (VE.ix_pp hr.units (VE.var 1) VE.int)) (VE.op opMul okMul (VE.ix_pp hr.units (VE.var 0) VE.int) (VE.ix_pp hr.units (VE.var 1) VE.int))) VA.nil))))

abbrev s_place_of : Stmt := topS 6
theorem sc_place_of : FnScope ["four", "told", "at", "many", "x", "y"] ["four"] (defScope s_place_of) := ⟨rfl, rfl, rfl, by decide +kernel, rfl, by decide +kernel, by decide +kernel⟩
def m_place_of : List D → Option D := un1 fun four_0 => ((((pure [four_0]) >>= fun l => PM.lift (enumA l)) >>= fun ps => forB (fun (s_1 : D) p => PM.lift (Pt.flat (.t [(.n 2), (.n 3)]) p) >>= un2 fun at_2 many_3 => (((PM.lift (m_eight_way [at_2])) >>= fun p => PM.lift (Pt.flat (.t [(.n 4), (.n 5)]) p)) >>= un2 fun x_4 y_5 => ((((((PM.lift (dIx s_1 (.int 0))) >>= fun a => ((PM.lift (m_times [(.tuple [many_3, (.int 0)]), x_4])) >>= fun a => pure (a :: [])) >>= fun l => pure (a :: l)) >>= fun l => PM.lift (m_plus l)) >>= fun a => ((((PM.lift (dIx s_1 (.int 1))) >>= fun a => ((PM.lift (m_times [(.tuple [many_3, (.int 0)]), y_5])) >>= fun a => pure (a :: [])) >>= fun l => pure (a :: l)) >>= fun l => PM.lift (m_plus l)) >>= fun a => pure (a :: [])) >>= fun l => pure (a :: l)) >>= fun l => pure (.tuple l)) >>= fun told_6 => pure told_6))) (.tuple [(.tuple [(.int 0), (.int 0)]), (.tuple [(.int 0), (.int 0)])]) ps) >>= fun (s_1 : D) => (pure s_1))
theorem ok_place_of {P : Program} {w : World} {K : PySem.W.Frag} {mg : Str → Option Value} {base : Heap} {f : Addr} {fd : FuncData} (F : Fun K "place_of" "place_of" s_place_of f fd) (h0 : mg "place_of" = some (.ref f)) (z_enumerate : mg "enumerate" = none) (c_eight_way : FC P w K mg base 1 "eight_way" m_eight_way) (c_plus : FC P w K mg base 1 "plus" m_plus) (c_times : FC P w K mg base 1 "times" m_times) : FC P w K mg base 2 "place_of" m_place_of :=
  have nd := sc_place_of.nd
  FC.mk' [] F sc_place_of h0 (fun _ _ _ _ _ _ us hl => match us, hl with | [_], _ => rfl) un1_len fun cdv A outer s H E hr => len1 fun four_0 => VT.at (ρ' := [some four_0, none, none, none, none, none]) (VT.consV (SB.asg (E := (fun a => [some four_0, some a, none, none, none, none])) (i := 1) (VH.plain (VE.tupC (VA.consC (VE.tupC (VA.consC VE.int (VA.consC VE.int VA.nil))) (VA.consC (VE.tupC (VA.consC VE.int (VA.consC VE.int VA.nil))) VA.nil)))) (fun _ => rfl) nd) (VT.cons (E := (fun (s_1 : D) => [some four_0, some s_1, none, none, none, none])) (SB.for (pt := (.t [(.n 2), (.n 3)])) (E := (fun (s_1 : D) => [some four_0, some s_1, none, none, none, none])) (a0 := (.tuple [(.tuple [(.int 0), (.int 0)]), (.tuple [(.int 0), (.int 0)])])) (VIH.hid (VI.enumA z_enumerate (VA.consC (VE.var 0) VA.nil))) (VG.tup (VGs.cons (VG.name 2 nd) (VGs.cons (VG.name 3 nd) VGs.nil))) turnP (.cs (.cs (.cs (.cs (.cs (.cs .nil)))))) (fun s_1 => len2 fun at_2 many_3 => (VB.at (ρ' := [some four_0, some s_1, some at_2, some many_3, none, none]) (VB.consP (SB.asgP (pt := (.t [(.n 4), (.n 5)])) (VH.plain (VE.call_p (FC.mono c_eight_way (by decide : 1 ≤ 1)) hr (VA.consC (VE.var 2) VA.nil))) (VG.tup (VGs.cons (VG.name 4 nd) (VGs.cons (VG.name 5 nd) VGs.nil)))) flat_ln (len2 fun x_4 y_5 => VB.at (ρ' := [some four_0, some s_1, some at_2, some many_3, some x_4, some y_5]) (VB.cons (SB.asg (E := (fun told_6 => [some four_0, some told_6, some at_2, some many_3, some x_4, some y_5])) (i := 1) (VH.plain (VE.tup (VA.cons (VE.call (FC.mono c_plus (by decide : 1 ≤ 1)) hr (VA.cons (VE.ix_pp hr.units (VE.var 1) VE.int) (VA.cons_xp (VE.call_p (FC.mono c_times (by decide : 1 ≤ 1)) hr (VA.consC (VE.tupC (VA.consC (VE.var 3) (VA.consC VE.int VA.nil))) (VA.consC (VE.var 4) VA.nil))) VA.nil))) (VA.cons_xp (VE.call (FC.mono c_plus (by decide : 1 ≤ 1)) hr (VA.cons (VE.ix_pp hr.units (VE.var 1) VE.int) (VA.cons_xp (VE.call_p (FC.mono c_times (by decide : 1 ≤ 1)) hr (VA.consC (VE.tupC (VA.consC (VE.var 3) (VA.consC VE.int VA.nil))) (VA.consC (VE.var 5) VA.nil))) VA.nil))) VA.nil)))) (fun _ => rfl) nd) fun told_6 => (VB.nil (a := told_6) (.cs (.cs (.cn (.cn (.cn (.cn .nil))))))))))))) fun s_1 => (VT.ret (VE.var 1))))

abbrev s_turned : Stmt := topS 8
theorem sc_turned : FnScope ["four", "a", "b", "c", "d"] ["four"] (defScope s_turned) := ⟨rfl, rfl, rfl, by decide +kernel, rfl, by decide +kernel, by decide +kernel⟩
def m_turned : List D → Option D := un1 fun four_0 => (((pure four_0) >>= fun p => PM.lift (Pt.flat (.t [(.n 1), (.n 2), (.n 3), (.n 4)]) p)) >>= un4 fun a_1 b_2 c_3 d_4 => (((PM.lift (dNeg d_4)) >>= fun a => pure (a :: [a_1, b_2, c_3])) >>= fun l => pure (.tuple l)))
theorem ok_turned {P : Program} {w : World} {K : PySem.W.Frag} {mg : Str → Option Value} {base : Heap} {f : Addr} {fd : FuncData} (F : Fun K "turned" "turned" s_turned f fd) (h0 : mg "turned" = some (.ref f))   : FC P w K mg base 1 "turned" m_turned :=
  have nd := sc_turned.nd
  FC.mk' [] F sc_turned h0 (fun _ _ _ _ _ _ us hl => match us, hl with | [_], _ => rfl) un1_len fun cdv A outer s H E hr => len1 fun four_0 => VT.at (ρ' := [some four_0, none, none, none, none]) (VT.consP (SB.asgP (pt := (.t [(.n 1), (.n 2), (.n 3), (.n 4)])) (VH.plain (VE.var 0)) (VG.tup (VGs.cons (VG.name 1 nd) (VGs.cons (VG.name 2 nd) (VGs.cons (VG.name 3 nd) (VGs.cons (VG.name 4 nd) VGs.nil)))))) flat_ln (len4 fun a_1 b_2 c_3 d_4 => VT.at (ρ' := [some four_0, some a_1, some b_2, some c_3, some d_4]) (VT.ret (VE.tup (VA.cons_xp (VE.un_p un_neg okNeg (VE.var 4)) (VA.consC (VE.var 1) (VA.consC (VE.var 2) (VA.consC (VE.var 3) VA.nil))))))))

abbrev s_law_root_sign : Stmt := topS 17
theorem sc_law_root_sign : FnScope ["one", "a", "b"] ["one"] (defScope s_law_root_sign) := ⟨rfl, rfl, rfl, by decide +kernel, rfl, by decide +kernel, by decide +kernel⟩
def m_law_root_sign : List D → Option D := un1 fun one_0 => (((pure one_0) >>= fun p => PM.lift (Pt.flat (.t [(.n 1), (.n 2)]) p)) >>= un2 fun a_1 b_2 => (((PM.lift (dMul a_1 b_2)) >>= fun p => PM.lift ((dGe p (.int 0)).bind dBool)) >>= fun c => if c = true then (((PM.lift (dAdd a_1 b_2)) >>= fun p => PM.lift ((dGt p (.int 0)).bind dBool)) >>= fun k => if k = true then (pure (.int 1)) else (((PM.lift (dAdd a_1 b_2)) >>= fun p => PM.lift ((dEq p (.int 0)).bind dBool)) >>= fun k => if k = true then (pure (.int 0)) else (pure (.int (-1))))) else (((PM.lift ((dGt a_1 (.int 0)).bind dBool)) >>= fun k => if k = true then (pure (.int 1)) else (pure (.int (-1)))) >>= fun p => (((PM.lift (dMul a_1 a_1)) >>= fun p => ((PM.lift (dMul (.int 2) b_2)) >>= fun p => PM.lift (dMul p b_2)) >>= fun q => PM.lift ((dGt p q).bind dBool)) >>= fun k => if k = true then (pure (.int 1)) else (pure (.int (-1)))) >>= fun q => PM.lift (dMul p q))))
theorem ok_law_root_sign {P : Program} {w : World} {K : PySem.W.Frag} {mg : Str → Option Value} {base : Heap} {f : Addr} {fd : FuncData} (F : Fun K "_law_root_sign" "_law_root_sign" s_law_root_sign f fd) (h0 : mg "_law_root_sign" = some (.ref f))   : FC P w K mg base 1 "_law_root_sign" m_law_root_sign :=
  have nd := sc_law_root_sign.nd
  FC.mk' [] F sc_law_root_sign h0 (fun _ _ _ _ _ _ us hl => match us, hl with | [_], _ => rfl) un1_len fun cdv A outer s H E hr => len1 fun one_0 => VT.at (ρ' := [some one_0, none, none]) (VT.consP (SB.asgP (pt := (.t [(.n 1), (.n 2)])) (VH.plain (VE.var 0)) (VG.tup (VGs.cons (VG.name 1 nd) (VGs.cons (VG.name 2 nd) VGs.nil)))) flat_ln (len2 fun a_1 b_2 => VT.at (ρ' := [some one_0, some a_1, some b_2]) (VT.ifE (VP.cmp_xp (opGeP hr.units) okGe (VE.op_pp opMul okMul (VE.var 1) (VE.var 2)) VE.int (nomark _)) (VT.ret (VE.ifx (VP.cmp_xp (opGtP hr.units) okGt (VE.op_pp opAdd okAdd (VE.var 1) (VE.var 2)) VE.int (nomark _)) VE.int (VE.ifx (VP.cmp_xp (opEqP hr.units) okEq (VE.op_pp opAdd okAdd (VE.var 1) (VE.var 2)) VE.int (nomark _)) VE.int VE.negc))) (VT.ret (VE.op opMul okMul (VE.ifx (VP.cmp_pp (opGtP hr.units) okGt (VE.var 1) VE.int (nomark _)) VE.int VE.negc) (VE.ifx (VP.cmp (opGtP hr.units) okGt (VE.op_pp opMul okMul (VE.var 1) (VE.var 1)) (VE.op_xp opMul okMul (VE.op_pp opMul okMul VE.int (VE.var 2)) (VE.var 2)) (nomark _)) VE.int VE.negc))))))

abbrev s_law_root_less : Stmt := topS 18
theorem sc_law_root_less : FnScope ["one", "other"] ["one", "other"] (defScope s_law_root_less) := ⟨rfl, rfl, rfl, by decide +kernel, rfl, by decide +kernel, by decide +kernel⟩
def m_law_root_less : List D → Option D := un2 fun one_0 other_0 => (((((((PM.lift (dIx other_0 (.int 0))) >>= fun p => (PM.lift (dIx one_0 (.int 0))) >>= fun q => PM.lift (dSub p q)) >>= fun a => (((PM.lift (dIx other_0 (.int 1))) >>= fun p => (PM.lift (dIx one_0 (.int 1))) >>= fun q => PM.lift (dSub p q)) >>= fun a => pure (a :: [])) >>= fun l => pure (a :: l)) >>= fun l => pure (.tuple l)) >>= fun a => pure (a :: [])) >>= fun l => PM.lift (m_law_root_sign l)) >>= fun p => PM.lift (dGt p (.int 0)))
theorem ok_law_root_less {P : Program} {w : World} {K : PySem.W.Frag} {mg : Str → Option Value} {base : Heap} {f : Addr} {fd : FuncData} (F : Fun K "_law_root_less" "_law_root_less" s_law_root_less f fd) (h0 : mg "_law_root_less" = some (.ref f))  (c_law_root_sign : FC P w K mg base 1 "_law_root_sign" m_law_root_sign) : FC P w K mg base 2 "_law_root_less" m_law_root_less :=
  have nd := sc_law_root_less.nd
  FC.mk' [] F sc_law_root_less h0 (fun _ _ _ _ _ _ us hl => match us, hl with | [_, _], _ => rfl) un2_len fun cdv A outer s H E hr => len2 fun one_0 other_0 => VT.at (ρ' := [some one_0, some other_0]) (VT.ret (VE.cmp_xp (opGtP hr.units) okGt (VE.call (FC.mono c_law_root_sign (by decide : 1 ≤ 1)) hr (VA.cons_xp (VE.tup (VA.cons (VE.op op_sub okSub (VE.ix_pp hr.units (VE.var 1) VE.int) (VE.ix_pp hr.units (VE.var 0) VE.int)) (VA.cons_xp (VE.op op_sub okSub (VE.ix_pp hr.units (VE.var 1) VE.int) (VE.ix_pp hr.units (VE.var 0) VE.int)) VA.nil))) VA.nil)) VE.int (nomark _)))

abbrev s_law_inside : Stmt := topS 23
theorem sc_law_inside : FnScope ["place", "wide", "x", "y", "one", "far", "a", "b"] ["place", "wide"] (defScope s_law_inside) := ⟨rfl, rfl, rfl, by decide +kernel, rfl, by decide +kernel, by decide +kernel⟩
def m_law_inside : List D → Option D := un2 fun place_0 wide_0 => (((pure place_0) >>= fun p => PM.lift (Pt.flat (.t [(.n 2), (.n 3)]) p)) >>= un2 fun x_1 y_2 => (((((((((((PM.lift (dIx x_1 (.int 0))) >>= fun p => PM.lift (dNeg p)) >>= fun a => (((PM.lift (dIx x_1 (.int 1))) >>= fun p => PM.lift (dNeg p)) >>= fun a => pure (a :: [])) >>= fun l => pure (a :: l)) >>= fun l => pure (.tuple l)) >>= fun a => (((((PM.lift (dIx y_2 (.int 0))) >>= fun p => PM.lift (dNeg p)) >>= fun a => (((PM.lift (dIx y_2 (.int 1))) >>= fun p => PM.lift (dNeg p)) >>= fun a => pure (a :: [])) >>= fun l => pure (a :: l)) >>= fun l => pure (.tuple l)) >>= fun a => pure (a :: [])) >>= fun l => pure (a :: l)) >>= fun l => pure (y_2 :: l)) >>= fun l => pure (x_1 :: l)) >>= fun l => pure (.tuple l)) >>= fun p => PM.lift (dIter p)) >>= fun ps => forO (fun (s_3 : Unit) one_4 => (((PM.lift (m_law_root_less [wide_0, one_4])) >>= fun p => PM.lift (dTruth p)) >>= fun c => if c = true then ((pure (.bool false)) >>= fun v => pure (.rt v)) else pure (.nx ()))) () ps) >>= thenT fun (s_3 : Unit) => ((PM.lift (m_law_root_times [(.tuple [(.int 0), (.int 1)]), wide_0])) >>= fun far_5 => (((PM.lift (dIter (.tuple [(.int 1), (.int (-1))]))) >>= fun ps => forO (fun (s_6 : Unit) a_7 => (((compM (PM.lift (dIter (.tuple [(.int 1), (.int (-1))]))) (.n 7) (un1 fun b_8 => (((((((((PM.lift (dIx x_1 (.int 0))) >>= fun q => PM.lift (dMul a_7 q)) >>= fun p => ((PM.lift (dIx y_2 (.int 0))) >>= fun q => PM.lift (dMul b_8 q)) >>= fun q => PM.lift (dAdd p q)) >>= fun a => ((((PM.lift (dIx x_1 (.int 1))) >>= fun q => PM.lift (dMul a_7 q)) >>= fun p => ((PM.lift (dIx y_2 (.int 1))) >>= fun q => PM.lift (dMul b_8 q)) >>= fun q => PM.lift (dAdd p q)) >>= fun a => pure (a :: [])) >>= fun l => pure (a :: l)) >>= fun l => pure (.tuple l)) >>= fun a => pure (a :: [])) >>= fun l => pure (far_5 :: l)) >>= fun l => PM.lift (m_law_root_less l)) >>= fun p => PM.lift (dTruth p))) (un1 fun b_8 => (pure b_8))) >>= fun p => PM.lift ((dNe p (.list [])).bind dBool)) >>= fun c => if c = true then ((pure (.bool false)) >>= fun v => pure (.rt v)) else pure (.nx ()))) () ps) >>= thenT fun (s_6 : Unit) => (pure (.bool true))))))
theorem ok_law_inside {P : Program} {w : World} {K : PySem.W.Frag} {mg : Str → Option Value} {base : Heap} {f : Addr} {fd : FuncData} (F : Fun K "_law_inside" "_law_inside" s_law_inside f fd) (h0 : mg "_law_inside" = some (.ref f))  (c_law_root_less : FC P w K mg base 2 "_law_root_less" m_law_root_less) (c_law_root_times : FC P w K mg base 1 "_law_root_times" m_law_root_times) : FC P w K mg base 3 "_law_inside" m_law_inside :=
  have nd := sc_law_inside.nd
  FC.mk' [] F sc_law_inside h0 (fun _ _ _ _ _ _ us hl => match us, hl with | [_, _], _ => rfl) un2_len fun cdv A outer s H E hr => len2 fun place_0 wide_0 => VT.at (ρ' := [some place_0, some wide_0, none, none, none, none, none, none]) (VT.consP (SB.asgP (pt := (.t [(.n 2), (.n 3)])) (VH.plain (VE.var 0)) (VG.tup (VGs.cons (VG.name 2 nd) (VGs.cons (VG.name 3 nd) VGs.nil)))) flat_ln (len2 fun x_1 y_2 => VT.at (ρ' := [some place_0, some wide_0, some x_1, some y_2, none, none, none, none]) (VT.consO (E := (fun (s_3 : Unit) => [some place_0, some wide_0, some x_1, some y_2, none, none, none, none])) (SO.for (pt := (.n 4)) (E := (fun (s_3 : Unit) => [some place_0, some wide_0, some x_1, some y_2, none, none, none, none])) (a0 := ()) (VIH.hid (VI.any (VE.tup (VA.cons_px (VE.var 2) (VA.cons_px (VE.var 3) (VA.cons (VE.tup (VA.cons (VE.un un_neg okNeg (VE.ix_pp hr.units (VE.var 2) VE.int)) (VA.cons_xp (VE.un un_neg okNeg (VE.ix_pp hr.units (VE.var 2) VE.int)) VA.nil))) (VA.cons_xp (VE.tup (VA.cons (VE.un un_neg okNeg (VE.ix_pp hr.units (VE.var 3) VE.int)) (VA.cons_xp (VE.un un_neg okNeg (VE.ix_pp hr.units (VE.var 3) VE.int)) VA.nil))) VA.nil))))))) (VG.name 4 nd) turn1 (.cs (.cs (.cs (.cs (.cs (.cs (.cs (.cs .nil)))))))) (fun s_3 => len1 fun one_4 => (VO.at (ρ' := [some place_0, some wide_0, some x_1, some y_2, some one_4, none, none, none]) (VO.ifE (VP.tru (VE.call_p (FC.mono c_law_root_less (by decide : 2 ≤ 2)) hr (VA.consC (VE.var 1) (VA.consC (VE.var 4) VA.nil)))) (VO.ret VE.bl) outN_rt (VO.nil (a := ()) (.cs (.cs (.cs (.cs (.cn (.cs (.cs (.cs .nil))))))))))))) fun s_3 => (VT.cons (SB.asg (E := (fun far_5 => [some place_0, some wide_0, some x_1, some y_2, none, some far_5, none, none])) (i := 5) (VH.plain (VE.call_p (FC.mono c_law_root_times (by decide : 1 ≤ 2)) hr (VA.consC (VE.tupC (VA.consC VE.int (VA.consC VE.int VA.nil))) (VA.consC (VE.var 1) VA.nil)))) (fun _ => rfl) nd) fun far_5 => (VT.consO (E := (fun (s_6 : Unit) => [some place_0, some wide_0, some x_1, some y_2, none, some far_5, none, none])) (SO.for (pt := (.n 6)) (E := (fun (s_6 : Unit) => [some place_0, some wide_0, some x_1, some y_2, none, some far_5, none, none])) (a0 := ()) (VIH.hid (VI.any_p (VE.tupC (VA.consC VE.int (VA.consC VE.negc VA.nil))))) (VG.name 6 nd) turn1 (.cs (.cs (.cs (.cs (.cs (.cs (.cs (.cs .nil)))))))) (fun s_6 => len1 fun a_7 => (VO.at (ρ' := [some place_0, some wide_0, some x_1, some y_2, none, some far_5, some a_7, none]) (VO.ifE (VP.cmp_xp (opNeP hr.units) okNe (VN.ve (VN.comp nd (own := [("b", 7)]) (VI.any_p (VE.tupC (VA.consC VE.int (VA.consC VE.negc VA.nil)))) (by rfl) (fun _ _ _ _ _ => (VG.name 7 nd)) (fun _ _ _ _ _ => len1 fun b_8 => VT_.at (ρ' := [some place_0, some wide_0, some x_1, some y_2, none, some far_5, some a_7, some b_8]) (VT_.one (VP.tru (VE.call (FC.mono c_law_root_less (by decide : 2 ≤ 2)) hr (VA.cons_px (VE.var 5) (VA.cons_xp (VE.tup (VA.cons (VE.op opAdd okAdd (VE.op_px opMul okMul (VE.var 6) (VE.ix_pp hr.units (VE.var 2) VE.int)) (VE.op_px opMul okMul (VE.var 7) (VE.ix_pp hr.units (VE.var 3) VE.int))) (VA.cons_xp (VE.op opAdd okAdd (VE.op_px opMul okMul (VE.var 6) (VE.ix_pp hr.units (VE.var 2) VE.int)) (VE.op_px opMul okMul (VE.var 7) (VE.ix_pp hr.units (VE.var 3) VE.int))) VA.nil))) VA.nil)))))) (fun _ _ _ _ _ => len1 fun b_8 => VE.at (ρ' := [some place_0, some wide_0, some x_1, some y_2, none, some far_5, some a_7, some b_8]) (VE.var 7)))) (VE.lstC VA.nil) (nomark _)) (VO.ret VE.bl) outN_rt (VO.nil (a := ()) (.cs (.cs (.cs (.cs (.cs (.cs (.cn (.cs .nil))))))))))))) fun s_6 => (VT.ret VE.bl))))))

abbrev s_law : Stmt := topS 24
theorem sc_law : FnScope ["script", "state", "k", "four", "j", "at", "led", "due", "times_v", "part", "hidden", "step", "third", "wide", "most", "rows", "a", "b", "c", "d", "told", "row", "ties", "i", "gap", "m"] ["script"] (defScope s_law) := ⟨rfl, rfl, rfl, by decide +kernel, rfl, by decide +kernel, by decide +kernel⟩
def m_law : PP D := (((PM.lift (rng1L [(.int 4)])) >>= fun ps => forO (fun (s_1 : Unit) k_2 => ((((compM (PM.lift (rng1L [(.int 4)])) (.n 4) (fun _ => pure true) (un1 fun j_3 => ((drawC [tokD, scrD, (.int 13)]) >>= fun p => PM.lift (dSub p (.int 6))))) >>= fun a => pure (a :: [])) >>= fun l => PM.lift ((f1 dTuple) l)) >>= fun four_4 => (((drawC [tokD, scrD, (.int 33)]) >>= fun p => PM.lift (dSub p (.int 16))) >>= fun at_5 => (((((PM.lift (dIx four_4 (.int 3))) >>= fun p => PM.lift (dNeg p)) >>= fun a => ((PM.lift (dIx four_4 (.int 0))) >>= fun a => ((PM.lift (dIx four_4 (.int 1))) >>= fun a => ((PM.lift (dIx four_4 (.int 2))) >>= fun a => pure (a :: [])) >>= fun l => pure (a :: l)) >>= fun l => pure (a :: l)) >>= fun l => pure (a :: l)) >>= fun l => pure (.tuple l)) >>= fun led_6 => ((((PM.lift (m_law_eighth [at_5])) >>= fun a => ((PM.lift (m_law_place [four_4, (.int 1)])) >>= fun a => ((PM.lift (m_law_place [four_4, (.int 3)])) >>= fun a => pure (a :: [led_6])) >>= fun l => pure (a :: l)) >>= fun l => pure (a :: l)) >>= fun l => pure (.list l)) >>= fun due_7 => (((((((((PM.lift (m_eight_way [at_5])) >>= fun a => ((PM.lift (m_place_of [four_4])) >>= fun a => ((PM.lift (m_hidden_place [four_4])) >>= fun a => ((PM.lift (m_turned [four_4])) >>= fun a => pure (a :: [])) >>= fun l => pure (a :: l)) >>= fun l => pure (a :: l)) >>= fun l => pure (a :: l)) >>= fun l => pure (.list l)) >>= fun a => pure (a :: [])) >>= fun l => pure (due_7 :: l)) >>= fun l => PM.lift ((m_law_exact 8) l)) >>= fun p => PM.lift (dTruth p)) >>= fun c => pure (!c)) >>= fun c => if c = true then ((pure (.bool false)) >>= fun v => pure (.rt v)) else ((((compM ((PM.lift (m_place_of [led_6])) >>= fun p => PM.lift (dIter p)) (.n 9) (fun _ => pure true) (un1 fun part_8 => (PM.lift (m_law_root_times [(.tuple [(.int 0), (.int 1)]), part_8])))) >>= fun a => pure (a :: [])) >>= fun l => PM.lift ((f1 dTuple) l)) >>= fun times_v_9 => ((PM.lift (m_law_place [four_4, (.int 3)])) >>= fun hidden_10 => (((PM.lift (rng1L [(.int 3)])) >>= fun ps => forB (fun (s_11 : D) step_12 => ((PM.lift (m_law_round [s_11])) >>= fun hidden_13 => pure hidden_13)) hidden_10 ps) >>= fun (s_11 : D) => ((((compM ((PM.lift (m_hidden_place [led_6])) >>= fun p => PM.lift (dIter p)) (.n 9) (fun _ => pure true) (un1 fun part_14 => (((((((PM.lift (m_law_root_times [(.tuple [(.int 0), (.int 1)]), part_14])) >>= fun a => pure (a :: [])) >>= fun l => pure ((.tuple [(.int 0), (.int 1)]) :: l)) >>= fun l => PM.lift (m_law_root_times l)) >>= fun a => pure (a :: [])) >>= fun l => pure ((.tuple [(.int 0), (.int 1)]) :: l)) >>= fun l => PM.lift (m_law_root_times l)))) >>= fun a => pure (a :: [])) >>= fun l => PM.lift ((f1 dTuple) l)) >>= fun third_15 => ((((((PM.lift (m_place_of [four_4])) >>= fun a => pure (a :: [])) >>= fun l => PM.lift (m_law_round l)) >>= fun q => PM.lift ((dNe times_v_9 q).bind dBool)) >>= fun c => if c = true then pure true else (PM.lift ((dNe third_15 s_11).bind dBool))) >>= fun c => if c = true then ((pure (.bool false)) >>= fun v => pure (.rt v)) else (((((drawC [tokD, scrD, (.int 4)]) >>= fun q => PM.lift (dAdd (.int 1) q)) >>= fun a => ((drawC [tokD, scrD, (.int 3)]) >>= fun a => pure (a :: [])) >>= fun l => pure (a :: l)) >>= fun l => pure (.tuple l)) >>= fun wide_16 => ((((((((((PM.lift (m_law_place [four_4, (.int 1)])) >>= fun a => pure (a :: [wide_16])) >>= fun l => PM.lift (m_law_inside l)) >>= fun a => ((((PM.lift (m_law_place [four_4, (.int 3)])) >>= fun a => pure (a :: [wide_16])) >>= fun l => PM.lift (m_law_inside l)) >>= fun a => pure (a :: [])) >>= fun l => pure (a :: l)) >>= fun l => pure (.list l)) >>= fun a => ((((((PM.lift (m_place_of [four_4])) >>= fun a => pure (a :: [wide_16])) >>= fun l => PM.lift (m_in_octagon l)) >>= fun a => ((((PM.lift (m_hidden_place [four_4])) >>= fun a => pure (a :: [wide_16])) >>= fun l => PM.lift (m_in_octagon l)) >>= fun a => pure (a :: [])) >>= fun l => pure (a :: l)) >>= fun l => pure (.list l)) >>= fun a => pure (a :: [])) >>= fun l => pure (a :: l)) >>= fun l => PM.lift ((m_law_exact 8) l)) >>= fun p => PM.lift (dTruth p)) >>= fun c => pure (!c)) >>= fun c => if c = true then ((pure (.bool false)) >>= fun v => pure (.rt v)) else pure (.nx ())))))))))))))) () ps) >>= thenT fun (s_1 : Unit) => (((((((drawC [tokD, scrD, (.int 5)]) >>= fun q => PM.lift (dIx (.list [(.tuple [(.int 1), (.int 0)]), (.tuple [(.int 1), (.int 1)]), (.tuple [(.int 2), (.int 0)]), (.tuple [(.int 2), (.int 1)]), (.tuple [(.int 0), (.int 1)])]) q)) >>= fun a => pure (a :: [])) >>= fun l => pure ((.int 1) :: l)) >>= fun l => pure (.tuple l)) >>= fun p => PM.lift (Pt.flat (.t [(.n 14), (.n 13)]) p)) >>= un2 fun most_17 wide_18 => (((((PM.lift (dNeg most_17)) >>= fun a => ((PM.lift (dAdd most_17 (.int 1))) >>= fun a => pure (a :: [])) >>= fun l => pure (a :: l)) >>= fun l => PM.lift (rng2L l)) >>= fun ps => forB (fun (s_19 : D) a_20 => (((((PM.lift (dNeg most_17)) >>= fun a => ((PM.lift (dAdd most_17 (.int 1))) >>= fun a => pure (a :: [])) >>= fun l => pure (a :: l)) >>= fun l => PM.lift (rng2L l)) >>= fun ps => forB (fun (s_21 : D) b_22 => (((((PM.lift (dNeg most_17)) >>= fun a => ((PM.lift (dAdd most_17 (.int 1))) >>= fun a => pure (a :: [])) >>= fun l => pure (a :: l)) >>= fun l => PM.lift (rng2L l)) >>= fun ps => forB (fun (s_23 : D) c_24 => (((compM (((PM.lift (dNeg most_17)) >>= fun a => ((PM.lift (dAdd most_17 (.int 1))) >>= fun a => pure (a :: [])) >>= fun l => pure (a :: l)) >>= fun l => PM.lift (rng2L l)) (.n 19) (un1 fun d_25 => ((((PM.lift (m_law_place [(.tuple [a_20, b_22, c_24, d_25]), (.int 3)])) >>= fun a => pure (a :: [wide_18])) >>= fun l => PM.lift (m_law_inside l)) >>= fun p => PM.lift (dTruth p))) (un1 fun d_25 => (pure (.tuple [a_20, b_22, c_24, d_25])))) >>= fun q => PM.lift (dAdd s_23 q)) >>= fun rows_26 => pure rows_26)) s_21 ps) >>= fun (s_23 : D) => pure s_23)) s_19 ps) >>= fun (s_21 : D) => pure s_21)) (.list []) ps) >>= fun (s_19 : D) => ((PM.lift (m_chosen_places [most_17, wide_18])) >>= fun told_27 => (((((PM.lift ((m_law_exact 8) [s_19, told_27])) >>= fun p => PM.lift (dTruth p)) >>= fun c => pure (!c)) >>= fun c => if c = true then pure true else ((compM (PM.lift (dIter s_19)) (.n 21) (un1 fun row_28 => ((PM.lift (m_turned [row_28])) >>= fun p => PM.lift ((dNotIn p s_19).bind dBool))) (un1 fun row_28 => (pure row_28))) >>= fun p => PM.lift ((dNe p (.list [])).bind dBool))) >>= fun c => if c = true then (pure (.bool false)) else (((((PM.lift ((f1 dLen) [s_19])) >>= fun a => pure (a :: [])) >>= fun l => PM.lift (rng1L l)) >>= fun ps => forB (fun (s_29 : D) i_30 => (((((PM.lift ((f1 dLen) [s_19])) >>= fun a => pure (a :: [])) >>= fun l => PM.lift (rng1L l)) >>= fun ps => forB (fun (s_31 : D) j_32 => ((compM (PM.lift (rng1L [(.int 4)])) (.n 25) (fun _ => pure true) (un1 fun m_33 => (((PM.lift (dIx s_19 j_32)) >>= fun p => PM.lift (dIx p m_33)) >>= fun p => ((PM.lift (dIx s_19 i_30)) >>= fun p => PM.lift (dIx p m_33)) >>= fun q => PM.lift (dSub p q)))) >>= fun gap_34 => (((((((PM.lift ((f1 dSorted) [gap_34])) >>= fun p => PM.lift (dEq p (.list [(.int 0), (.int 0), (.int 0), (.int 1)]))) >>= fun a => pure (a :: [])) >>= fun l => PM.lift ((f1 dInt) l)) >>= fun q => PM.lift (dMul (.list [(.tuple [i_30, j_32])]) q)) >>= fun q => PM.lift (dAdd s_31 q)) >>= fun ties_35 => pure ties_35))) s_29 ps) >>= fun (s_31 : D) => pure s_31)) (.list []) ps) >>= fun (s_29 : D) => (((((((PM.lift ((f1 dList) [s_19])) >>= fun a => pure (a :: [])) >>= fun l => PM.lift (m_ties_of l)) >>= fun a => pure (a :: [])) >>= fun l => pure (s_29 :: l)) >>= fun l => PM.lift ((m_law_exact 8) l)) >>= fun p => PM.lift (dBool p) >>= fun k => if k = true then (PM.lift (m_in_octagon [(.tuple [(.tuple [(.int 1), (.int 0)]), (.tuple [(.int 0), (.int 0)])]), (.tuple [(.int 1), (.int 0)])])) else pure (.bool false))))))))
theorem ok_law {P : Program} {w : World} {K : PySem.W.Frag} {mg : Str → Option Value} {base : Heap} {f : Addr} {fd : FuncData} (F : Fun K "law" "law" s_law f fd) (z_int : mg "int" = none) (z_len : mg "len" = none) (z_list : mg "list" = none) (z_range : mg "range" = none) (z_sorted : mg "sorted" = none) (z_tuple : mg "tuple" = none) (c_law_draw : FC P w K mg base 2 "_law_draw" drawC) (c_law_eighth : FC P w K mg base 1 "_law_eighth" m_law_eighth) (c_law_exact : FC P w K mg base 9 "_law_exact" (m_law_exact 8)) (c_law_inside : FC P w K mg base 3 "_law_inside" m_law_inside) (c_law_place : FC P w K mg base 2 "_law_place" m_law_place) (c_law_root_times : FC P w K mg base 1 "_law_root_times" m_law_root_times) (c_law_round : FC P w K mg base 1 "_law_round" m_law_round) (c_chosen_places : FC P w K mg base 4 "chosen_places" m_chosen_places) (c_eight_way : FC P w K mg base 1 "eight_way" m_eight_way) (c_hidden_place : FC P w K mg base 2 "hidden_place" m_hidden_place) (c_in_octagon : FC P w K mg base 3 "in_octagon" m_in_octagon) (c_place_of : FC P w K mg base 2 "place_of" m_place_of) (c_ties_of : FC P w K mg base 1 "ties_of" m_ties_of) (c_turned : FC P w K mg base 1 "turned" m_turned) (hx : PM.run m_law fun p => p = .bool true) : FnOk P w K mg base CX0 10 f fd ["script"] (spLaw K) :=
  have nd := sc_law.nd
  F.ok sc_law spLaw_len fun cdv A outer s H vs Q E hr h => by
    obtain ⟨a, ns, rfl, hs, hO, q⟩ := h
    have body : VT (XF P w K mg base ["script", "state", "k", "four", "j", "at", "led", "due", "times_v", "part", "hidden", "step", "third", "wide", "most", "rows", "a", "b", "c", "d", "told", "row", "ties", "i", "gap", "m"] "law" (defScope s_law) f cdv A outer s H E) [] [some scrD, some tokD, none, none, none, none, none, none, none, none, none, none, none, none, none, none, none, none, none, none, none, none, none, none, none, none] (defBody s_law).tail m_law :=
      (VT.consO (E := (fun (s_1 : Unit) => [some scrD, some tokD, none, none, none, none, none, none, none, none, none, none, none, none, none, none, none, none, none, none, none, none, none, none, none, none])) (SO.for (pt := (.n 2)) (E := (fun (s_1 : Unit) => [some scrD, some tokD, none, none, none, none, none, none, none, none, none, none, none, none, none, none, none, none, none, none, none, none, none, none, none, none])) (a0 := ()) (VIH.range1_p z_range (VA.consC VE.int VA.nil)) (VG.name 2 nd) turn1 (.cs (.cs (.cs (.cs (.cs (.cs (.cs (.cs (.cs (.cs (.cs (.cs (.cs (.cs (.cs (.cs (.cs (.cs (.cs (.cs (.cs (.cs (.cs (.cs (.cs (.cs .nil)))))))))))))))))))))))))) (fun s_1 => len1 fun k_2 => (VO.at (ρ' := [some scrD, some tokD, some k_2, none, none, none, none, none, none, none, none, none, none, none, none, none, none, none, none, none, none, none, none, none, none, none]) (VO.cons (SB.asg (E := (fun four_4 => [some scrD, some tokD, some k_2, some four_4, none, none, none, none, none, none, none, none, none, none, none, none, none, none, none, none, none, none, none, none, none, none])) (i := 3) (VH.plain (VE.ty call_tuple_of okTuple z_tuple boot_tuple (VA.cons_xp (VN.ve (VN.comp nd (own := [("j", 4)]) (VI.range1_p z_range (VA.consC VE.int VA.nil)) (by rfl) (fun _ _ _ _ _ => (VG.name 4 nd)) (fun _ _ _ _ _ _ _ => VT_.nil) (fun _ _ _ _ _ => len1 fun j_3 => VE.at (ρ' := [some scrD, some tokD, some k_2, none, some j_3, none, none, none, none, none, none, none, none, none, none, none, none, none, none, none, none, none, none, none, none, none]) (VE.op_xp op_sub okSub (VE.callP_p (C := drawC) (ds := [tokD, scrD, (.int 13)]) (FC.mono c_law_draw (by decide : 2 ≤ 9)) hr (VA.consC (VE.var 1) (VA.consC (VE.var 0) (VA.consC VE.int VA.nil)))) VE.int)))) VA.nil))) (fun _ => rfl) nd) fun four_4 => (VO.cons (SB.asg (E := (fun at_5 => [some scrD, some tokD, some k_2, some four_4, none, some at_5, none, none, none, none, none, none, none, none, none, none, none, none, none, none, none, none, none, none, none, none])) (i := 5) (VH.plain (VE.op_xp op_sub okSub (VE.callP_p (C := drawC) (ds := [tokD, scrD, (.int 33)]) (FC.mono c_law_draw (by decide : 2 ≤ 9)) hr (VA.consC (VE.var 1) (VA.consC (VE.var 0) (VA.consC VE.int VA.nil)))) VE.int)) (fun _ => rfl) nd) fun at_5 => (VO.cons (SB.asg (E := (fun led_6 => [some scrD, some tokD, some k_2, some four_4, none, some at_5, some led_6, none, none, none, none, none, none, none, none, none, none, none, none, none, none, none, none, none, none, none])) (i := 6) (VH.plain (VE.tup (VA.cons (VE.un un_neg okNeg (VE.ix_pp hr.units (VE.var 3) VE.int)) (VA.cons (VE.ix_pp hr.units (VE.var 3) VE.int) (VA.cons (VE.ix_pp hr.units (VE.var 3) VE.int) (VA.cons_xp (VE.ix_pp hr.units (VE.var 3) VE.int) VA.nil)))))) (fun _ => rfl) nd) fun led_6 => (VO.cons (SB.asg (E := (fun due_7 => [some scrD, some tokD, some k_2, some four_4, none, some at_5, some led_6, some due_7, none, none, none, none, none, none, none, none, none, none, none, none, none, none, none, none, none, none])) (i := 7) (VH.plain (VE.lst (VA.cons (VE.call_p (FC.mono c_law_eighth (by decide : 1 ≤ 9)) hr (VA.consC (VE.var 5) VA.nil)) (VA.cons (VE.call_p (FC.mono c_law_place (by decide : 2 ≤ 9)) hr (VA.consC (VE.var 3) (VA.consC VE.int VA.nil))) (VA.cons_xp (VE.call_p (FC.mono c_law_place (by decide : 2 ≤ 9)) hr (VA.consC (VE.var 3) (VA.consC VE.int VA.nil))) (VA.consC (VE.var 6) VA.nil)))))) (fun _ => rfl) nd) fun due_7 => (VO.ifE (VP.not (VP.tru (VE.call (FC.mono c_law_exact (by decide : 9 ≤ 9)) hr (VA.cons_px (VE.var 7) (VA.cons_xp (VE.lst (VA.cons (VE.call_p (FC.mono c_eight_way (by decide : 1 ≤ 9)) hr (VA.consC (VE.var 5) VA.nil)) (VA.cons (VE.call_p (FC.mono c_place_of (by decide : 2 ≤ 9)) hr (VA.consC (VE.var 3) VA.nil)) (VA.cons (VE.call_p (FC.mono c_hidden_place (by decide : 2 ≤ 9)) hr (VA.consC (VE.var 3) VA.nil)) (VA.cons_xp (VE.call_p (FC.mono c_turned (by decide : 1 ≤ 9)) hr (VA.consC (VE.var 3) VA.nil)) VA.nil))))) VA.nil))))) (VO.ret VE.bl) outN_rt (VO.cons (SB.asg (E := (fun times_v_9 => [some scrD, some tokD, some k_2, some four_4, none, some at_5, some led_6, some due_7, some times_v_9, none, none, none, none, none, none, none, none, none, none, none, none, none, none, none, none, none])) (i := 8) (VH.plain (VE.ty call_tuple_of okTuple z_tuple boot_tuple (VA.cons_xp (VN.ve (VN.comp nd (own := [("part", 9)]) (VI.any (VE.call_p (FC.mono c_place_of (by decide : 2 ≤ 9)) hr (VA.consC (VE.var 6) VA.nil))) (by rfl) (fun _ _ _ _ _ => (VG.name 9 nd)) (fun _ _ _ _ _ _ _ => VT_.nil) (fun _ _ _ _ _ => len1 fun part_8 => VE.at (ρ' := [some scrD, some tokD, some k_2, some four_4, none, some at_5, some led_6, some due_7, none, some part_8, none, none, none, none, none, none, none, none, none, none, none, none, none, none, none, none]) (VE.call_p (FC.mono c_law_root_times (by decide : 1 ≤ 9)) hr (VA.consC (VE.tupC (VA.consC VE.int (VA.consC VE.int VA.nil))) (VA.consC (VE.var 9) VA.nil)))))) VA.nil))) (fun _ => rfl) nd) fun times_v_9 => (VO.cons (SB.asg (E := (fun hidden_10 => [some scrD, some tokD, some k_2, some four_4, none, some at_5, some led_6, some due_7, some times_v_9, none, some hidden_10, none, none, none, none, none, none, none, none, none, none, none, none, none, none, none])) (i := 10) (VH.plain (VE.call_p (FC.mono c_law_place (by decide : 2 ≤ 9)) hr (VA.consC (VE.var 3) (VA.consC VE.int VA.nil)))) (fun _ => rfl) nd) fun hidden_10 => (VO.cons (E := (fun (s_11 : D) => [some scrD, some tokD, some k_2, some four_4, none, some at_5, some led_6, some due_7, some times_v_9, none, some s_11, none, none, none, none, none, none, none, none, none, none, none, none, none, none, none])) (SB.for (pt := (.n 11)) (E := (fun (s_11 : D) => [some scrD, some tokD, some k_2, some four_4, none, some at_5, some led_6, some due_7, some times_v_9, none, some s_11, none, none, none, none, none, none, none, none, none, none, none, none, none, none, none])) (a0 := hidden_10) (VIH.range1_p z_range (VA.consC VE.int VA.nil)) (VG.name 11 nd) turn1 (.cs (.cs (.cs (.cs (.cs (.cs (.cs (.cs (.cs (.cs (.cs (.cs (.cs (.cs (.cs (.cs (.cs (.cs (.cs (.cs (.cs (.cs (.cs (.cs (.cs (.cs .nil)))))))))))))))))))))))))) (fun s_11 => len1 fun step_12 => (VB.at (ρ' := [some scrD, some tokD, some k_2, some four_4, none, some at_5, some led_6, some due_7, some times_v_9, none, some s_11, some step_12, none, none, none, none, none, none, none, none, none, none, none, none, none, none]) (VB.cons (SB.asg (E := (fun hidden_13 => [some scrD, some tokD, some k_2, some four_4, none, some at_5, some led_6, some due_7, some times_v_9, none, some hidden_13, some step_12, none, none, none, none, none, none, none, none, none, none, none, none, none, none])) (i := 10) (VH.plain (VE.call_p (FC.mono c_law_round (by decide : 1 ≤ 9)) hr (VA.consC (VE.var 10) VA.nil))) (fun _ => rfl) nd) fun hidden_13 => (VB.nil (a := hidden_13) (.cs (.cs (.cs (.cs (.cs (.cs (.cs (.cs (.cs (.cs (.cs (.cn (.cs (.cs (.cs (.cs (.cs (.cs (.cs (.cs (.cs (.cs (.cs (.cs (.cs (.cs .nil))))))))))))))))))))))))))))))) fun s_11 => (VO.cons (SB.asg (E := (fun third_15 => [some scrD, some tokD, some k_2, some four_4, none, some at_5, some led_6, some due_7, some times_v_9, none, some s_11, none, some third_15, none, none, none, none, none, none, none, none, none, none, none, none, none])) (i := 12) (VH.plain (VE.ty call_tuple_of okTuple z_tuple boot_tuple (VA.cons_xp (VN.ve (VN.comp nd (own := [("part", 9)]) (VI.any (VE.call_p (FC.mono c_hidden_place (by decide : 2 ≤ 9)) hr (VA.consC (VE.var 6) VA.nil))) (by rfl) (fun _ _ _ _ _ => (VG.name 9 nd)) (fun _ _ _ _ _ _ _ => VT_.nil) (fun _ _ _ _ _ => len1 fun part_14 => VE.at (ρ' := [some scrD, some tokD, some k_2, some four_4, none, some at_5, some led_6, some due_7, some times_v_9, some part_14, some s_11, none, none, none, none, none, none, none, none, none, none, none, none, none, none, none]) (VE.call (FC.mono c_law_root_times (by decide : 1 ≤ 9)) hr (VA.cons_px (VE.tupC (VA.consC VE.int (VA.consC VE.int VA.nil))) (VA.cons_xp (VE.call (FC.mono c_law_root_times (by decide : 1 ≤ 9)) hr (VA.cons_px (VE.tupC (VA.consC VE.int (VA.consC VE.int VA.nil))) (VA.cons_xp (VE.call_p (FC.mono c_law_root_times (by decide : 1 ≤ 9)) hr (VA.consC (VE.tupC (VA.consC VE.int (VA.consC VE.int VA.nil))) (VA.consC (VE.var 9) VA.nil))) VA.nil))) VA.nil)))))) VA.nil))) (fun _ => rfl) nd) fun third_15 => (VO.ifE (VP.w (VW.or (VP.cmp_px (opNeP hr.units) okNe (VE.var 8) (VE.call (FC.mono c_law_round (by decide : 1 ≤ 9)) hr (VA.cons_xp (VE.call_p (FC.mono c_place_of (by decide : 2 ≤ 9)) hr (VA.consC (VE.var 3) VA.nil)) VA.nil)) (nomark _)) (VW.or1 (VP.cmp_pp (opNeP hr.units) okNe (VE.var 12) (VE.var 10) (nomark _))))) (VO.ret VE.bl) outN_rt (VO.cons (SB.asg (E := (fun wide_16 => [some scrD, some tokD, some k_2, some four_4, none, some at_5, some led_6, some due_7, some times_v_9, none, some s_11, none, some third_15, some wide_16, none, none, none, none, none, none, none, none, none, none, none, none])) (i := 13) (VH.plain (VE.tup (VA.cons (VE.op_px opAdd okAdd VE.int (VE.callP_p (C := drawC) (ds := [tokD, scrD, (.int 4)]) (FC.mono c_law_draw (by decide : 2 ≤ 9)) hr (VA.consC (VE.var 1) (VA.consC (VE.var 0) (VA.consC VE.int VA.nil))))) (VA.cons_xp (VE.callP_p (C := drawC) (ds := [tokD, scrD, (.int 3)]) (FC.mono c_law_draw (by decide : 2 ≤ 9)) hr (VA.consC (VE.var 1) (VA.consC (VE.var 0) (VA.consC VE.int VA.nil)))) VA.nil)))) (fun _ => rfl) nd) fun wide_16 => (VO.ifE (VP.not (VP.tru (VE.call (FC.mono c_law_exact (by decide : 9 ≤ 9)) hr (VA.cons (VE.lst (VA.cons (VE.call (FC.mono c_law_inside (by decide : 3 ≤ 9)) hr (VA.cons_xp (VE.call_p (FC.mono c_law_place (by decide : 2 ≤ 9)) hr (VA.consC (VE.var 3) (VA.consC VE.int VA.nil))) (VA.consC (VE.var 13) VA.nil))) (VA.cons_xp (VE.call (FC.mono c_law_inside (by decide : 3 ≤ 9)) hr (VA.cons_xp (VE.call_p (FC.mono c_law_place (by decide : 2 ≤ 9)) hr (VA.consC (VE.var 3) (VA.consC VE.int VA.nil))) (VA.consC (VE.var 13) VA.nil))) VA.nil))) (VA.cons_xp (VE.lst (VA.cons (VE.call (FC.mono c_in_octagon (by decide : 3 ≤ 9)) hr (VA.cons_xp (VE.call_p (FC.mono c_place_of (by decide : 2 ≤ 9)) hr (VA.consC (VE.var 3) VA.nil)) (VA.consC (VE.var 13) VA.nil))) (VA.cons_xp (VE.call (FC.mono c_in_octagon (by decide : 3 ≤ 9)) hr (VA.cons_xp (VE.call_p (FC.mono c_hidden_place (by decide : 2 ≤ 9)) hr (VA.consC (VE.var 3) VA.nil)) (VA.consC (VE.var 13) VA.nil))) VA.nil))) VA.nil))))) (VO.ret VE.bl) outN_rt (VO.nil (a := ()) (.cs (.cs (.cn (.cn (.cs (.cn (.cn (.cn (.cn (.cs (.cn (.cs (.cn (.cn (.cs (.cs (.cs (.cs (.cs (.cs (.cs (.cs (.cs (.cs (.cs (.cs .nil)))))))))))))))))))))))))))))))))))))))))) fun s_1 => (VT.consP (SB.asgP (pt := (.t [(.n 14), (.n 13)])) (VH.plain (VE.tup (VA.cons_px VE.int (VA.cons_xp (VE.ix_px hr.units (VE.lstC (VA.consC (VE.tupC (VA.consC VE.int (VA.consC VE.int VA.nil))) (VA.consC (VE.tupC (VA.consC VE.int (VA.consC VE.int VA.nil))) (VA.consC (VE.tupC (VA.consC VE.int (VA.consC VE.int VA.nil))) (VA.consC (VE.tupC (VA.consC VE.int (VA.consC VE.int VA.nil))) (VA.consC (VE.tupC (VA.consC VE.int (VA.consC VE.int VA.nil))) VA.nil)))))) (VE.callP_p (C := drawC) (ds := [tokD, scrD, (.int 5)]) (FC.mono c_law_draw (by decide : 2 ≤ 9)) hr (VA.consC (VE.var 1) (VA.consC (VE.var 0) (VA.consC VE.int VA.nil))))) VA.nil)))) (VG.tup (VGs.cons (VG.name 14 nd) (VGs.cons (VG.name 13 nd) VGs.nil)))) flat_ln (len2 fun most_17 wide_18 => VT.at (ρ' := [some scrD, some tokD, none, none, none, none, none, none, none, none, none, none, none, some wide_18, some most_17, none, none, none, none, none, none, none, none, none, none, none]) (VT.consV (SB.asg (E := (fun a => [some scrD, some tokD, none, none, none, none, none, none, none, none, none, none, none, some wide_18, some most_17, some a, none, none, none, none, none, none, none, none, none, none])) (i := 15) (VH.plain (VE.lstC VA.nil)) (fun _ => rfl) nd) (VT.cons (E := (fun (s_19 : D) => [some scrD, some tokD, none, none, none, none, none, none, none, none, none, none, none, some wide_18, some most_17, some s_19, none, none, none, none, none, none, none, none, none, none])) (SB.for (pt := (.n 16)) (E := (fun (s_19 : D) => [some scrD, some tokD, none, none, none, none, none, none, none, none, none, none, none, some wide_18, some most_17, some s_19, none, none, none, none, none, none, none, none, none, none])) (a0 := (.list [])) (VIH.range2 z_range (VA.cons (VE.un_p un_neg okNeg (VE.var 14)) (VA.cons_xp (VE.op_pp opAdd okAdd (VE.var 14) VE.int) VA.nil))) (VG.name 16 nd) turn1 (.cs (.cs (.cs (.cs (.cs (.cs (.cs (.cs (.cs (.cs (.cs (.cs (.cs (.cs (.cs (.cs (.cs (.cs (.cs (.cs (.cs (.cs (.cs (.cs (.cs (.cs .nil)))))))))))))))))))))))))) (fun s_19 => len1 fun a_20 => (VB.at (ρ' := [some scrD, some tokD, none, none, none, none, none, none, none, none, none, none, none, some wide_18, some most_17, some s_19, some a_20, none, none, none, none, none, none, none, none, none]) (VB.cons (E := (fun (s_21 : D) => [some scrD, some tokD, none, none, none, none, none, none, none, none, none, none, none, some wide_18, some most_17, some s_21, some a_20, none, none, none, none, none, none, none, none, none])) (SB.for (pt := (.n 17)) (E := (fun (s_21 : D) => [some scrD, some tokD, none, none, none, none, none, none, none, none, none, none, none, some wide_18, some most_17, some s_21, some a_20, none, none, none, none, none, none, none, none, none])) (a0 := s_19) (VIH.range2 z_range (VA.cons (VE.un_p un_neg okNeg (VE.var 14)) (VA.cons_xp (VE.op_pp opAdd okAdd (VE.var 14) VE.int) VA.nil))) (VG.name 17 nd) turn1 (.cs (.cs (.cs (.cs (.cs (.cs (.cs (.cs (.cs (.cs (.cs (.cs (.cs (.cs (.cs (.cs (.cs (.cs (.cs (.cs (.cs (.cs (.cs (.cs (.cs (.cs .nil)))))))))))))))))))))))))) (fun s_21 => len1 fun b_22 => (VB.at (ρ' := [some scrD, some tokD, none, none, none, none, none, none, none, none, none, none, none, some wide_18, some most_17, some s_21, some a_20, some b_22, none, none, none, none, none, none, none, none]) (VB.cons (E := (fun (s_23 : D) => [some scrD, some tokD, none, none, none, none, none, none, none, none, none, none, none, some wide_18, some most_17, some s_23, some a_20, some b_22, none, none, none, none, none, none, none, none])) (SB.for (pt := (.n 18)) (E := (fun (s_23 : D) => [some scrD, some tokD, none, none, none, none, none, none, none, none, none, none, none, some wide_18, some most_17, some s_23, some a_20, some b_22, none, none, none, none, none, none, none, none])) (a0 := s_21) (VIH.range2 z_range (VA.cons (VE.un_p un_neg okNeg (VE.var 14)) (VA.cons_xp (VE.op_pp opAdd okAdd (VE.var 14) VE.int) VA.nil))) (VG.name 18 nd) turn1 (.cs (.cs (.cs (.cs (.cs (.cs (.cs (.cs (.cs (.cs (.cs (.cs (.cs (.cs (.cs (.cs (.cs (.cs (.cs (.cs (.cs (.cs (.cs (.cs (.cs (.cs .nil)))))))))))))))))))))))))) (fun s_23 => len1 fun c_24 => (VB.at (ρ' := [some scrD, some tokD, none, none, none, none, none, none, none, none, none, none, none, some wide_18, some most_17, some s_23, some a_20, some b_22, some c_24, none, none, none, none, none, none, none]) (VB.cons (SB.asg (E := (fun rows_26 => [some scrD, some tokD, none, none, none, none, none, none, none, none, none, none, none, some wide_18, some most_17, some rows_26, some a_20, some b_22, some c_24, none, none, none, none, none, none, none])) (i := 15) (VH.plain (VE.op_px opAdd okAdd (VE.var 15) (VN.ve (VN.comp nd (own := [("d", 19)]) (VI.range2 z_range (VA.cons (VE.un_p un_neg okNeg (VE.var 14)) (VA.cons_xp (VE.op_pp opAdd okAdd (VE.var 14) VE.int) VA.nil))) (by rfl) (fun _ _ _ _ _ => (VG.name 19 nd)) (fun _ _ _ _ _ => len1 fun d_25 => VT_.at (ρ' := [some scrD, some tokD, none, none, none, none, none, none, none, none, none, none, none, some wide_18, some most_17, some s_23, some a_20, some b_22, some c_24, some d_25, none, none, none, none, none, none]) (VT_.one (VP.tru (VE.call (FC.mono c_law_inside (by decide : 3 ≤ 9)) hr (VA.cons_xp (VE.call_p (FC.mono c_law_place (by decide : 2 ≤ 9)) hr (VA.consC (VE.tupC (VA.consC (VE.var 16) (VA.consC (VE.var 17) (VA.consC (VE.var 18) (VA.consC (VE.var 19) VA.nil))))) (VA.consC VE.int VA.nil))) (VA.consC (VE.var 13) VA.nil)))))) (fun _ _ _ _ _ => len1 fun d_25 => VE.at (ρ' := [some scrD, some tokD, none, none, none, none, none, none, none, none, none, none, none, some wide_18, some most_17, some s_23, some a_20, some b_22, some c_24, some d_25, none, none, none, none, none, none]) (VE.tupC (VA.consC (VE.var 16) (VA.consC (VE.var 17) (VA.consC (VE.var 18) (VA.consC (VE.var 19) VA.nil)))))))))) (fun _ => rfl) nd) fun rows_26 => (VB.nil (a := rows_26) (.cs (.cs (.cs (.cs (.cs (.cs (.cs (.cs (.cs (.cs (.cs (.cs (.cs (.cs (.cs (.cs (.cs (.cs (.cn (.cs (.cs (.cs (.cs (.cs (.cs (.cs .nil))))))))))))))))))))))))))))))) fun s_23 => (VB.nil (a := s_23) (.cs (.cs (.cs (.cs (.cs (.cs (.cs (.cs (.cs (.cs (.cs (.cs (.cs (.cs (.cs (.cs (.cs (.cn (.cs (.cs (.cs (.cs (.cs (.cs (.cs (.cs .nil))))))))))))))))))))))))))))))) fun s_21 => (VB.nil (a := s_21) (.cs (.cs (.cs (.cs (.cs (.cs (.cs (.cs (.cs (.cs (.cs (.cs (.cs (.cs (.cs (.cs (.cn (.cs (.cs (.cs (.cs (.cs (.cs (.cs (.cs (.cs .nil))))))))))))))))))))))))))))))) fun s_19 => (VT.cons (SB.asg (E := (fun told_27 => [some scrD, some tokD, none, none, none, none, none, none, none, none, none, none, none, some wide_18, some most_17, some s_19, none, none, none, none, some told_27, none, none, none, none, none])) (i := 20) (VH.plain (VE.call_p (FC.mono c_chosen_places (by decide : 4 ≤ 9)) hr (VA.consC (VE.var 14) (VA.consC (VE.var 13) VA.nil)))) (fun _ => rfl) nd) fun told_27 => (VT.ifE (VP.w (VW.or (VP.not (VP.tru (VE.call_p (FC.mono c_law_exact (by decide : 9 ≤ 9)) hr (VA.consC (VE.var 15) (VA.consC (VE.var 20) VA.nil))))) (VW.or1 (VP.cmp_xp (opNeP hr.units) okNe (VN.ve (VN.comp nd (own := [("row", 21)]) (VI.any_p (VE.var 15)) (by rfl) (fun _ _ _ _ _ => (VG.name 21 nd)) (fun _ _ _ _ _ => len1 fun row_28 => VT_.at (ρ' := [some scrD, some tokD, none, none, none, none, none, none, none, none, none, none, none, some wide_18, some most_17, some s_19, none, none, none, none, some told_27, some row_28, none, none, none, none]) (VT_.one (VP.cmp_xp (opNotInP hr.units) okNotIn (VE.call_p (FC.mono c_turned (by decide : 1 ≤ 9)) hr (VA.consC (VE.var 21) VA.nil)) (VE.var 15) (by rfl)))) (fun _ _ _ _ _ => len1 fun row_28 => VE.at (ρ' := [some scrD, some tokD, none, none, none, none, none, none, none, none, none, none, none, some wide_18, some most_17, some s_19, none, none, none, none, some told_27, some row_28, none, none, none, none]) (VE.var 21)))) (VE.lstC VA.nil) (nomark _))))) (VT.ret VE.bl) (VT.consV (SB.asg (E := (fun a => [some scrD, some tokD, none, none, none, none, none, none, none, none, none, none, none, some wide_18, some most_17, some s_19, none, none, none, none, some told_27, none, some a, none, none, none])) (i := 22) (VH.plain (VE.lstC VA.nil)) (fun _ => rfl) nd) (VT.cons (E := (fun (s_29 : D) => [some scrD, some tokD, none, none, none, none, none, none, none, none, none, none, none, some wide_18, some most_17, some s_19, none, none, none, none, some told_27, none, some s_29, none, none, none])) (SB.for (pt := (.n 23)) (E := (fun (s_29 : D) => [some scrD, some tokD, none, none, none, none, none, none, none, none, none, none, none, some wide_18, some most_17, some s_19, none, none, none, none, some told_27, none, some s_29, none, none, none])) (a0 := (.list [])) (VIH.range1 z_range (VA.cons_xp (VE.bi_p call_len okLen z_len boot_len (VA.consC (VE.var 15) VA.nil)) VA.nil)) (VG.name 23 nd) turn1 (.cs (.cs (.cs (.cs (.cs (.cs (.cs (.cs (.cs (.cs (.cs (.cs (.cs (.cs (.cs (.cs (.cs (.cs (.cs (.cs (.cs (.cs (.cs (.cs (.cs (.cs .nil)))))))))))))))))))))))))) (fun s_29 => len1 fun i_30 => (VB.at (ρ' := [some scrD, some tokD, none, none, none, none, none, none, none, none, none, none, none, some wide_18, some most_17, some s_19, none, none, none, none, some told_27, none, some s_29, some i_30, none, none]) (VB.cons (E := (fun (s_31 : D) => [some scrD, some tokD, none, none, none, none, none, none, none, none, none, none, none, some wide_18, some most_17, some s_19, none, none, none, none, some told_27, none, some s_31, some i_30, none, none])) (SB.for (pt := (.n 4)) (E := (fun (s_31 : D) => [some scrD, some tokD, none, none, none, none, none, none, none, none, none, none, none, some wide_18, some most_17, some s_19, none, none, none, none, some told_27, none, some s_31, some i_30, none, none])) (a0 := s_29) (VIH.range1 z_range (VA.cons_xp (VE.bi_p call_len okLen z_len boot_len (VA.consC (VE.var 15) VA.nil)) VA.nil)) (VG.name 4 nd) turn1 (.cs (.cs (.cs (.cs (.cs (.cs (.cs (.cs (.cs (.cs (.cs (.cs (.cs (.cs (.cs (.cs (.cs (.cs (.cs (.cs (.cs (.cs (.cs (.cs (.cs (.cs .nil)))))))))))))))))))))))))) (fun s_31 => len1 fun j_32 => (VB.at (ρ' := [some scrD, some tokD, none, none, some j_32, none, none, none, none, none, none, none, none, some wide_18, some most_17, some s_19, none, none, none, none, some told_27, none, some s_31, some i_30, none, none]) (VB.cons (SB.scH (E := (fun gap_34 => [some scrD, some tokD, none, none, some j_32, none, none, none, none, none, none, none, none, some wide_18, some most_17, some s_19, none, none, none, none, some told_27, none, some s_31, some i_30, some gap_34, none])) (SC.c1 (i := 24) nd (own := [("m", 25)]) (VI.range1_p z_range (VA.consC VE.int VA.nil)) (by rfl) (fun _ _ _ _ _ => (VG.name 25 nd)) (fun _ _ _ _ _ _ _ => VT_.nil) (fun _ _ _ _ _ => len1 fun m_33 => VE.at (ρ' := [some scrD, some tokD, none, none, some j_32, none, none, none, none, none, none, none, none, some wide_18, some most_17, some s_19, none, none, none, none, some told_27, none, some s_31, some i_30, none, some m_33]) (VE.op op_sub okSub (VE.ix_xp hr.units (VE.ix_pp hr.units (VE.var 15) (VE.var 4)) (VE.var 25)) (VE.ix_xp hr.units (VE.ix_pp hr.units (VE.var 15) (VE.var 23)) (VE.var 25))))) (fun _ => rfl)) fun gap_34 => (VB.cons (SB.asg (E := (fun ties_35 => [some scrD, some tokD, none, none, some j_32, none, none, none, none, none, none, none, none, some wide_18, some most_17, some s_19, none, none, none, none, some told_27, none, some ties_35, some i_30, some gap_34, none])) (i := 22) (VH.plain (VE.op_px opAdd okAdd (VE.var 22) (VE.op_px opMul okMul (VE.lstC (VA.consC (VE.tupC (VA.consC (VE.var 23) (VA.consC (VE.var 4) VA.nil))) VA.nil)) (VE.ty call_int1 okInt z_int boot_int (VA.cons_xp (VE.cmp_xp (opEqP hr.units) okEq (VE.bi_p (cr_sortY hr.units) okSorted z_sorted boot_sorted (VA.consC (VE.var 24) VA.nil)) (VE.lstC (VA.consC VE.int (VA.consC VE.int (VA.consC VE.int (VA.consC VE.int VA.nil))))) (nomark _)) VA.nil))))) (fun _ => rfl) nd) fun ties_35 => (VB.nil (a := ties_35) (.cs (.cs (.cs (.cs (.cn (.cs (.cs (.cs (.cs (.cs (.cs (.cs (.cs (.cs (.cs (.cs (.cs (.cs (.cs (.cs (.cs (.cs (.cs (.cs (.cn (.cs .nil)))))))))))))))))))))))))))))))) fun s_31 => (VB.nil (a := s_31) (.cs (.cs (.cs (.cs (.cs (.cs (.cs (.cs (.cs (.cs (.cs (.cs (.cs (.cs (.cs (.cs (.cs (.cs (.cs (.cs (.cs (.cs (.cs (.cn (.cs (.cs .nil))))))))))))))))))))))))))))))) fun s_29 => (VT.ret (VE.and (VE.call (FC.mono c_law_exact (by decide : 9 ≤ 9)) hr (VA.cons_px (VE.var 22) (VA.cons_xp (VE.call (FC.mono c_ties_of (by decide : 1 ≤ 9)) hr (VA.cons_xp (VE.ty_p call_list_of okList z_list boot_list (VA.consC (VE.var 15) VA.nil)) VA.nil)) VA.nil))) (VE.one (VE.call_p (FC.mono c_in_octagon (by decide : 3 ≤ 9)) hr (VA.consC (VE.tupC (VA.consC (VE.tupC (VA.consC VE.int (VA.consC VE.int VA.nil))) (VA.consC (VE.tupC (VA.consC VE.int (VA.consC VE.int VA.nil))) VA.nil))) (VA.consC (VE.tupC (VA.consC VE.int (VA.consC VE.int VA.nil))) VA.nil)))))))))))))))
    refine ⟨_, pss_cons (ps_set (i := 1) nd rfl (by first | exact Or.inl rfl | exact Or.inr rfl) (pe_lst (pa_cons pe_int (pa_cons pe_int pa_nil)))) body, ?_⟩
    exact ⟨by decide, fun p np => law_start (n := 24) rfl hs hO np rfl rfl hx q⟩


end Qv.k88
end
set_option maxHeartbeats 2000000
namespace Qv.k88
open PySem PySem.Spec PyProof.Rows L2
theorem forB_nil' {α : Type} {f : α → D → Option α} {s : α} : forB f s [] = some s := id rfl
theorem forB_cons' {α : Type} {f : α → D → Option α} {s : α} {x : D} {xs : List D} : forB f s (x :: xs) = (f s x).bind fun s' => forB f s' xs := id rfl
theorem r4 : rng1L [.int 4] = some [.int 0, .int 1, .int 2, .int 3] := rfl
abbrev T4 (a b c d : Int) : D := .tuple [.int a, .int b, .int c, .int d]
/-! ### signs -/
/-- by a near fraction -/
def li (a b : Int) : Int := 985 * a + 1393 * b
def sg (a b : Int) : Int := if li a b > 0 then 1 else if li a b = 0 then 0 else -1
def isI (o : Option D) (i : Int) : Bool := match o with | some (.int j) => decide (j = i) | _ => false
theorem isI_eq {o : Option D} {i : Int} (h : isI o i = true) : o = some (.int i) := by
  unfold isI at h
  split at h
  · rw [of_decide_eq_true h]
  · cases h
theorem sg_all : ((List.range 61).all fun i => (List.range 61).all fun j => isI (m_sign [pr ((i : Int) - 30) ((j : Int) - 30)]) (sg ((i : Int) - 30) ((j : Int) - 30)) && isI (m_law_root_sign [pr ((i : Int) - 30) ((j : Int) - 30)]) (sg ((i : Int) - 30) ((j : Int) - 30))) = true := by decide +kernel
theorem sg_eq {a b : Int} (ha : -30 ≤ a ∧ a ≤ 30) (hb : -30 ≤ b ∧ b ≤ 30) : m_sign [pr a b] = some (.int (sg a b)) ∧ m_law_root_sign [pr a b] = some (.int (sg a b)) := by
  obtain ⟨i, hi⟩ := Int.eq_ofNat_of_zero_le (a := a + 30) (by omega)
  obtain ⟨j, hj⟩ := Int.eq_ofNat_of_zero_le (a := b + 30) (by omega)
  have h := List.all_eq_true.mp (List.all_eq_true.mp sg_all i (by rw [List.mem_range]; omega)) j (by rw [List.mem_range]; omega)
  have ea : (i : Int) - 30 = a := by omega
  have eb : (j : Int) - 30 = b := by omega
  rw [ea, eb, Bool.and_eq_true] at h
  exact ⟨isI_eq h.1, isI_eq h.2⟩
theorem less_eq {a b c d : Int} (h1 : -30 ≤ c - a ∧ c - a ≤ 30) (h2 : -30 ≤ d - b ∧ d - b ≤ 30) : m_is_less [pr a b, pr c d] = some (.bool (decide (li a b < li c d))) ∧ m_law_root_less [pr a b, pr c d] = some (.bool (decide (li a b < li c d))) := by
  have e := sg_eq h1 h2
  have k : decide (0 < sg (c - a) (d - b)) = decide (li a b < li c d) := by
    unfold sg li
    rw [decide_eq_decide]
    split
    · omega
    · split <;> omega
  unfold pr at e ⊢
  constructor
  · simp only [m_is_less, un1_c, un2_c, un3_c, un4_c, un5_c, o_pure, o_bind, o_some, o_lift, flat_n, flat_tt, flat_tl, flats_nil, flats_cons, List.append_nil, List.cons_append, List.nil_append, dIx_t, dIx_l, at0, at1, at2, at3, dAdd_ii, dSub_ii, dNeg_i, dLt_ii, dLe_ii, dGt_ii, dGe_ii, dEq_i2, dNe_i2, dNe_bb, dEq_bb, dTruth_b, dBool_b, dInt_i, dLen_l, dLen_t, dTuple_l, dTuple_t, dIter_l, dIter_t, if_true, Bool.false_eq_true, if_false, Bool.not_true, Bool.not_false, e.1, k]
  · simp only [m_law_root_less, un1_c, un2_c, un3_c, un4_c, un5_c, o_pure, o_bind, o_some, o_lift, flat_n, flat_tt, flat_tl, flats_nil, flats_cons, List.append_nil, List.cons_append, List.nil_append, dIx_t, dIx_l, at0, at1, at2, at3, dAdd_ii, dSub_ii, dNeg_i, dLt_ii, dLe_ii, dGt_ii, dGe_ii, dEq_i2, dNe_i2, dNe_bb, dEq_bb, dTruth_b, dBool_b, dInt_i, dLen_l, dLen_t, dTuple_l, dTuple_t, dIter_l, dIter_t, if_true, Bool.false_eq_true, if_false, Bool.not_true, Bool.not_false, e.2, k]
def ab (a b : Int) : D := if 0 ≤ li a b then pr a b else pr (-a) (-b)
theorem abs_eq {a b : Int} (ha : -30 ≤ a ∧ a ≤ 30) (hb : -30 ≤ b ∧ b ≤ 30) : m_absolute [pr a b] = some (ab a b) := by
  have e := (sg_eq ha hb).1
  have k : decide (0 ≤ sg a b) = decide (0 ≤ li a b) := by
    unfold sg
    rw [decide_eq_decide]
    split
    · omega
    · split <;> omega
  unfold pr at e
  unfold ab pr
  simp only [m_absolute, un1_c, un2_c, un3_c, un4_c, un5_c, o_pure, o_bind, o_some, o_lift, flat_n, flat_tt, flat_tl, flats_nil, flats_cons, List.append_nil, List.cons_append, List.nil_append, dIx_t, dIx_l, at0, at1, at2, at3, dAdd_ii, dSub_ii, dNeg_i, dLt_ii, dLe_ii, dGt_ii, dGe_ii, dEq_i2, dNe_i2, dNe_bb, dEq_bb, dTruth_b, dBool_b, dInt_i, dLen_l, dLen_t, dTuple_l, dTuple_t, dIter_l, dIter_t, if_true, Bool.false_eq_true, if_false, Bool.not_true, Bool.not_false, e, k]
  by_cases c : 0 ≤ li a b
  · simp only [c, decide_true, if_true]
  · simp only [c, decide_false, Bool.false_eq_true, if_false]
/-! ### places -/
theorem place1 (a b c d : Int) : m_law_place [T4 a b c d, .int 1] = some (.tuple [pr (2 * a) (b - d), pr (2 * c) (b + d)]) := by
  have e0 : m_law_eighth [.int 0] = some (.tuple [pr 2 0, pr 0 0]) := isS_eq (by decide +kernel)
  have e1 : m_law_eighth [.int 1] = some (.tuple [pr 0 1, pr 0 1]) := isS_eq (by decide +kernel)
  have e2 : m_law_eighth [.int 2] = some (.tuple [pr 0 0, pr 2 0]) := isS_eq (by decide +kernel)
  have e3 : m_law_eighth [.int 3] = some (.tuple [pr 0 (-1), pr 0 1]) := isS_eq (by decide +kernel)
  unfold pr at *
  simp only [m_law_place, T4, un1_c, un2_c, un3_c, un4_c, un5_c, o_pure, o_bind, o_some, o_lift, flat_n, flat_tt, flat_tl, flats_nil, flats_cons, List.append_nil, List.cons_append, List.nil_append, dIx_t, dIx_l, at0, at1, at2, at3, dAdd_ii, dSub_ii, dNeg_i, dLt_ii, dLe_ii, dGt_ii, dGe_ii, dEq_i2, dNe_i2, dNe_bb, dEq_bb, dTruth_b, dBool_b, dInt_i, dLen_l, dLen_t, dTuple_l, dTuple_t, dIter_l, dIter_t, if_true, Bool.false_eq_true, if_false, Bool.not_true, Bool.not_false, r4, forB_cons', forB_nil', dMul_r, Int.reduceMul, Int.reduceLT, Int.reduceNeg, and_self, and_true, e0, e1, e2, e3]
  simp
  omega
theorem place3 (a b c d : Int) : m_law_place [T4 a b c d, .int 3] = some (.tuple [pr (2 * a) (d - b), pr (-2 * c) (b + d)]) := by
  have e0 : m_law_eighth [.int 0] = some (.tuple [pr 2 0, pr 0 0]) := isS_eq (by decide +kernel)
  have e1 : m_law_eighth [.int 3] = some (.tuple [pr 0 (-1), pr 0 1]) := isS_eq (by decide +kernel)
  have e2 : m_law_eighth [.int 6] = some (.tuple [pr 0 0, pr (-2) 0]) := isS_eq (by decide +kernel)
  have e3 : m_law_eighth [.int 9] = some (.tuple [pr 0 1, pr 0 1]) := isS_eq (by decide +kernel)
  unfold pr at *
  simp only [m_law_place, T4, un1_c, un2_c, un3_c, un4_c, un5_c, o_pure, o_bind, o_some, o_lift, flat_n, flat_tt, flat_tl, flats_nil, flats_cons, List.append_nil, List.cons_append, List.nil_append, dIx_t, dIx_l, at0, at1, at2, at3, dAdd_ii, dSub_ii, dNeg_i, dLt_ii, dLe_ii, dGt_ii, dGe_ii, dEq_i2, dNe_i2, dNe_bb, dEq_bb, dTruth_b, dBool_b, dInt_i, dLen_l, dLen_t, dTuple_l, dTuple_t, dIter_l, dIter_t, if_true, Bool.false_eq_true, if_false, Bool.not_true, Bool.not_false, r4, forB_cons', forB_nil', dMul_r, Int.reduceMul, Int.reduceLT, Int.reduceNeg, and_self, and_true, e0, e1, e2, e3]
  simp
  omega
theorem times_pr {m x y : Int} (hx : -1000 < x ∧ x < 1000) (hy : -1000 < y ∧ y < 1000) : m_times [.tuple [.int m, .int 0], .tuple [.int x, .int y]] = some (pr (m * x) (m * y)) := by
  have e1 : dMul (.int m) (.int x) = some (.int (m * x)) := dMul_r (by omega)
  have e2 : dMul (.int m) (.int y) = some (.int (m * y)) := dMul_r (by omega)
  have e3 : dMul (.int 2) (.int 0) = some (.int 0) := rfl
  have e4 : dMul (.int 0) (.int y) = some (.int (0 * y)) := dMul_r (by omega)
  have e5 : dMul (.int 0) (.int x) = some (.int (0 * x)) := dMul_r (by omega)
  simp only [m_times, un1_c, un2_c, un3_c, un4_c, un5_c, o_pure, o_bind, o_some, o_lift, flat_n, flat_tt, flat_tl, flats_nil, flats_cons, List.append_nil, List.cons_append, List.nil_append, dIx_t, dIx_l, at0, at1, at2, at3, dAdd_ii, dSub_ii, dNeg_i, dLt_ii, dLe_ii, dGt_ii, dGe_ii, dEq_i2, dNe_i2, dNe_bb, dEq_bb, dTruth_b, dBool_b, dInt_i, dLen_l, dLen_t, dTuple_l, dTuple_t, dIter_l, dIter_t, if_true, Bool.false_eq_true, if_false, Bool.not_true, Bool.not_false, e1, e2, e3, e4, e5, pr]
  simp
theorem plus_pr {a b c d : Int} : m_plus [.tuple [.int a, .int b], .tuple [.int c, .int d]] = some (pr (a + c) (b + d)) := by
  simp only [m_plus, un1_c, un2_c, un3_c, un4_c, un5_c, o_pure, o_bind, o_some, o_lift, flat_n, flat_tt, flat_tl, flats_nil, flats_cons, List.append_nil, List.cons_append, List.nil_append, dIx_t, dIx_l, at0, at1, at2, at3, dAdd_ii, dSub_ii, dNeg_i, dLt_ii, dLe_ii, dGt_ii, dGe_ii, dEq_i2, dNe_i2, dNe_bb, dEq_bb, dTruth_b, dBool_b, dInt_i, dLen_l, dLen_t, dTuple_l, dTuple_t, dIter_l, dIter_t, if_true, Bool.false_eq_true, if_false, Bool.not_true, Bool.not_false, pr]
theorem en4 (a b c d : Int) : enumA [T4 a b c d] = some [.tuple [.int 0, .int a], .tuple [.int 1, .int b], .tuple [.int 2, .int c], .tuple [.int 3, .int d]] := rfl
theorem placeof (a b c d : Int) : m_place_of [T4 a b c d] = some (.tuple [pr (2 * a) (b - d), pr (2 * c) (b + d)]) := by
  have e0 : m_eight_way [.int 0] = some (.tuple [pr 2 0, pr 0 0]) := isS_eq (by decide +kernel)
  have e1 : m_eight_way [.int 1] = some (.tuple [pr 0 1, pr 0 1]) := isS_eq (by decide +kernel)
  have e2 : m_eight_way [.int 2] = some (.tuple [pr 0 0, pr 2 0]) := isS_eq (by decide +kernel)
  have e3 : m_eight_way [.int 3] = some (.tuple [pr 0 (-1), pr 0 1]) := isS_eq (by decide +kernel)
  have t : ∀ {m x y : Int}, (-1000 < x ∧ x < 1000) → (-1000 < y ∧ y < 1000) → m_times [.tuple [.int m, .int 0], .tuple [.int x, .int y]] = some (.tuple [.int (m * x), .int (m * y)]) := fun h1 h2 => times_pr h1 h2
  have p : ∀ {a b c d : Int}, m_plus [.tuple [.int a, .int b], .tuple [.int c, .int d]] = some (.tuple [.int (a + c), .int (b + d)]) := plus_pr
  have ee := en4 a b c d
  unfold pr at *
  simp only [m_place_of, un1_c, un2_c, un3_c, un4_c, un5_c, o_pure, o_bind, o_some, o_lift, flat_n, flat_tt, flat_tl, flats_nil, flats_cons, List.append_nil, List.cons_append, List.nil_append, dIx_t, dIx_l, at0, at1, at2, at3, dAdd_ii, dSub_ii, dNeg_i, dLt_ii, dLe_ii, dGt_ii, dGe_ii, dEq_i2, dNe_i2, dNe_bb, dEq_bb, dTruth_b, dBool_b, dInt_i, dLen_l, dLen_t, dTuple_l, dTuple_t, dIter_l, dIter_t, if_true, Bool.false_eq_true, if_false, Bool.not_true, Bool.not_false, ee, forB_cons', forB_nil', e0, e1, e2, e3, t, p, Int.reduceLT, Int.reduceNeg, and_self]
  simp
  omega
theorem hidden (a b c d : Int) : m_hidden_place [T4 a b c d] = some (.tuple [pr (2 * a) (d - b), pr (-2 * c) (b + d)]) := by
  have e0 : m_eight_way [.int 0] = some (.tuple [pr 2 0, pr 0 0]) := isS_eq (by decide +kernel)
  have e1 : m_eight_way [.int 3] = some (.tuple [pr 0 (-1), pr 0 1]) := isS_eq (by decide +kernel)
  have e2 : m_eight_way [.int 6] = some (.tuple [pr 0 0, pr (-2) 0]) := isS_eq (by decide +kernel)
  have e3 : m_eight_way [.int 9] = some (.tuple [pr 0 1, pr 0 1]) := isS_eq (by decide +kernel)
  have t : ∀ {m x y : Int}, (-1000 < x ∧ x < 1000) → (-1000 < y ∧ y < 1000) → m_times [.tuple [.int m, .int 0], .tuple [.int x, .int y]] = some (.tuple [.int (m * x), .int (m * y)]) := fun h1 h2 => times_pr h1 h2
  have p : ∀ {a b c d : Int}, m_plus [.tuple [.int a, .int b], .tuple [.int c, .int d]] = some (.tuple [.int (a + c), .int (b + d)]) := plus_pr
  have ee := en4 a b c d
  unfold pr at *
  simp only [m_hidden_place, un1_c, un2_c, un3_c, un4_c, un5_c, o_pure, o_bind, o_some, o_lift, flat_n, flat_tt, flat_tl, flats_nil, flats_cons, List.append_nil, List.cons_append, List.nil_append, dIx_t, dIx_l, at0, at1, at2, at3, dAdd_ii, dSub_ii, dNeg_i, dLt_ii, dLe_ii, dGt_ii, dGe_ii, dEq_i2, dNe_i2, dNe_bb, dEq_bb, dTruth_b, dBool_b, dInt_i, dLen_l, dLen_t, dTuple_l, dTuple_t, dIter_l, dIter_t, if_true, Bool.false_eq_true, if_false, Bool.not_true, Bool.not_false, ee, forB_cons', forB_nil', dMul_r, Int.reduceMul, e0, e1, e2, e3, t, p, Int.reduceLT, Int.reduceNeg, and_self]
  simp
  omega
theorem turned_eq (a b c d : Int) : m_turned [T4 a b c d] = some (T4 (-d) a b c) := by
  simp only [m_turned, T4, un1_c, un2_c, un3_c, un4_c, un5_c, o_pure, o_bind, o_some, o_lift, flat_n, flat_tt, flat_tl, flats_nil, flats_cons, List.append_nil, List.cons_append, List.nil_append, dIx_t, dIx_l, at0, at1, at2, at3, dAdd_ii, dSub_ii, dNeg_i, dLt_ii, dLe_ii, dGt_ii, dGe_ii, dEq_i2, dNe_i2, dNe_bb, dEq_bb, dTruth_b, dBool_b, dInt_i, dLen_l, dLen_t, dTuple_l, dTuple_t, dIter_l, dIter_t, if_true, Bool.false_eq_true, if_false, Bool.not_true, Bool.not_false]
theorem root_pr (x y : Int) : m_law_root_times [.tuple [.int 0, .int 1], pr x y] = some (pr (2 * y) x) := by
  have e1 : dMul (.int 0) (.int x) = some (.int (0 * x)) := dMul_l (by omega)
  have e2 : dMul (.int 0) (.int y) = some (.int (0 * y)) := dMul_l (by omega)
  have e3 : dMul (.int 2) (.int 1) = some (.int 2) := rfl
  have e4 : dMul (.int 2) (.int y) = some (.int (2 * y)) := dMul_l (by omega)
  have e5 : dMul (.int 1) (.int x) = some (.int (1 * x)) := dMul_l (by omega)
  simp only [m_law_root_times, pr, un1_c, un2_c, un3_c, un4_c, un5_c, o_pure, o_bind, o_some, o_lift, flat_n, flat_tt, flat_tl, flats_nil, flats_cons, List.append_nil, List.cons_append, List.nil_append, dIx_t, dIx_l, at0, at1, at2, at3, dAdd_ii, dSub_ii, dNeg_i, dLt_ii, dLe_ii, dGt_ii, dGe_ii, dEq_i2, dNe_i2, dNe_bb, dEq_bb, dTruth_b, dBool_b, dInt_i, dLen_l, dLen_t, dTuple_l, dTuple_t, dIter_l, dIter_t, if_true, Bool.false_eq_true, if_false, Bool.not_true, Bool.not_false, e1, e2, e3, e4, e5]
  simp
theorem rootP (x y : Int) : m_times [.tuple [.int 0, .int 1], pr x y] = some (pr (2 * y) x) := by
  have e1 : dMul (.int 0) (.int x) = some (.int (0 * x)) := dMul_l (by omega)
  have e2 : dMul (.int 0) (.int y) = some (.int (0 * y)) := dMul_l (by omega)
  have e3 : dMul (.int 2) (.int 1) = some (.int 2) := rfl
  have e4 : dMul (.int 2) (.int y) = some (.int (2 * y)) := dMul_l (by omega)
  have e5 : dMul (.int 1) (.int x) = some (.int (1 * x)) := dMul_l (by omega)
  simp only [m_times, pr, un1_c, un2_c, un3_c, un4_c, un5_c, o_pure, o_bind, o_some, o_lift, flat_n, flat_tt, flat_tl, flats_nil, flats_cons, List.append_nil, List.cons_append, List.nil_append, dIx_t, dIx_l, at0, at1, at2, at3, dAdd_ii, dSub_ii, dNeg_i, dLt_ii, dLe_ii, dGt_ii, dGe_ii, dEq_i2, dNe_i2, dNe_bb, dEq_bb, dTruth_b, dBool_b, dInt_i, dLen_l, dLen_t, dTuple_l, dTuple_t, dIter_l, dIter_t, if_true, Bool.false_eq_true, if_false, Bool.not_true, Bool.not_false, e1, e2, e3, e4, e5]
  simp
theorem round_eq (a b c d : Int) : m_law_round [.tuple [pr a b, pr c d]] = some (.tuple [pr (a - c) (b - d), pr (a + c) (b + d)]) := by
  simp only [m_law_round, pr, un1_c, un2_c, un3_c, un4_c, un5_c, o_pure, o_bind, o_some, o_lift, flat_n, flat_tt, flat_tl, flats_nil, flats_cons, List.append_nil, List.cons_append, List.nil_append, dIx_t, dIx_l, at0, at1, at2, at3, dAdd_ii, dSub_ii, dNeg_i, dLt_ii, dLe_ii, dGt_ii, dGe_ii, dEq_i2, dNe_i2, dNe_bb, dEq_bb, dTruth_b, dBool_b, dInt_i, dLen_l, dLen_t, dTuple_l, dTuple_t, dIter_l, dIter_t, if_true, Bool.false_eq_true, if_false, Bool.not_true, Bool.not_false]
/-! ### octagons -/
def inO (a b c d u v : Int) : Bool := decide (li a b ≤ li u v) && decide (-li a b ≤ li u v) && decide (li c d ≤ li u v) && decide (-li c d ≤ li u v) &&
  decide (li a b + li c d ≤ li (2 * v) u) && decide (li a b - li c d ≤ li (2 * v) u) && decide (-li a b + li c d ≤ li (2 * v) u) && decide (-li a b - li c d ≤ li (2 * v) u)
theorem ab_cases (a b : Int) : ∃ x y, ab a b = pr x y ∧ ((x = a ∧ y = b ∧ 0 ≤ li a b) ∨ (x = -a ∧ y = -b ∧ li a b < 0)) := by
  unfold ab
  by_cases h : 0 ≤ li a b
  · exact ⟨a, b, if_pos h, .inl ⟨rfl, rfl, h⟩⟩
  · exact ⟨-a, -b, if_neg h, .inr ⟨rfl, rfl, by omega⟩⟩
theorem octa {a b c d u v : Int} (ha : -12 ≤ a ∧ a ≤ 12) (hb : -12 ≤ b ∧ b ≤ 12) (hc : -12 ≤ c ∧ c ≤ 12) (hd : -12 ≤ d ∧ d ≤ 12) (hu : 1 ≤ u ∧ u ≤ 4) (hv : 0 ≤ v ∧ v ≤ 2) : m_in_octagon [.tuple [pr a b, pr c d], pr u v] = some (.bool (inO a b c d u v)) := by
  have e1 := abs_eq (a := a) (b := b) (by omega) (by omega)
  have e2 := abs_eq (a := c) (b := d) (by omega) (by omega)
  obtain ⟨x, y, h1, q1⟩ := ab_cases a b
  obtain ⟨z, w, h2, q2⟩ := ab_cases c d
  rw [h1] at e1
  rw [h2] at e2
  have l1 := (less_eq (a := u) (b := v) (c := x) (d := y) (by omega) (by omega)).1
  have l2 := (less_eq (a := u) (b := v) (c := z) (d := w) (by omega) (by omega)).1
  have l3 := (less_eq (a := 2 * v) (b := u) (c := x + z) (d := y + w) (by omega) (by omega)).1
  have p : m_plus [pr x y, pr z w] = some (pr (x + z) (y + w)) := plus_pr
  have r := rootP u v
  simp only [m_in_octagon, un1_c, un2_c, un3_c, un4_c, un5_c, o_pure, o_bind, o_some, o_lift, flat_n, flat_tt, flat_tl, flats_nil, flats_cons, List.append_nil, List.cons_append, List.nil_append, dIx_t, dIx_l, at0, at1, at2, at3, dAdd_ii, dSub_ii, dNeg_i, dLt_ii, dLe_ii, dGt_ii, dGe_ii, dEq_i2, dNe_i2, dNe_bb, dEq_bb, dTruth_b, dBool_b, dInt_i, dLen_l, dLen_t, dTuple_l, dTuple_t, dIter_l, dIter_t, if_true, Bool.false_eq_true, if_false, Bool.not_true, Bool.not_false, e1, e2, l1, l2, l3, p, r]
  have k1 : decide (li u v < li x y) = (!(decide (li a b ≤ li u v) && decide (-li a b ≤ li u v))) := by
    rw [Bool.eq_iff_iff]; simp only [decide_eq_true_eq, Bool.not_eq_true', Bool.and_eq_false_iff, decide_eq_false_iff_not]
    unfold li at *; omega
  have k2 : decide (li u v < li z w) = (!(decide (li c d ≤ li u v) && decide (-li c d ≤ li u v))) := by
    rw [Bool.eq_iff_iff]; simp only [decide_eq_true_eq, Bool.not_eq_true', Bool.and_eq_false_iff, decide_eq_false_iff_not]
    unfold li at *; omega
  have k3 : decide (li (2 * v) u < li (x + z) (y + w)) = (!(decide (li a b + li c d ≤ li (2 * v) u) && decide (li a b - li c d ≤ li (2 * v) u) && decide (-li a b + li c d ≤ li (2 * v) u) && decide (-li a b - li c d ≤ li (2 * v) u))) := by
    rw [Bool.eq_iff_iff]; simp only [decide_eq_true_eq, Bool.not_eq_true', Bool.and_eq_false_iff, decide_eq_false_iff_not]
    unfold li at *; omega
  rw [k1, k2, k3]
  unfold inO
  generalize (decide (li a b ≤ li u v) && decide (-li a b ≤ li u v)) = A at *
  generalize decide (li c d ≤ li u v) = B at *
  generalize decide (-li c d ≤ li u v) = C at *
  generalize decide (li a b + li c d ≤ li (2 * v) u) = E at *
  generalize decide (li a b - li c d ≤ li (2 * v) u) = F at *
  generalize decide (-li a b + li c d ≤ li (2 * v) u) = G at *
  generalize decide (-li a b - li c d ≤ li (2 * v) u) = J at *
  cases A <;> cases B <;> cases C <;> cases E <;> cases F <;> cases G <;> cases J <;> rfl
theorem forO_c {α : Type} {f : α → D → Option (Out α)} {s : α} {x : D} {xs : List D} : forO f s (x :: xs) = (f s x).bind fun o => match o with
    | .nx s' => forO f s' xs
    | .ct s' => forO f s' xs
    | .bk s' => pure (.nx s')
    | .rt v => pure (.rt v) := id rfl
theorem comp_12 {i : Nat} {c : D → Option Bool} {B1 B2 : Bool} (h1 : c (.int 1) = some B1) (h2 : c (.int (-1)) = some B2) : compM (m := Option) (some [.int 1, .int (-1)]) (.n i) (un1 c) (un1 fun b => some b) = some (.list ((if B1 then [.int 1] else []) ++ (if B2 then [.int (-1)] else []))) := by
  have z : sizeL [PyData.int 1, .int (-1)] = some [.int 1, .int (-1)] := sizeL_some (by decide)
  unfold compM
  simp only [o_bind, o_lift, o_some, z, cmpD, turn_nc, h1, h2, o_pure]
  cases B1 <;> cases B2 <;> rfl
theorem ne_12 (B1 B2 : Bool) : dNe (.list ((if B1 then [PyData.int 1] else []) ++ (if B2 then [.int (-1)] else []))) (.list []) = some (.bool (B1 || B2)) := by
  cases B1 <;> cases B2 <;> exact isS_eq (by decide +kernel)
theorem inside {a b c d u v : Int} (ha : -12 ≤ a ∧ a ≤ 12) (hb : -12 ≤ b ∧ b ≤ 12) (hc : -12 ≤ c ∧ c ≤ 12) (hd : -12 ≤ d ∧ d ≤ 12) (hu : 1 ≤ u ∧ u ≤ 4) (hv : 0 ≤ v ∧ v ≤ 2) : m_law_inside [.tuple [pr a b, pr c d], pr u v] = some (.bool (inO a b c d u v)) := by
  have l1 := (less_eq (a := u) (b := v) (c := a) (d := b) (by omega) (by omega)).2
  have l2 := (less_eq (a := u) (b := v) (c := c) (d := d) (by omega) (by omega)).2
  have l3 := (less_eq (a := u) (b := v) (c := -a) (d := -b) (by omega) (by omega)).2
  have l4 := (less_eq (a := u) (b := v) (c := -c) (d := -d) (by omega) (by omega)).2
  have m1 := (less_eq (a := 2 * v) (b := u) (c := 1 * a + 1 * c) (d := 1 * b + 1 * d) (by omega) (by omega)).2
  have m2 := (less_eq (a := 2 * v) (b := u) (c := 1 * a + -1 * c) (d := 1 * b + -1 * d) (by omega) (by omega)).2
  have m3 := (less_eq (a := 2 * v) (b := u) (c := -1 * a + 1 * c) (d := -1 * b + 1 * d) (by omega) (by omega)).2
  have m4 := (less_eq (a := 2 * v) (b := u) (c := -1 * a + -1 * c) (d := -1 * b + -1 * d) (by omega) (by omega)).2
  have r := root_pr u v
  have k1 : decide (li u v < li a b) = !decide (li a b ≤ li u v) := by rw [Bool.eq_iff_iff]; simp
  have k2 : decide (li u v < li c d) = !decide (li c d ≤ li u v) := by rw [Bool.eq_iff_iff]; simp
  have k3 : decide (li u v < li (-a) (-b)) = !decide (-li a b ≤ li u v) := by rw [Bool.eq_iff_iff]; simp; unfold li; omega
  have k4 : decide (li u v < li (-c) (-d)) = !decide (-li c d ≤ li u v) := by rw [Bool.eq_iff_iff]; simp; unfold li; omega
  have n1 : decide (li (2 * v) u < li (1 * a + 1 * c) (1 * b + 1 * d)) = !decide (li a b + li c d ≤ li (2 * v) u) := by rw [Bool.eq_iff_iff]; simp; unfold li; omega
  have n2 : decide (li (2 * v) u < li (1 * a + -1 * c) (1 * b + -1 * d)) = !decide (li a b - li c d ≤ li (2 * v) u) := by rw [Bool.eq_iff_iff]; simp; unfold li; omega
  have n3 : decide (li (2 * v) u < li (-1 * a + 1 * c) (-1 * b + 1 * d)) = !decide (-li a b + li c d ≤ li (2 * v) u) := by rw [Bool.eq_iff_iff]; simp; unfold li; omega
  have n4 : decide (li (2 * v) u < li (-1 * a + -1 * c) (-1 * b + -1 * d)) = !decide (-li a b - li c d ≤ li (2 * v) u) := by rw [Bool.eq_iff_iff]; simp; unfold li; omega
  rw [k1] at l1; rw [k2] at l2; rw [k3] at l3; rw [k4] at l4; rw [n1] at m1; rw [n2] at m2; rw [n3] at m3; rw [n4] at m4
  unfold inO
  generalize decide (li a b ≤ li u v) = B1 at *
  generalize decide (-li a b ≤ li u v) = B3 at *
  generalize decide (li c d ≤ li u v) = B2 at *
  generalize decide (-li c d ≤ li u v) = B4 at *
  generalize decide (li a b + li c d ≤ li (2 * v) u) = C1 at *
  generalize decide (li a b - li c d ≤ li (2 * v) u) = C2 at *
  generalize decide (-li a b + li c d ≤ li (2 * v) u) = C3 at *
  generalize decide (-li a b - li c d ≤ li (2 * v) u) = C4 at *
  have f1 : ∀ (x : Int), dMul (.int 1) (.int x) = some (.int (1 * x)) := fun x => dMul_l (by omega)
  have f2 : ∀ (x : Int), dMul (.int (-1)) (.int x) = some (.int (-1 * x)) := fun x => dMul_l (by omega)
  unfold pr at *
  simp only [m_law_inside, un1_c, un2_c, un3_c, un4_c, un5_c, o_pure, o_bind, o_some, o_lift, flat_n, flat_tt, flat_tl, flats_nil, flats_cons, List.append_nil, List.cons_append, List.nil_append, dIx_t, dIx_l, at0, at1, at2, at3, dAdd_ii, dSub_ii, dNeg_i, dLt_ii, dLe_ii, dGt_ii, dGe_ii, dEq_i2, dNe_i2, dNe_bb, dEq_bb, dTruth_b, dBool_b, dInt_i, dLen_l, dLen_t, dTuple_l, dTuple_t, dIter_l, dIter_t, if_true, Bool.false_eq_true, if_false, Bool.not_true, Bool.not_false, forO_c, forO_nil, l1, l2, l3, l4, r]
  cases B1 <;> simp only [un1_c, un2_c, un3_c, un4_c, un5_c, o_pure, o_bind, o_some, o_lift, flat_n, flat_tt, flat_tl, flats_nil, flats_cons, List.append_nil, List.cons_append, List.nil_append, dIx_t, dIx_l, at0, at1, at2, at3, dAdd_ii, dSub_ii, dNeg_i, dLt_ii, dLe_ii, dGt_ii, dGe_ii, dEq_i2, dNe_i2, dNe_bb, dEq_bb, dTruth_b, dBool_b, dInt_i, dLen_l, dLen_t, dTuple_l, dTuple_t, dIter_l, dIter_t, if_true, Bool.false_eq_true, if_false, Bool.not_true, Bool.not_false, thenT_rt, thenT_nx]
  · simp
  cases B2 <;> simp only [un1_c, un2_c, un3_c, un4_c, un5_c, o_pure, o_bind, o_some, o_lift, flat_n, flat_tt, flat_tl, flats_nil, flats_cons, List.append_nil, List.cons_append, List.nil_append, dIx_t, dIx_l, at0, at1, at2, at3, dAdd_ii, dSub_ii, dNeg_i, dLt_ii, dLe_ii, dGt_ii, dGe_ii, dEq_i2, dNe_i2, dNe_bb, dEq_bb, dTruth_b, dBool_b, dInt_i, dLen_l, dLen_t, dTuple_l, dTuple_t, dIter_l, dIter_t, if_true, Bool.false_eq_true, if_false, Bool.not_true, Bool.not_false, thenT_rt, thenT_nx]
  · simp
  cases B3 <;> simp only [un1_c, un2_c, un3_c, un4_c, un5_c, o_pure, o_bind, o_some, o_lift, flat_n, flat_tt, flat_tl, flats_nil, flats_cons, List.append_nil, List.cons_append, List.nil_append, dIx_t, dIx_l, at0, at1, at2, at3, dAdd_ii, dSub_ii, dNeg_i, dLt_ii, dLe_ii, dGt_ii, dGe_ii, dEq_i2, dNe_i2, dNe_bb, dEq_bb, dTruth_b, dBool_b, dInt_i, dLen_l, dLen_t, dTuple_l, dTuple_t, dIter_l, dIter_t, if_true, Bool.false_eq_true, if_false, Bool.not_true, Bool.not_false, thenT_rt, thenT_nx]
  · simp
  cases B4 <;> simp only [un1_c, un2_c, un3_c, un4_c, un5_c, o_pure, o_bind, o_some, o_lift, flat_n, flat_tt, flat_tl, flats_nil, flats_cons, List.append_nil, List.cons_append, List.nil_append, dIx_t, dIx_l, at0, at1, at2, at3, dAdd_ii, dSub_ii, dNeg_i, dLt_ii, dLe_ii, dGt_ii, dGe_ii, dEq_i2, dNe_i2, dNe_bb, dEq_bb, dTruth_b, dBool_b, dInt_i, dLen_l, dLen_t, dTuple_l, dTuple_t, dIter_l, dIter_t, if_true, Bool.false_eq_true, if_false, Bool.not_true, Bool.not_false, thenT_rt, thenT_nx]
  · simp
  rw [comp_12 (B1 := !C1) (B2 := !C2) (by simp only [un1_c, un2_c, un3_c, un4_c, un5_c, o_pure, o_bind, o_some, o_lift, flat_n, flat_tt, flat_tl, flats_nil, flats_cons, List.append_nil, List.cons_append, List.nil_append, dIx_t, dIx_l, at0, at1, at2, at3, dAdd_ii, dSub_ii, dNeg_i, dLt_ii, dLe_ii, dGt_ii, dGe_ii, dEq_i2, dNe_i2, dNe_bb, dEq_bb, dTruth_b, dBool_b, dInt_i, dLen_l, dLen_t, dTuple_l, dTuple_t, dIter_l, dIter_t, if_true, Bool.false_eq_true, if_false, Bool.not_true, Bool.not_false, f1, f2, m1]) (by simp only [un1_c, un2_c, un3_c, un4_c, un5_c, o_pure, o_bind, o_some, o_lift, flat_n, flat_tt, flat_tl, flats_nil, flats_cons, List.append_nil, List.cons_append, List.nil_append, dIx_t, dIx_l, at0, at1, at2, at3, dAdd_ii, dSub_ii, dNeg_i, dLt_ii, dLe_ii, dGt_ii, dGe_ii, dEq_i2, dNe_i2, dNe_bb, dEq_bb, dTruth_b, dBool_b, dInt_i, dLen_l, dLen_t, dTuple_l, dTuple_t, dIter_l, dIter_t, if_true, Bool.false_eq_true, if_false, Bool.not_true, Bool.not_false, f1, f2, m2]), comp_12 (B1 := !C3) (B2 := !C4) (by simp only [un1_c, un2_c, un3_c, un4_c, un5_c, o_pure, o_bind, o_some, o_lift, flat_n, flat_tt, flat_tl, flats_nil, flats_cons, List.append_nil, List.cons_append, List.nil_append, dIx_t, dIx_l, at0, at1, at2, at3, dAdd_ii, dSub_ii, dNeg_i, dLt_ii, dLe_ii, dGt_ii, dGe_ii, dEq_i2, dNe_i2, dNe_bb, dEq_bb, dTruth_b, dBool_b, dInt_i, dLen_l, dLen_t, dTuple_l, dTuple_t, dIter_l, dIter_t, if_true, Bool.false_eq_true, if_false, Bool.not_true, Bool.not_false, f1, f2, m3]) (by simp only [un1_c, un2_c, un3_c, un4_c, un5_c, o_pure, o_bind, o_some, o_lift, flat_n, flat_tt, flat_tl, flats_nil, flats_cons, List.append_nil, List.cons_append, List.nil_append, dIx_t, dIx_l, at0, at1, at2, at3, dAdd_ii, dSub_ii, dNeg_i, dLt_ii, dLe_ii, dGt_ii, dGe_ii, dEq_i2, dNe_i2, dNe_bb, dEq_bb, dTruth_b, dBool_b, dInt_i, dLen_l, dLen_t, dTuple_l, dTuple_t, dIter_l, dIter_t, if_true, Bool.false_eq_true, if_false, Bool.not_true, Bool.not_false, f1, f2, m4])]
  simp only [un1_c, un2_c, un3_c, un4_c, un5_c, o_pure, o_bind, o_some, o_lift, flat_n, flat_tt, flat_tl, flats_nil, flats_cons, List.append_nil, List.cons_append, List.nil_append, dIx_t, dIx_l, at0, at1, at2, at3, dAdd_ii, dSub_ii, dNeg_i, dLt_ii, dLe_ii, dGt_ii, dGe_ii, dEq_i2, dNe_i2, dNe_bb, dEq_bb, dTruth_b, dBool_b, dInt_i, dLen_l, dLen_t, dTuple_l, dTuple_t, dIter_l, dIter_t, if_true, Bool.false_eq_true, if_false, Bool.not_true, Bool.not_false, ne_12]
  cases C1 <;> cases C2 <;> cases C3 <;> cases C4 <;> rfl
theorem eight_all : ((List.range 33).all fun i => match m_law_eighth [.int ((i : Int) - 16)], m_eight_way [.int ((i : Int) - 16)] with | some x, some y => eqD x y && good 7 x | _, _ => false) = true := by decide +kernel
theorem eight_eq {k : Int} (h : -16 ≤ k ∧ k ≤ 16) : ∃ d, m_law_eighth [.int k] = some d ∧ m_eight_way [.int k] = some d ∧ good 7 d = true := by
  obtain ⟨i, hi⟩ := Int.eq_ofNat_of_zero_le (a := k + 16) (by omega)
  have h := List.all_eq_true.mp eight_all i (by rw [List.mem_range]; omega)
  have e : (i : Int) - 16 = k := by omega
  rw [e] at h
  split at h
  · rename_i x y h1 h2
    rw [Bool.and_eq_true] at h
    exact ⟨x, h1, by rw [eqD_eq _ _ h.1]; exact h2, h.2⟩
  · cases h
theorem four_of {ys : List D} (hl : ys.length = 4) (h : ∀ y ∈ ys, ∃ a : Int, y = .int a ∧ -6 ≤ a ∧ a ≤ 6) : ∃ a b c d : Int, ys = [.int a, .int b, .int c, .int d] ∧ (-6 ≤ a ∧ a ≤ 6) ∧ (-6 ≤ b ∧ b ≤ 6) ∧ (-6 ≤ c ∧ c ≤ 6) ∧ (-6 ≤ d ∧ d ≤ 6) := by
  match ys, hl with
  | [p, q, r, t], _ =>
    obtain ⟨a, rfl, h1⟩ := h p (by simp)
    obtain ⟨b, rfl, h2⟩ := h q (by simp)
    obtain ⟨c, rfl, h3⟩ := h r (by simp)
    obtain ⟨d, rfl, h4⟩ := h t (by simp)
    exact ⟨a, b, c, d, rfl, h1, h2, h3, h4⟩
theorem comp_pair {it : Option (List D)} {i : Nat} {x : D → Option D} {p q p' q' : D} (h : it = some [p, q]) (h1 : x p = some p') (h2 : x q = some q') : compM it (.n i) (fun _ => pure true) (un1 x) = some (.list [p', q']) := by
  unfold compM
  rw [h]
  have z : sizeL [p, q] = some [p, q] := sizeL_some (show 2 ≤ 16777216 by decide)
  have t1 : turnM (m := Option) (.n i) (fun _ => pure true) (un1 x) p = some (some p') := by rw [turn_n, h1]; rfl
  have t2 : turnM (m := Option) (.n i) (fun _ => pure true) (un1 x) q = some (some q') := by rw [turn_n, h2]; rfl
  simp only [o_bind, o_lift, o_some, z, cmpD, t1, t2]
  rfl
theorem ne_pp {a b c d a' b' c' d' : Int} (h1 : a = a') (h2 : b = b') (h3 : c = c') (h4 : d = d') : dNe (.tuple [pr a b, pr c d]) (.tuple [pr a' b', pr c' d']) = some (.bool false) := by
  rw [h1, h2, h3, h4]
  exact dNe_self rfl (by simp [pr, PyData.depth, PyData.depthAll]) (fun i h => nomatch h)
def rt1 : D → D
  | .tuple [.int x, .int y] => pr (2 * y) x
  | d => d
def rd (h : D) (_ : D) : D := match h with
  | .tuple [.tuple [.int a, .int b], .tuple [.int c, .int d]] => .tuple [pr (a - c) (b - d), pr (a + c) (b + d)]
  | d => d
theorem forB_cm {m : Type → Type} [PM m] {α : Type} {f : α → D → m α} {s : α} {x : D} {xs : List D} : forB f s (x :: xs) = f s x >>= fun s' => forB f s' xs := id rfl
theorem forB_nm {m : Type → Type} [PM m] {α : Type} {f : α → D → m α} {s : α} : forB f s [] = pure s := id rfl
/-! ### the last part, by computation -/
def chk (x : PP D) (v : D) : Bool := x.f fun a => eqD a v
def chkL (x : PP (List D)) (v : List D) : Bool := x.f fun a => eqDs a v
def isTr : D → Bool | .bool true => true | _ => false
def chkF (x : PP Bool) : Bool := x.f fun a => !a
def chkT (x : PP D) : Bool := x.f isTr
theorem run_eq {x : PP D} {v : D} {K : D → Prop} (e : chk x v = true) (h : K v) : PM.run x K := PM.mono (fun a (q : a = v) => q ▸ h) (run_by (K := fun a => a = v) (fun a => eqD a v) (fun a q => eqD_eq a v q) e)
theorem un2_run {f : D → D → PP D} {a b : D} {K : D → Prop} (h : PM.run (f a b) K) : PM.run (un2 f [a, b]) K := h
theorem run_f {x : PP Bool} {K : Bool → Prop} (e : chkF x = true) (h : K false) : PM.run x K := PM.mono (fun a (q : a = false) => q ▸ h) (run_by (K := fun a => a = false) (fun a => !a) (fun a q => by cases a <;> simp_all) e)
theorem run_forB_app {f : D → D → PP D} {K : D → Prop} : ∀ {xs ys : List D} {s : D}, PM.run (forB f s xs) (fun s' => PM.run (forB f s' ys) K) → PM.run (forB f s (xs ++ ys)) K
  | [], ys, s, h => (PM.run_pure s _).mp h
  | x :: xs, ys, s, h => run_b (PM.mono (fun s' h' => run_forB_app h') ((PM.run_bind _ _ _).mp h))
theorem part {f : D → D → PP D} {K : D → Prop} {xs : List D} (ys zs : List D) {s s' : D} (e : chk (forB f s xs) s' = true) (h : PM.run (forB f s' ys) K) (ez : xs ++ ys = zs) : PM.run (forB f s zs) K := ez ▸ run_forB_app (run_eq e h)
def q4 (a b c d : Int) : D := .tuple [.int a, .int b, .int c, .int d]
def q2 (a b : Int) : D := .tuple [.int a, .int b]
def isD (o : Option D) (d : D) : Bool := match o with | some a => eqD a d | none => false
theorem opt_eq {o : Option D} {d : D} (h : isD o d = true) : o = some d := by
  cases o with
  | none => cases h
  | some a => exact congrArg some (eqD_eq a d h)
theorem isTr_eq : ∀ a, isTr a = true → a = .bool true := fun a h => by
  unfold isTr at h
  split at h
  · rfl
  · cases h

def tA (most_17 wide_18 : D) : PP D := ((((PM.lift (dNeg most_17)) >>= fun a => ((PM.lift (dAdd most_17 (.int 1))) >>= fun a => pure (a :: [])) >>= fun l => pure (a :: l)) >>= fun l => PM.lift (rng2L l)) >>= fun ps => forB (fun (s_19 : D) a_20 => (((((PM.lift (dNeg most_17)) >>= fun a => ((PM.lift (dAdd most_17 (.int 1))) >>= fun a => pure (a :: [])) >>= fun l => pure (a :: l)) >>= fun l => PM.lift (rng2L l)) >>= fun ps => forB (fun (s_21 : D) b_22 => (((((PM.lift (dNeg most_17)) >>= fun a => ((PM.lift (dAdd most_17 (.int 1))) >>= fun a => pure (a :: [])) >>= fun l => pure (a :: l)) >>= fun l => PM.lift (rng2L l)) >>= fun ps => forB (fun (s_23 : D) c_24 => (((compM (((PM.lift (dNeg most_17)) >>= fun a => ((PM.lift (dAdd most_17 (.int 1))) >>= fun a => pure (a :: [])) >>= fun l => pure (a :: l)) >>= fun l => PM.lift (rng2L l)) (.n 19) (un1 fun d_25 => ((((PM.lift (m_law_place [(.tuple [a_20, b_22, c_24, d_25]), (.int 3)])) >>= fun a => pure (a :: [wide_18])) >>= fun l => PM.lift (m_law_inside l)) >>= fun p => PM.lift (dTruth p))) (un1 fun d_25 => (pure (.tuple [a_20, b_22, c_24, d_25])))) >>= fun q => PM.lift (dAdd s_23 q)) >>= fun rows_26 => pure rows_26)) s_21 ps) >>= fun (s_23 : D) => pure s_23)) s_19 ps) >>= fun (s_21 : D) => pure s_21)) (.list []) ps)
def tB (s_19 told_27 : D) : PP Bool := ((((PM.lift ((m_law_exact 8) [s_19, told_27])) >>= fun p => PM.lift (dTruth p)) >>= fun c => pure (!c)) >>= fun c => if c = true then pure true else ((compM (PM.lift (dIter s_19)) (.n 21) (un1 fun row_28 => ((PM.lift (m_turned [row_28])) >>= fun p => PM.lift ((dNotIn p s_19).bind dBool))) (un1 fun row_28 => (pure row_28))) >>= fun p => PM.lift ((dNe p (.list [])).bind dBool)))
def tR (s_19 : D) : PP (List D) := (((PM.lift ((f1 dLen) [s_19])) >>= fun a => pure (a :: [])) >>= fun l => PM.lift (rng1L l))
def tF (s_19 : D) : D → D → PP D := (fun (s_29 : D) i_30 => (((((PM.lift ((f1 dLen) [s_19])) >>= fun a => pure (a :: [])) >>= fun l => PM.lift (rng1L l)) >>= fun ps => forB (fun (s_31 : D) j_32 => ((compM (PM.lift (rng1L [(.int 4)])) (.n 25) (fun _ => pure true) (un1 fun m_33 => (((PM.lift (dIx s_19 j_32)) >>= fun p => PM.lift (dIx p m_33)) >>= fun p => ((PM.lift (dIx s_19 i_30)) >>= fun p => PM.lift (dIx p m_33)) >>= fun q => PM.lift (dSub p q)))) >>= fun gap_34 => (((((((PM.lift ((f1 dSorted) [gap_34])) >>= fun p => PM.lift (dEq p (.list [(.int 0), (.int 0), (.int 0), (.int 1)]))) >>= fun a => pure (a :: [])) >>= fun l => PM.lift ((f1 dInt) l)) >>= fun q => PM.lift (dMul (.list [(.tuple [i_30, j_32])]) q)) >>= fun q => PM.lift (dAdd s_31 q)) >>= fun ties_35 => pure ties_35))) s_29 ps) >>= fun (s_31 : D) => pure s_31))
def tD (s_19 s_29 : D) : PP D := (((((((PM.lift ((f1 dList) [s_19])) >>= fun a => pure (a :: [])) >>= fun l => PM.lift (m_ties_of l)) >>= fun a => pure (a :: [])) >>= fun l => pure (s_29 :: l)) >>= fun l => PM.lift ((m_law_exact 8) l)) >>= fun p => PM.lift (dBool p) >>= fun k => if k = true then (PM.lift (m_in_octagon [(.tuple [(.tuple [(.int 1), (.int 0)]), (.tuple [(.int 0), (.int 0)])]), (.tuple [(.int 1), (.int 0)])])) else pure (.bool false))
def tail (most wide : D) : PP D := tA most wide >>= fun s => PM.lift (m_chosen_places [most, wide]) >>= fun told => tB s told >>= fun c => if c = true then pure (.bool false) else (tR s >>= fun ps => forB (tF s) (.list []) ps) >>= fun t => tD s t
theorem run_of {α : Type} {x y : PP α} {K : α → Prop} (e : x = y) (h : PM.run y K) : PM.run x K := e ▸ h
theorem tail_run2 {w rows ties : D} {n : List D} (h1 : chk (tA (.int 1) w) rows = true) (h2 : m_chosen_places [.int 1, w] = some rows) (h3 : chkF (tB rows rows) = true) (h4 : chkL (tR rows) n = true) (h5 : PM.run (forB (tF rows) (.list []) n) (fun s => s = ties)) (h6 : chkT (tD rows ties) = true) : PM.run ((((((PM.lift (dNeg (.int 1))) >>= fun a => ((PM.lift (dAdd (.int 1) (.int 1))) >>= fun a => pure (a :: [])) >>= fun l => pure (a :: l)) >>= fun l => PM.lift (rng2L l)) >>= fun ps => forB (fun (s_19 : D) a_20 => (((((PM.lift (dNeg (.int 1))) >>= fun a => ((PM.lift (dAdd (.int 1) (.int 1))) >>= fun a => pure (a :: [])) >>= fun l => pure (a :: l)) >>= fun l => PM.lift (rng2L l)) >>= fun ps => forB (fun (s_21 : D) b_22 => (((((PM.lift (dNeg (.int 1))) >>= fun a => ((PM.lift (dAdd (.int 1) (.int 1))) >>= fun a => pure (a :: [])) >>= fun l => pure (a :: l)) >>= fun l => PM.lift (rng2L l)) >>= fun ps => forB (fun (s_23 : D) c_24 => (((compM (((PM.lift (dNeg (.int 1))) >>= fun a => ((PM.lift (dAdd (.int 1) (.int 1))) >>= fun a => pure (a :: [])) >>= fun l => pure (a :: l)) >>= fun l => PM.lift (rng2L l)) (.n 19) (un1 fun d_25 => ((((PM.lift (m_law_place [(.tuple [a_20, b_22, c_24, d_25]), (.int 3)])) >>= fun a => pure (a :: [w])) >>= fun l => PM.lift (m_law_inside l)) >>= fun p => PM.lift (dTruth p))) (un1 fun d_25 => (pure (.tuple [a_20, b_22, c_24, d_25])))) >>= fun q => PM.lift (dAdd s_23 q)) >>= fun rows_26 => pure rows_26)) s_21 ps) >>= fun (s_23 : D) => pure s_23)) s_19 ps) >>= fun (s_21 : D) => pure s_21)) (.list []) ps)) >>= fun (s_19 : D) => (PM.lift (m_chosen_places [(.int 1), w])) >>= fun told_27 => (((((PM.lift ((m_law_exact 8) [s_19, told_27])) >>= fun p => PM.lift (dTruth p)) >>= fun c => pure (!c)) >>= fun c => if c = true then pure true else ((compM (PM.lift (dIter s_19)) (.n 21) (un1 fun row_28 => ((PM.lift (m_turned [row_28])) >>= fun p => PM.lift ((dNotIn p s_19).bind dBool))) (un1 fun row_28 => (pure row_28))) >>= fun p => PM.lift ((dNe p (.list [])).bind dBool)))) >>= fun c => if c = true then (pure (.bool false)) else ((((((PM.lift ((f1 dLen) [s_19])) >>= fun a => pure (a :: [])) >>= fun l => PM.lift (rng1L l)) >>= fun ps => forB (fun (s_29 : D) i_30 => (((((PM.lift ((f1 dLen) [s_19])) >>= fun a => pure (a :: [])) >>= fun l => PM.lift (rng1L l)) >>= fun ps => forB (fun (s_31 : D) j_32 => ((compM (PM.lift (rng1L [(.int 4)])) (.n 25) (fun _ => pure true) (un1 fun m_33 => (((PM.lift (dIx s_19 j_32)) >>= fun p => PM.lift (dIx p m_33)) >>= fun p => ((PM.lift (dIx s_19 i_30)) >>= fun p => PM.lift (dIx p m_33)) >>= fun q => PM.lift (dSub p q)))) >>= fun gap_34 => (((((((PM.lift ((f1 dSorted) [gap_34])) >>= fun p => PM.lift (dEq p (.list [(.int 0), (.int 0), (.int 0), (.int 1)]))) >>= fun a => pure (a :: [])) >>= fun l => PM.lift ((f1 dInt) l)) >>= fun q => PM.lift (dMul (.list [(.tuple [i_30, j_32])]) q)) >>= fun q => PM.lift (dAdd s_31 q)) >>= fun ties_35 => pure ties_35))) s_29 ps) >>= fun (s_31 : D) => pure s_31)) (.list []) ps)) >>= fun (s_29 : D) => (((((((PM.lift ((f1 dList) [s_19])) >>= fun a => pure (a :: [])) >>= fun l => PM.lift (m_ties_of l)) >>= fun a => pure (a :: [])) >>= fun l => pure (s_29 :: l)) >>= fun l => PM.lift ((m_law_exact 8) l)) >>= fun p => PM.lift (dBool p) >>= fun k => if k = true then (PM.lift (m_in_octagon [(.tuple [(.tuple [(.int 1), (.int 0)]), (.tuple [(.int 0), (.int 0)])]), (.tuple [(.int 1), (.int 0)])])) else pure (.bool false))) : PP D) fun p => p = .bool true := by
  refine run_b (run_eq h1 (run_lb h2 (run_b (run_f h3 ?_))))
  refine run_of (if_neg Bool.false_ne_true) ?_
  refine run_b (run_b (run_of (y := tR rows) rfl (PM.mono (fun ps e => ?_) (run_by (K := fun ps => ps = n) (fun ps => eqDs ps n) (fun a q => eqDs_eq a n q) h4))))
  refine run_of (y := forB (tF rows) (.list []) n) (by rw [e]; rfl) ?_
  refine PM.mono (fun s e => ?_) h5
  subst e
  refine run_of (y := tD rows s) rfl ?_
  exact run_by isTr isTr_eq h6
def R0 : D := .list [q4 (-1) (-1) (-1) (0), q4 (-1) (-1) (0) (1), q4 (-1) (0) (1) (1), q4 (0) (-1) (-1) (-1), q4 (0) (0) (0) (0), q4 (0) (1) (1) (1), q4 (1) (0) (-1) (-1), q4 (1) (1) (0) (-1), q4 (1) (1) (1) (0)]
def T0_5 : D := .list []
def T0_9 : D := .list []
def N0_0 : List D := [.int 0, .int 1, .int 2, .int 3, .int 4, .int 5, .int 6, .int 7, .int 8]
def N0_5 : List D := [.int 5, .int 6, .int 7, .int 8]
def X0_0 : List D := [.int 0, .int 1, .int 2, .int 3, .int 4]
theorem c0_0 : chk (forB (tF R0) (.list []) X0_0) T0_5 = true := by decide +kernel
theorem c0_5 : chk (forB (tF R0) T0_5 N0_5) T0_9 = true := by decide +kernel
theorem p0_5 : PM.run (forB (tF R0) T0_5 N0_5) (fun s => s = T0_9) := run_eq c0_5 rfl
theorem p0_0 : PM.run (forB (tF R0) (.list []) N0_0) (fun s => s = T0_9) := part N0_5 N0_0 c0_0 p0_5 rfl
theorem a0 : chk (tA (.int 1) (.tuple [.int 1, .int 0])) R0 = true := by decide +kernel
theorem b0 : m_chosen_places [.int 1, (.tuple [.int 1, .int 0])] = some R0 := opt_eq (by decide +kernel)
theorem d0 : chkF (tB R0 R0) = true := by decide +kernel
theorem fl0 : chkL (tR R0) N0_0 = true := by decide +kernel
theorem e0 : chkT (tD R0 T0_9) = true := by decide +kernel
theorem u0 : PM.run ((((((PM.lift (dNeg (.int 1))) >>= fun a => ((PM.lift (dAdd (.int 1) (.int 1))) >>= fun a => pure (a :: [])) >>= fun l => pure (a :: l)) >>= fun l => PM.lift (rng2L l)) >>= fun ps => forB (fun (s_19 : D) a_20 => (((((PM.lift (dNeg (.int 1))) >>= fun a => ((PM.lift (dAdd (.int 1) (.int 1))) >>= fun a => pure (a :: [])) >>= fun l => pure (a :: l)) >>= fun l => PM.lift (rng2L l)) >>= fun ps => forB (fun (s_21 : D) b_22 => (((((PM.lift (dNeg (.int 1))) >>= fun a => ((PM.lift (dAdd (.int 1) (.int 1))) >>= fun a => pure (a :: [])) >>= fun l => pure (a :: l)) >>= fun l => PM.lift (rng2L l)) >>= fun ps => forB (fun (s_23 : D) c_24 => (((compM (((PM.lift (dNeg (.int 1))) >>= fun a => ((PM.lift (dAdd (.int 1) (.int 1))) >>= fun a => pure (a :: [])) >>= fun l => pure (a :: l)) >>= fun l => PM.lift (rng2L l)) (.n 19) (un1 fun d_25 => ((((PM.lift (m_law_place [(.tuple [a_20, b_22, c_24, d_25]), (.int 3)])) >>= fun a => pure (a :: [(.tuple [.int 1, .int 0])])) >>= fun l => PM.lift (m_law_inside l)) >>= fun p => PM.lift (dTruth p))) (un1 fun d_25 => (pure (.tuple [a_20, b_22, c_24, d_25])))) >>= fun q => PM.lift (dAdd s_23 q)) >>= fun rows_26 => pure rows_26)) s_21 ps) >>= fun (s_23 : D) => pure s_23)) s_19 ps) >>= fun (s_21 : D) => pure s_21)) (.list []) ps)) >>= fun (s_19 : D) => (PM.lift (m_chosen_places [(.int 1), (.tuple [.int 1, .int 0])])) >>= fun told_27 => (((((PM.lift ((m_law_exact 8) [s_19, told_27])) >>= fun p => PM.lift (dTruth p)) >>= fun c => pure (!c)) >>= fun c => if c = true then pure true else ((compM (PM.lift (dIter s_19)) (.n 21) (un1 fun row_28 => ((PM.lift (m_turned [row_28])) >>= fun p => PM.lift ((dNotIn p s_19).bind dBool))) (un1 fun row_28 => (pure row_28))) >>= fun p => PM.lift ((dNe p (.list [])).bind dBool)))) >>= fun c => if c = true then (pure (.bool false)) else ((((((PM.lift ((f1 dLen) [s_19])) >>= fun a => pure (a :: [])) >>= fun l => PM.lift (rng1L l)) >>= fun ps => forB (fun (s_29 : D) i_30 => (((((PM.lift ((f1 dLen) [s_19])) >>= fun a => pure (a :: [])) >>= fun l => PM.lift (rng1L l)) >>= fun ps => forB (fun (s_31 : D) j_32 => ((compM (PM.lift (rng1L [(.int 4)])) (.n 25) (fun _ => pure true) (un1 fun m_33 => (((PM.lift (dIx s_19 j_32)) >>= fun p => PM.lift (dIx p m_33)) >>= fun p => ((PM.lift (dIx s_19 i_30)) >>= fun p => PM.lift (dIx p m_33)) >>= fun q => PM.lift (dSub p q)))) >>= fun gap_34 => (((((((PM.lift ((f1 dSorted) [gap_34])) >>= fun p => PM.lift (dEq p (.list [(.int 0), (.int 0), (.int 0), (.int 1)]))) >>= fun a => pure (a :: [])) >>= fun l => PM.lift ((f1 dInt) l)) >>= fun q => PM.lift (dMul (.list [(.tuple [i_30, j_32])]) q)) >>= fun q => PM.lift (dAdd s_31 q)) >>= fun ties_35 => pure ties_35))) s_29 ps) >>= fun (s_31 : D) => pure s_31)) (.list []) ps)) >>= fun (s_29 : D) => (((((((PM.lift ((f1 dList) [s_19])) >>= fun a => pure (a :: [])) >>= fun l => PM.lift (m_ties_of l)) >>= fun a => pure (a :: [])) >>= fun l => pure (s_29 :: l)) >>= fun l => PM.lift ((m_law_exact 8) l)) >>= fun p => PM.lift (dBool p) >>= fun k => if k = true then (PM.lift (m_in_octagon [(.tuple [(.tuple [(.int 1), (.int 0)]), (.tuple [(.int 0), (.int 0)])]), (.tuple [(.int 1), (.int 0)])])) else pure (.bool false))) : PP D) fun p => p = .bool true := tail_run2 (w := .tuple [.int 1, .int 0]) (n := N0_0) a0 b0 d0 fl0 p0_0 e0
def R1 : D := .list [q4 (-1) (-1) (-1) (-1), q4 (-1) (-1) (-1) (0), q4 (-1) (-1) (-1) (1), q4 (-1) (-1) (0) (0), q4 (-1) (-1) (0) (1), q4 (-1) (-1) (1) (1), q4 (-1) (0) (0) (0), q4 (-1) (0) (0) (1), q4 (-1) (0) (1) (1), q4 (-1) (1) (1) (1), q4 (0) (-1) (-1) (-1), q4 (0) (-1) (-1) (0), q4 (0) (-1) (0) (0), q4 (0) (0) (-1) (-1), q4 (0) (0) (-1) (0), q4 (0) (0) (0) (-1), q4 (0) (0) (0) (0), q4 (0) (0) (0) (1), q4 (0) (0) (1) (0), q4 (0) (0) (1) (1), q4 (0) (1) (0) (0), q4 (0) (1) (1) (0), q4 (0) (1) (1) (1), q4 (1) (-1) (-1) (-1), q4 (1) (0) (-1) (-1), q4 (1) (0) (0) (-1), q4 (1) (0) (0) (0), q4 (1) (1) (-1) (-1), q4 (1) (1) (0) (-1), q4 (1) (1) (0) (0), q4 (1) (1) (1) (-1), q4 (1) (1) (1) (0), q4 (1) (1) (1) (1)]
def T1_5 : D := .list [q2 0 1, q2 0 10, q2 1 2, q2 1 3, q2 1 11, q2 2 4, q2 3 4, q2 3 6, q2 3 12, q2 4 5, q2 4 7]
def T1_10 : D := .list [q2 0 1, q2 0 10, q2 1 2, q2 1 3, q2 1 11, q2 2 4, q2 3 4, q2 3 6, q2 3 12, q2 4 5, q2 4 7, q2 5 8, q2 6 7, q2 6 16, q2 7 8, q2 7 17, q2 8 9, q2 8 19, q2 9 22]
def T1_15 : D := .list [q2 0 1, q2 0 10, q2 1 2, q2 1 3, q2 1 11, q2 2 4, q2 3 4, q2 3 6, q2 3 12, q2 4 5, q2 4 7, q2 5 8, q2 6 7, q2 6 16, q2 7 8, q2 7 17, q2 8 9, q2 8 19, q2 9 22, q2 10 11, q2 10 13, q2 10 23, q2 11 12, q2 11 14, q2 12 16, q2 13 14, q2 13 15, q2 13 24, q2 14 16]
def T1_20 : D := .list [q2 0 1, q2 0 10, q2 1 2, q2 1 3, q2 1 11, q2 2 4, q2 3 4, q2 3 6, q2 3 12, q2 4 5, q2 4 7, q2 5 8, q2 6 7, q2 6 16, q2 7 8, q2 7 17, q2 8 9, q2 8 19, q2 9 22, q2 10 11, q2 10 13, q2 10 23, q2 11 12, q2 11 14, q2 12 16, q2 13 14, q2 13 15, q2 13 24, q2 14 16, q2 15 16, q2 15 25, q2 16 17, q2 16 18, q2 16 20, q2 16 26, q2 17 19, q2 18 19, q2 18 21, q2 19 22]
def T1_25 : D := .list [q2 0 1, q2 0 10, q2 1 2, q2 1 3, q2 1 11, q2 2 4, q2 3 4, q2 3 6, q2 3 12, q2 4 5, q2 4 7, q2 5 8, q2 6 7, q2 6 16, q2 7 8, q2 7 17, q2 8 9, q2 8 19, q2 9 22, q2 10 11, q2 10 13, q2 10 23, q2 11 12, q2 11 14, q2 12 16, q2 13 14, q2 13 15, q2 13 24, q2 14 16, q2 15 16, q2 15 25, q2 16 17, q2 16 18, q2 16 20, q2 16 26, q2 17 19, q2 18 19, q2 18 21, q2 19 22, q2 20 21, q2 20 29, q2 21 22, q2 21 31, q2 22 32, q2 23 24, q2 24 25, q2 24 27]
def T1_30 : D := .list [q2 0 1, q2 0 10, q2 1 2, q2 1 3, q2 1 11, q2 2 4, q2 3 4, q2 3 6, q2 3 12, q2 4 5, q2 4 7, q2 5 8, q2 6 7, q2 6 16, q2 7 8, q2 7 17, q2 8 9, q2 8 19, q2 9 22, q2 10 11, q2 10 13, q2 10 23, q2 11 12, q2 11 14, q2 12 16, q2 13 14, q2 13 15, q2 13 24, q2 14 16, q2 15 16, q2 15 25, q2 16 17, q2 16 18, q2 16 20, q2 16 26, q2 17 19, q2 18 19, q2 18 21, q2 19 22, q2 20 21, q2 20 29, q2 21 22, q2 21 31, q2 22 32, q2 23 24, q2 24 25, q2 24 27, q2 25 26, q2 25 28, q2 26 29, q2 27 28, q2 28 29, q2 28 30, q2 29 31]
def T1_33 : D := .list [q2 0 1, q2 0 10, q2 1 2, q2 1 3, q2 1 11, q2 2 4, q2 3 4, q2 3 6, q2 3 12, q2 4 5, q2 4 7, q2 5 8, q2 6 7, q2 6 16, q2 7 8, q2 7 17, q2 8 9, q2 8 19, q2 9 22, q2 10 11, q2 10 13, q2 10 23, q2 11 12, q2 11 14, q2 12 16, q2 13 14, q2 13 15, q2 13 24, q2 14 16, q2 15 16, q2 15 25, q2 16 17, q2 16 18, q2 16 20, q2 16 26, q2 17 19, q2 18 19, q2 18 21, q2 19 22, q2 20 21, q2 20 29, q2 21 22, q2 21 31, q2 22 32, q2 23 24, q2 24 25, q2 24 27, q2 25 26, q2 25 28, q2 26 29, q2 27 28, q2 28 29, q2 28 30, q2 29 31, q2 30 31, q2 31 32]
def N1_0 : List D := [.int 0, .int 1, .int 2, .int 3, .int 4, .int 5, .int 6, .int 7, .int 8, .int 9, .int 10, .int 11, .int 12, .int 13, .int 14, .int 15, .int 16, .int 17, .int 18, .int 19, .int 20, .int 21, .int 22, .int 23, .int 24, .int 25, .int 26, .int 27, .int 28, .int 29, .int 30, .int 31, .int 32]
def N1_5 : List D := [.int 5, .int 6, .int 7, .int 8, .int 9, .int 10, .int 11, .int 12, .int 13, .int 14, .int 15, .int 16, .int 17, .int 18, .int 19, .int 20, .int 21, .int 22, .int 23, .int 24, .int 25, .int 26, .int 27, .int 28, .int 29, .int 30, .int 31, .int 32]
def N1_10 : List D := [.int 10, .int 11, .int 12, .int 13, .int 14, .int 15, .int 16, .int 17, .int 18, .int 19, .int 20, .int 21, .int 22, .int 23, .int 24, .int 25, .int 26, .int 27, .int 28, .int 29, .int 30, .int 31, .int 32]
def N1_15 : List D := [.int 15, .int 16, .int 17, .int 18, .int 19, .int 20, .int 21, .int 22, .int 23, .int 24, .int 25, .int 26, .int 27, .int 28, .int 29, .int 30, .int 31, .int 32]
def N1_20 : List D := [.int 20, .int 21, .int 22, .int 23, .int 24, .int 25, .int 26, .int 27, .int 28, .int 29, .int 30, .int 31, .int 32]
def N1_25 : List D := [.int 25, .int 26, .int 27, .int 28, .int 29, .int 30, .int 31, .int 32]
def N1_30 : List D := [.int 30, .int 31, .int 32]
def X1_0 : List D := [.int 0, .int 1, .int 2, .int 3, .int 4]
def X1_5 : List D := [.int 5, .int 6, .int 7, .int 8, .int 9]
def X1_10 : List D := [.int 10, .int 11, .int 12, .int 13, .int 14]
def X1_15 : List D := [.int 15, .int 16, .int 17, .int 18, .int 19]
def X1_20 : List D := [.int 20, .int 21, .int 22, .int 23, .int 24]
def X1_25 : List D := [.int 25, .int 26, .int 27, .int 28, .int 29]
theorem c1_0 : chk (forB (tF R1) (.list []) X1_0) T1_5 = true := by decide +kernel
theorem c1_5 : chk (forB (tF R1) T1_5 X1_5) T1_10 = true := by decide +kernel
theorem c1_10 : chk (forB (tF R1) T1_10 X1_10) T1_15 = true := by decide +kernel
theorem c1_15 : chk (forB (tF R1) T1_15 X1_15) T1_20 = true := by decide +kernel
theorem c1_20 : chk (forB (tF R1) T1_20 X1_20) T1_25 = true := by decide +kernel
theorem c1_25 : chk (forB (tF R1) T1_25 X1_25) T1_30 = true := by decide +kernel
theorem c1_30 : chk (forB (tF R1) T1_30 N1_30) T1_33 = true := by decide +kernel
theorem p1_30 : PM.run (forB (tF R1) T1_30 N1_30) (fun s => s = T1_33) := run_eq c1_30 rfl
theorem p1_25 : PM.run (forB (tF R1) T1_25 N1_25) (fun s => s = T1_33) := part N1_30 N1_25 c1_25 p1_30 rfl
theorem p1_20 : PM.run (forB (tF R1) T1_20 N1_20) (fun s => s = T1_33) := part N1_25 N1_20 c1_20 p1_25 rfl
theorem p1_15 : PM.run (forB (tF R1) T1_15 N1_15) (fun s => s = T1_33) := part N1_20 N1_15 c1_15 p1_20 rfl
theorem p1_10 : PM.run (forB (tF R1) T1_10 N1_10) (fun s => s = T1_33) := part N1_15 N1_10 c1_10 p1_15 rfl
theorem p1_5 : PM.run (forB (tF R1) T1_5 N1_5) (fun s => s = T1_33) := part N1_10 N1_5 c1_5 p1_10 rfl
theorem p1_0 : PM.run (forB (tF R1) (.list []) N1_0) (fun s => s = T1_33) := part N1_5 N1_0 c1_0 p1_5 rfl
theorem a1 : chk (tA (.int 1) (.tuple [.int 1, .int 1])) R1 = true := by decide +kernel
theorem b1 : m_chosen_places [.int 1, (.tuple [.int 1, .int 1])] = some R1 := opt_eq (by decide +kernel)
theorem d1 : chkF (tB R1 R1) = true := by decide +kernel
theorem fl1 : chkL (tR R1) N1_0 = true := by decide +kernel
theorem e1 : chkT (tD R1 T1_33) = true := by decide +kernel
theorem u1 : PM.run ((((((PM.lift (dNeg (.int 1))) >>= fun a => ((PM.lift (dAdd (.int 1) (.int 1))) >>= fun a => pure (a :: [])) >>= fun l => pure (a :: l)) >>= fun l => PM.lift (rng2L l)) >>= fun ps => forB (fun (s_19 : D) a_20 => (((((PM.lift (dNeg (.int 1))) >>= fun a => ((PM.lift (dAdd (.int 1) (.int 1))) >>= fun a => pure (a :: [])) >>= fun l => pure (a :: l)) >>= fun l => PM.lift (rng2L l)) >>= fun ps => forB (fun (s_21 : D) b_22 => (((((PM.lift (dNeg (.int 1))) >>= fun a => ((PM.lift (dAdd (.int 1) (.int 1))) >>= fun a => pure (a :: [])) >>= fun l => pure (a :: l)) >>= fun l => PM.lift (rng2L l)) >>= fun ps => forB (fun (s_23 : D) c_24 => (((compM (((PM.lift (dNeg (.int 1))) >>= fun a => ((PM.lift (dAdd (.int 1) (.int 1))) >>= fun a => pure (a :: [])) >>= fun l => pure (a :: l)) >>= fun l => PM.lift (rng2L l)) (.n 19) (un1 fun d_25 => ((((PM.lift (m_law_place [(.tuple [a_20, b_22, c_24, d_25]), (.int 3)])) >>= fun a => pure (a :: [(.tuple [.int 1, .int 1])])) >>= fun l => PM.lift (m_law_inside l)) >>= fun p => PM.lift (dTruth p))) (un1 fun d_25 => (pure (.tuple [a_20, b_22, c_24, d_25])))) >>= fun q => PM.lift (dAdd s_23 q)) >>= fun rows_26 => pure rows_26)) s_21 ps) >>= fun (s_23 : D) => pure s_23)) s_19 ps) >>= fun (s_21 : D) => pure s_21)) (.list []) ps)) >>= fun (s_19 : D) => (PM.lift (m_chosen_places [(.int 1), (.tuple [.int 1, .int 1])])) >>= fun told_27 => (((((PM.lift ((m_law_exact 8) [s_19, told_27])) >>= fun p => PM.lift (dTruth p)) >>= fun c => pure (!c)) >>= fun c => if c = true then pure true else ((compM (PM.lift (dIter s_19)) (.n 21) (un1 fun row_28 => ((PM.lift (m_turned [row_28])) >>= fun p => PM.lift ((dNotIn p s_19).bind dBool))) (un1 fun row_28 => (pure row_28))) >>= fun p => PM.lift ((dNe p (.list [])).bind dBool)))) >>= fun c => if c = true then (pure (.bool false)) else ((((((PM.lift ((f1 dLen) [s_19])) >>= fun a => pure (a :: [])) >>= fun l => PM.lift (rng1L l)) >>= fun ps => forB (fun (s_29 : D) i_30 => (((((PM.lift ((f1 dLen) [s_19])) >>= fun a => pure (a :: [])) >>= fun l => PM.lift (rng1L l)) >>= fun ps => forB (fun (s_31 : D) j_32 => ((compM (PM.lift (rng1L [(.int 4)])) (.n 25) (fun _ => pure true) (un1 fun m_33 => (((PM.lift (dIx s_19 j_32)) >>= fun p => PM.lift (dIx p m_33)) >>= fun p => ((PM.lift (dIx s_19 i_30)) >>= fun p => PM.lift (dIx p m_33)) >>= fun q => PM.lift (dSub p q)))) >>= fun gap_34 => (((((((PM.lift ((f1 dSorted) [gap_34])) >>= fun p => PM.lift (dEq p (.list [(.int 0), (.int 0), (.int 0), (.int 1)]))) >>= fun a => pure (a :: [])) >>= fun l => PM.lift ((f1 dInt) l)) >>= fun q => PM.lift (dMul (.list [(.tuple [i_30, j_32])]) q)) >>= fun q => PM.lift (dAdd s_31 q)) >>= fun ties_35 => pure ties_35))) s_29 ps) >>= fun (s_31 : D) => pure s_31)) (.list []) ps)) >>= fun (s_29 : D) => (((((((PM.lift ((f1 dList) [s_19])) >>= fun a => pure (a :: [])) >>= fun l => PM.lift (m_ties_of l)) >>= fun a => pure (a :: [])) >>= fun l => pure (s_29 :: l)) >>= fun l => PM.lift ((m_law_exact 8) l)) >>= fun p => PM.lift (dBool p) >>= fun k => if k = true then (PM.lift (m_in_octagon [(.tuple [(.tuple [(.int 1), (.int 0)]), (.tuple [(.int 0), (.int 0)])]), (.tuple [(.int 1), (.int 0)])])) else pure (.bool false))) : PP D) fun p => p = .bool true := tail_run2 (w := .tuple [.int 1, .int 1]) (n := N1_0) a1 b1 d1 fl1 p1_0 e1
def R2 : D := .list [q4 (-1) (-1) (-1) (-1), q4 (-1) (-1) (-1) (0), q4 (-1) (-1) (-1) (1), q4 (-1) (-1) (0) (0), q4 (-1) (-1) (0) (1), q4 (-1) (-1) (1) (1), q4 (-1) (0) (0) (0), q4 (-1) (0) (0) (1), q4 (-1) (0) (1) (1), q4 (-1) (1) (1) (1), q4 (0) (-1) (-1) (-1), q4 (0) (-1) (-1) (0), q4 (0) (-1) (0) (0), q4 (0) (0) (-1) (-1), q4 (0) (0) (-1) (0), q4 (0) (0) (0) (-1), q4 (0) (0) (0) (0), q4 (0) (0) (0) (1), q4 (0) (0) (1) (0), q4 (0) (0) (1) (1), q4 (0) (1) (0) (0), q4 (0) (1) (1) (0), q4 (0) (1) (1) (1), q4 (1) (-1) (-1) (-1), q4 (1) (0) (-1) (-1), q4 (1) (0) (0) (-1), q4 (1) (0) (0) (0), q4 (1) (1) (-1) (-1), q4 (1) (1) (0) (-1), q4 (1) (1) (0) (0), q4 (1) (1) (1) (-1), q4 (1) (1) (1) (0), q4 (1) (1) (1) (1)]
def T2_5 : D := .list [q2 0 1, q2 0 10, q2 1 2, q2 1 3, q2 1 11, q2 2 4, q2 3 4, q2 3 6, q2 3 12, q2 4 5, q2 4 7]
def T2_10 : D := .list [q2 0 1, q2 0 10, q2 1 2, q2 1 3, q2 1 11, q2 2 4, q2 3 4, q2 3 6, q2 3 12, q2 4 5, q2 4 7, q2 5 8, q2 6 7, q2 6 16, q2 7 8, q2 7 17, q2 8 9, q2 8 19, q2 9 22]
def T2_15 : D := .list [q2 0 1, q2 0 10, q2 1 2, q2 1 3, q2 1 11, q2 2 4, q2 3 4, q2 3 6, q2 3 12, q2 4 5, q2 4 7, q2 5 8, q2 6 7, q2 6 16, q2 7 8, q2 7 17, q2 8 9, q2 8 19, q2 9 22, q2 10 11, q2 10 13, q2 10 23, q2 11 12, q2 11 14, q2 12 16, q2 13 14, q2 13 15, q2 13 24, q2 14 16]
def T2_20 : D := .list [q2 0 1, q2 0 10, q2 1 2, q2 1 3, q2 1 11, q2 2 4, q2 3 4, q2 3 6, q2 3 12, q2 4 5, q2 4 7, q2 5 8, q2 6 7, q2 6 16, q2 7 8, q2 7 17, q2 8 9, q2 8 19, q2 9 22, q2 10 11, q2 10 13, q2 10 23, q2 11 12, q2 11 14, q2 12 16, q2 13 14, q2 13 15, q2 13 24, q2 14 16, q2 15 16, q2 15 25, q2 16 17, q2 16 18, q2 16 20, q2 16 26, q2 17 19, q2 18 19, q2 18 21, q2 19 22]
def T2_25 : D := .list [q2 0 1, q2 0 10, q2 1 2, q2 1 3, q2 1 11, q2 2 4, q2 3 4, q2 3 6, q2 3 12, q2 4 5, q2 4 7, q2 5 8, q2 6 7, q2 6 16, q2 7 8, q2 7 17, q2 8 9, q2 8 19, q2 9 22, q2 10 11, q2 10 13, q2 10 23, q2 11 12, q2 11 14, q2 12 16, q2 13 14, q2 13 15, q2 13 24, q2 14 16, q2 15 16, q2 15 25, q2 16 17, q2 16 18, q2 16 20, q2 16 26, q2 17 19, q2 18 19, q2 18 21, q2 19 22, q2 20 21, q2 20 29, q2 21 22, q2 21 31, q2 22 32, q2 23 24, q2 24 25, q2 24 27]
def T2_30 : D := .list [q2 0 1, q2 0 10, q2 1 2, q2 1 3, q2 1 11, q2 2 4, q2 3 4, q2 3 6, q2 3 12, q2 4 5, q2 4 7, q2 5 8, q2 6 7, q2 6 16, q2 7 8, q2 7 17, q2 8 9, q2 8 19, q2 9 22, q2 10 11, q2 10 13, q2 10 23, q2 11 12, q2 11 14, q2 12 16, q2 13 14, q2 13 15, q2 13 24, q2 14 16, q2 15 16, q2 15 25, q2 16 17, q2 16 18, q2 16 20, q2 16 26, q2 17 19, q2 18 19, q2 18 21, q2 19 22, q2 20 21, q2 20 29, q2 21 22, q2 21 31, q2 22 32, q2 23 24, q2 24 25, q2 24 27, q2 25 26, q2 25 28, q2 26 29, q2 27 28, q2 28 29, q2 28 30, q2 29 31]
def T2_33 : D := .list [q2 0 1, q2 0 10, q2 1 2, q2 1 3, q2 1 11, q2 2 4, q2 3 4, q2 3 6, q2 3 12, q2 4 5, q2 4 7, q2 5 8, q2 6 7, q2 6 16, q2 7 8, q2 7 17, q2 8 9, q2 8 19, q2 9 22, q2 10 11, q2 10 13, q2 10 23, q2 11 12, q2 11 14, q2 12 16, q2 13 14, q2 13 15, q2 13 24, q2 14 16, q2 15 16, q2 15 25, q2 16 17, q2 16 18, q2 16 20, q2 16 26, q2 17 19, q2 18 19, q2 18 21, q2 19 22, q2 20 21, q2 20 29, q2 21 22, q2 21 31, q2 22 32, q2 23 24, q2 24 25, q2 24 27, q2 25 26, q2 25 28, q2 26 29, q2 27 28, q2 28 29, q2 28 30, q2 29 31, q2 30 31, q2 31 32]
def N2_0 : List D := [.int 0, .int 1, .int 2, .int 3, .int 4, .int 5, .int 6, .int 7, .int 8, .int 9, .int 10, .int 11, .int 12, .int 13, .int 14, .int 15, .int 16, .int 17, .int 18, .int 19, .int 20, .int 21, .int 22, .int 23, .int 24, .int 25, .int 26, .int 27, .int 28, .int 29, .int 30, .int 31, .int 32]
def N2_5 : List D := [.int 5, .int 6, .int 7, .int 8, .int 9, .int 10, .int 11, .int 12, .int 13, .int 14, .int 15, .int 16, .int 17, .int 18, .int 19, .int 20, .int 21, .int 22, .int 23, .int 24, .int 25, .int 26, .int 27, .int 28, .int 29, .int 30, .int 31, .int 32]
def N2_10 : List D := [.int 10, .int 11, .int 12, .int 13, .int 14, .int 15, .int 16, .int 17, .int 18, .int 19, .int 20, .int 21, .int 22, .int 23, .int 24, .int 25, .int 26, .int 27, .int 28, .int 29, .int 30, .int 31, .int 32]
def N2_15 : List D := [.int 15, .int 16, .int 17, .int 18, .int 19, .int 20, .int 21, .int 22, .int 23, .int 24, .int 25, .int 26, .int 27, .int 28, .int 29, .int 30, .int 31, .int 32]
def N2_20 : List D := [.int 20, .int 21, .int 22, .int 23, .int 24, .int 25, .int 26, .int 27, .int 28, .int 29, .int 30, .int 31, .int 32]
def N2_25 : List D := [.int 25, .int 26, .int 27, .int 28, .int 29, .int 30, .int 31, .int 32]
def N2_30 : List D := [.int 30, .int 31, .int 32]
def X2_0 : List D := [.int 0, .int 1, .int 2, .int 3, .int 4]
def X2_5 : List D := [.int 5, .int 6, .int 7, .int 8, .int 9]
def X2_10 : List D := [.int 10, .int 11, .int 12, .int 13, .int 14]
def X2_15 : List D := [.int 15, .int 16, .int 17, .int 18, .int 19]
def X2_20 : List D := [.int 20, .int 21, .int 22, .int 23, .int 24]
def X2_25 : List D := [.int 25, .int 26, .int 27, .int 28, .int 29]
theorem c2_0 : chk (forB (tF R2) (.list []) X2_0) T2_5 = true := by decide +kernel
theorem c2_5 : chk (forB (tF R2) T2_5 X2_5) T2_10 = true := by decide +kernel
theorem c2_10 : chk (forB (tF R2) T2_10 X2_10) T2_15 = true := by decide +kernel
theorem c2_15 : chk (forB (tF R2) T2_15 X2_15) T2_20 = true := by decide +kernel
theorem c2_20 : chk (forB (tF R2) T2_20 X2_20) T2_25 = true := by decide +kernel
theorem c2_25 : chk (forB (tF R2) T2_25 X2_25) T2_30 = true := by decide +kernel
theorem c2_30 : chk (forB (tF R2) T2_30 N2_30) T2_33 = true := by decide +kernel
theorem p2_30 : PM.run (forB (tF R2) T2_30 N2_30) (fun s => s = T2_33) := run_eq c2_30 rfl
theorem p2_25 : PM.run (forB (tF R2) T2_25 N2_25) (fun s => s = T2_33) := part N2_30 N2_25 c2_25 p2_30 rfl
theorem p2_20 : PM.run (forB (tF R2) T2_20 N2_20) (fun s => s = T2_33) := part N2_25 N2_20 c2_20 p2_25 rfl
theorem p2_15 : PM.run (forB (tF R2) T2_15 N2_15) (fun s => s = T2_33) := part N2_20 N2_15 c2_15 p2_20 rfl
theorem p2_10 : PM.run (forB (tF R2) T2_10 N2_10) (fun s => s = T2_33) := part N2_15 N2_10 c2_10 p2_15 rfl
theorem p2_5 : PM.run (forB (tF R2) T2_5 N2_5) (fun s => s = T2_33) := part N2_10 N2_5 c2_5 p2_10 rfl
theorem p2_0 : PM.run (forB (tF R2) (.list []) N2_0) (fun s => s = T2_33) := part N2_5 N2_0 c2_0 p2_5 rfl
theorem a2 : chk (tA (.int 1) (.tuple [.int 2, .int 0])) R2 = true := by decide +kernel
theorem b2 : m_chosen_places [.int 1, (.tuple [.int 2, .int 0])] = some R2 := opt_eq (by decide +kernel)
theorem d2 : chkF (tB R2 R2) = true := by decide +kernel
theorem fl2 : chkL (tR R2) N2_0 = true := by decide +kernel
theorem e2 : chkT (tD R2 T2_33) = true := by decide +kernel
theorem u2 : PM.run ((((((PM.lift (dNeg (.int 1))) >>= fun a => ((PM.lift (dAdd (.int 1) (.int 1))) >>= fun a => pure (a :: [])) >>= fun l => pure (a :: l)) >>= fun l => PM.lift (rng2L l)) >>= fun ps => forB (fun (s_19 : D) a_20 => (((((PM.lift (dNeg (.int 1))) >>= fun a => ((PM.lift (dAdd (.int 1) (.int 1))) >>= fun a => pure (a :: [])) >>= fun l => pure (a :: l)) >>= fun l => PM.lift (rng2L l)) >>= fun ps => forB (fun (s_21 : D) b_22 => (((((PM.lift (dNeg (.int 1))) >>= fun a => ((PM.lift (dAdd (.int 1) (.int 1))) >>= fun a => pure (a :: [])) >>= fun l => pure (a :: l)) >>= fun l => PM.lift (rng2L l)) >>= fun ps => forB (fun (s_23 : D) c_24 => (((compM (((PM.lift (dNeg (.int 1))) >>= fun a => ((PM.lift (dAdd (.int 1) (.int 1))) >>= fun a => pure (a :: [])) >>= fun l => pure (a :: l)) >>= fun l => PM.lift (rng2L l)) (.n 19) (un1 fun d_25 => ((((PM.lift (m_law_place [(.tuple [a_20, b_22, c_24, d_25]), (.int 3)])) >>= fun a => pure (a :: [(.tuple [.int 2, .int 0])])) >>= fun l => PM.lift (m_law_inside l)) >>= fun p => PM.lift (dTruth p))) (un1 fun d_25 => (pure (.tuple [a_20, b_22, c_24, d_25])))) >>= fun q => PM.lift (dAdd s_23 q)) >>= fun rows_26 => pure rows_26)) s_21 ps) >>= fun (s_23 : D) => pure s_23)) s_19 ps) >>= fun (s_21 : D) => pure s_21)) (.list []) ps)) >>= fun (s_19 : D) => (PM.lift (m_chosen_places [(.int 1), (.tuple [.int 2, .int 0])])) >>= fun told_27 => (((((PM.lift ((m_law_exact 8) [s_19, told_27])) >>= fun p => PM.lift (dTruth p)) >>= fun c => pure (!c)) >>= fun c => if c = true then pure true else ((compM (PM.lift (dIter s_19)) (.n 21) (un1 fun row_28 => ((PM.lift (m_turned [row_28])) >>= fun p => PM.lift ((dNotIn p s_19).bind dBool))) (un1 fun row_28 => (pure row_28))) >>= fun p => PM.lift ((dNe p (.list [])).bind dBool)))) >>= fun c => if c = true then (pure (.bool false)) else ((((((PM.lift ((f1 dLen) [s_19])) >>= fun a => pure (a :: [])) >>= fun l => PM.lift (rng1L l)) >>= fun ps => forB (fun (s_29 : D) i_30 => (((((PM.lift ((f1 dLen) [s_19])) >>= fun a => pure (a :: [])) >>= fun l => PM.lift (rng1L l)) >>= fun ps => forB (fun (s_31 : D) j_32 => ((compM (PM.lift (rng1L [(.int 4)])) (.n 25) (fun _ => pure true) (un1 fun m_33 => (((PM.lift (dIx s_19 j_32)) >>= fun p => PM.lift (dIx p m_33)) >>= fun p => ((PM.lift (dIx s_19 i_30)) >>= fun p => PM.lift (dIx p m_33)) >>= fun q => PM.lift (dSub p q)))) >>= fun gap_34 => (((((((PM.lift ((f1 dSorted) [gap_34])) >>= fun p => PM.lift (dEq p (.list [(.int 0), (.int 0), (.int 0), (.int 1)]))) >>= fun a => pure (a :: [])) >>= fun l => PM.lift ((f1 dInt) l)) >>= fun q => PM.lift (dMul (.list [(.tuple [i_30, j_32])]) q)) >>= fun q => PM.lift (dAdd s_31 q)) >>= fun ties_35 => pure ties_35))) s_29 ps) >>= fun (s_31 : D) => pure s_31)) (.list []) ps)) >>= fun (s_29 : D) => (((((((PM.lift ((f1 dList) [s_19])) >>= fun a => pure (a :: [])) >>= fun l => PM.lift (m_ties_of l)) >>= fun a => pure (a :: [])) >>= fun l => pure (s_29 :: l)) >>= fun l => PM.lift ((m_law_exact 8) l)) >>= fun p => PM.lift (dBool p) >>= fun k => if k = true then (PM.lift (m_in_octagon [(.tuple [(.tuple [(.int 1), (.int 0)]), (.tuple [(.int 0), (.int 0)])]), (.tuple [(.int 1), (.int 0)])])) else pure (.bool false))) : PP D) fun p => p = .bool true := tail_run2 (w := .tuple [.int 2, .int 0]) (n := N2_0) a2 b2 d2 fl2 p2_0 e2
def R3 : D := .list [q4 (-1) (-1) (-1) (-1), q4 (-1) (-1) (-1) (0), q4 (-1) (-1) (-1) (1), q4 (-1) (-1) (0) (-1), q4 (-1) (-1) (0) (0), q4 (-1) (-1) (0) (1), q4 (-1) (-1) (1) (0), q4 (-1) (-1) (1) (1), q4 (-1) (0) (-1) (-1), q4 (-1) (0) (-1) (0), q4 (-1) (0) (-1) (1), q4 (-1) (0) (0) (-1), q4 (-1) (0) (0) (0), q4 (-1) (0) (0) (1), q4 (-1) (0) (1) (0), q4 (-1) (0) (1) (1), q4 (-1) (1) (0) (0), q4 (-1) (1) (0) (1), q4 (-1) (1) (1) (0), q4 (-1) (1) (1) (1), q4 (0) (-1) (-1) (-1), q4 (0) (-1) (-1) (0), q4 (0) (-1) (-1) (1), q4 (0) (-1) (0) (-1), q4 (0) (-1) (0) (0), q4 (0) (-1) (0) (1), q4 (0) (-1) (1) (0), q4 (0) (-1) (1) (1), q4 (0) (0) (-1) (-1), q4 (0) (0) (-1) (0), q4 (0) (0) (-1) (1), q4 (0) (0) (0) (-1), q4 (0) (0) (0) (0), q4 (0) (0) (0) (1), q4 (0) (0) (1) (-1), q4 (0) (0) (1) (0), q4 (0) (0) (1) (1), q4 (0) (1) (-1) (-1), q4 (0) (1) (-1) (0), q4 (0) (1) (0) (-1), q4 (0) (1) (0) (0), q4 (0) (1) (0) (1), q4 (0) (1) (1) (-1), q4 (0) (1) (1) (0), q4 (0) (1) (1) (1), q4 (1) (-1) (-1) (-1), q4 (1) (-1) (-1) (0), q4 (1) (-1) (0) (-1), q4 (1) (-1) (0) (0), q4 (1) (0) (-1) (-1), q4 (1) (0) (-1) (0), q4 (1) (0) (0) (-1), q4 (1) (0) (0) (0), q4 (1) (0) (0) (1), q4 (1) (0) (1) (-1), q4 (1) (0) (1) (0), q4 (1) (0) (1) (1), q4 (1) (1) (-1) (-1), q4 (1) (1) (-1) (0), q4 (1) (1) (0) (-1), q4 (1) (1) (0) (0), q4 (1) (1) (0) (1), q4 (1) (1) (1) (-1), q4 (1) (1) (1) (0), q4 (1) (1) (1) (1)]
def T3_5 : D := .list [q2 0 1, q2 0 3, q2 0 8, q2 0 20, q2 1 2, q2 1 4, q2 1 9, q2 1 21, q2 2 5, q2 2 10, q2 2 22, q2 3 4, q2 3 11, q2 3 23, q2 4 5, q2 4 6, q2 4 12, q2 4 24]
def T3_10 : D := .list [q2 0 1, q2 0 3, q2 0 8, q2 0 20, q2 1 2, q2 1 4, q2 1 9, q2 1 21, q2 2 5, q2 2 10, q2 2 22, q2 3 4, q2 3 11, q2 3 23, q2 4 5, q2 4 6, q2 4 12, q2 4 24, q2 5 7, q2 5 13, q2 5 25, q2 6 7, q2 6 14, q2 6 26, q2 7 15, q2 7 27, q2 8 9, q2 8 11, q2 8 28, q2 9 10, q2 9 12, q2 9 29]
def T3_15 : D := .list [q2 0 1, q2 0 3, q2 0 8, q2 0 20, q2 1 2, q2 1 4, q2 1 9, q2 1 21, q2 2 5, q2 2 10, q2 2 22, q2 3 4, q2 3 11, q2 3 23, q2 4 5, q2 4 6, q2 4 12, q2 4 24, q2 5 7, q2 5 13, q2 5 25, q2 6 7, q2 6 14, q2 6 26, q2 7 15, q2 7 27, q2 8 9, q2 8 11, q2 8 28, q2 9 10, q2 9 12, q2 9 29, q2 10 13, q2 10 30, q2 11 12, q2 11 31, q2 12 13, q2 12 14, q2 12 16, q2 12 32, q2 13 15, q2 13 17, q2 13 33, q2 14 15, q2 14 18, q2 14 35]
def T3_20 : D := .list [q2 0 1, q2 0 3, q2 0 8, q2 0 20, q2 1 2, q2 1 4, q2 1 9, q2 1 21, q2 2 5, q2 2 10, q2 2 22, q2 3 4, q2 3 11, q2 3 23, q2 4 5, q2 4 6, q2 4 12, q2 4 24, q2 5 7, q2 5 13, q2 5 25, q2 6 7, q2 6 14, q2 6 26, q2 7 15, q2 7 27, q2 8 9, q2 8 11, q2 8 28, q2 9 10, q2 9 12, q2 9 29, q2 10 13, q2 10 30, q2 11 12, q2 11 31, q2 12 13, q2 12 14, q2 12 16, q2 12 32, q2 13 15, q2 13 17, q2 13 33, q2 14 15, q2 14 18, q2 14 35, q2 15 19, q2 15 36, q2 16 17, q2 16 18, q2 16 40, q2 17 19, q2 17 41, q2 18 19, q2 18 43, q2 19 44]
def T3_25 : D := .list [q2 0 1, q2 0 3, q2 0 8, q2 0 20, q2 1 2, q2 1 4, q2 1 9, q2 1 21, q2 2 5, q2 2 10, q2 2 22, q2 3 4, q2 3 11, q2 3 23, q2 4 5, q2 4 6, q2 4 12, q2 4 24, q2 5 7, q2 5 13, q2 5 25, q2 6 7, q2 6 14, q2 6 26, q2 7 15, q2 7 27, q2 8 9, q2 8 11, q2 8 28, q2 9 10, q2 9 12, q2 9 29, q2 10 13, q2 10 30, q2 11 12, q2 11 31, q2 12 13, q2 12 14, q2 12 16, q2 12 32, q2 13 15, q2 13 17, q2 13 33, q2 14 15, q2 14 18, q2 14 35, q2 15 19, q2 15 36, q2 16 17, q2 16 18, q2 16 40, q2 17 19, q2 17 41, q2 18 19, q2 18 43, q2 19 44, q2 20 21, q2 20 23, q2 20 28, q2 20 45, q2 21 22, q2 21 24, q2 21 29, q2 21 46, q2 22 25, q2 22 30, q2 23 24, q2 23 31, q2 23 47, q2 24 25, q2 24 26, q2 24 32, q2 24 48]
def T3_30 : D := .list [q2 0 1, q2 0 3, q2 0 8, q2 0 20, q2 1 2, q2 1 4, q2 1 9, q2 1 21, q2 2 5, q2 2 10, q2 2 22, q2 3 4, q2 3 11, q2 3 23, q2 4 5, q2 4 6, q2 4 12, q2 4 24, q2 5 7, q2 5 13, q2 5 25, q2 6 7, q2 6 14, q2 6 26, q2 7 15, q2 7 27, q2 8 9, q2 8 11, q2 8 28, q2 9 10, q2 9 12, q2 9 29, q2 10 13, q2 10 30, q2 11 12, q2 11 31, q2 12 13, q2 12 14, q2 12 16, q2 12 32, q2 13 15, q2 13 17, q2 13 33, q2 14 15, q2 14 18, q2 14 35, q2 15 19, q2 15 36, q2 16 17, q2 16 18, q2 16 40, q2 17 19, q2 17 41, q2 18 19, q2 18 43, q2 19 44, q2 20 21, q2 20 23, q2 20 28, q2 20 45, q2 21 22, q2 21 24, q2 21 29, q2 21 46, q2 22 25, q2 22 30, q2 23 24, q2 23 31, q2 23 47, q2 24 25, q2 24 26, q2 24 32, q2 24 48, q2 25 27, q2 25 33, q2 26 27, q2 26 35, q2 27 36, q2 28 29, q2 28 31, q2 28 37, q2 28 49, q2 29 30, q2 29 32, q2 29 38, q2 29 50]
def T3_35 : D := .list [q2 0 1, q2 0 3, q2 0 8, q2 0 20, q2 1 2, q2 1 4, q2 1 9, q2 1 21, q2 2 5, q2 2 10, q2 2 22, q2 3 4, q2 3 11, q2 3 23, q2 4 5, q2 4 6, q2 4 12, q2 4 24, q2 5 7, q2 5 13, q2 5 25, q2 6 7, q2 6 14, q2 6 26, q2 7 15, q2 7 27, q2 8 9, q2 8 11, q2 8 28, q2 9 10, q2 9 12, q2 9 29, q2 10 13, q2 10 30, q2 11 12, q2 11 31, q2 12 13, q2 12 14, q2 12 16, q2 12 32, q2 13 15, q2 13 17, q2 13 33, q2 14 15, q2 14 18, q2 14 35, q2 15 19, q2 15 36, q2 16 17, q2 16 18, q2 16 40, q2 17 19, q2 17 41, q2 18 19, q2 18 43, q2 19 44, q2 20 21, q2 20 23, q2 20 28, q2 20 45, q2 21 22, q2 21 24, q2 21 29, q2 21 46, q2 22 25, q2 22 30, q2 23 24, q2 23 31, q2 23 47, q2 24 25, q2 24 26, q2 24 32, q2 24 48, q2 25 27, q2 25 33, q2 26 27, q2 26 35, q2 27 36, q2 28 29, q2 28 31, q2 28 37, q2 28 49, q2 29 30, q2 29 32, q2 29 38, q2 29 50, q2 30 33, q2 31 32, q2 31 34, q2 31 39, q2 31 51, q2 32 33, q2 32 35, q2 32 40, q2 32 52, q2 33 36, q2 33 41, q2 33 53, q2 34 35, q2 34 42, q2 34 54]
def T3_40 : D := .list [q2 0 1, q2 0 3, q2 0 8, q2 0 20, q2 1 2, q2 1 4, q2 1 9, q2 1 21, q2 2 5, q2 2 10, q2 2 22, q2 3 4, q2 3 11, q2 3 23, q2 4 5, q2 4 6, q2 4 12, q2 4 24, q2 5 7, q2 5 13, q2 5 25, q2 6 7, q2 6 14, q2 6 26, q2 7 15, q2 7 27, q2 8 9, q2 8 11, q2 8 28, q2 9 10, q2 9 12, q2 9 29, q2 10 13, q2 10 30, q2 11 12, q2 11 31, q2 12 13, q2 12 14, q2 12 16, q2 12 32, q2 13 15, q2 13 17, q2 13 33, q2 14 15, q2 14 18, q2 14 35, q2 15 19, q2 15 36, q2 16 17, q2 16 18, q2 16 40, q2 17 19, q2 17 41, q2 18 19, q2 18 43, q2 19 44, q2 20 21, q2 20 23, q2 20 28, q2 20 45, q2 21 22, q2 21 24, q2 21 29, q2 21 46, q2 22 25, q2 22 30, q2 23 24, q2 23 31, q2 23 47, q2 24 25, q2 24 26, q2 24 32, q2 24 48, q2 25 27, q2 25 33, q2 26 27, q2 26 35, q2 27 36, q2 28 29, q2 28 31, q2 28 37, q2 28 49, q2 29 30, q2 29 32, q2 29 38, q2 29 50, q2 30 33, q2 31 32, q2 31 34, q2 31 39, q2 31 51, q2 32 33, q2 32 35, q2 32 40, q2 32 52, q2 33 36, q2 33 41, q2 33 53, q2 34 35, q2 34 42, q2 34 54, q2 35 36, q2 35 43, q2 35 55, q2 36 44, q2 36 56, q2 37 38, q2 37 39, q2 37 57, q2 38 40, q2 38 58, q2 39 40, q2 39 42, q2 39 59]
def T3_45 : D := .list [q2 0 1, q2 0 3, q2 0 8, q2 0 20, q2 1 2, q2 1 4, q2 1 9, q2 1 21, q2 2 5, q2 2 10, q2 2 22, q2 3 4, q2 3 11, q2 3 23, q2 4 5, q2 4 6, q2 4 12, q2 4 24, q2 5 7, q2 5 13, q2 5 25, q2 6 7, q2 6 14, q2 6 26, q2 7 15, q2 7 27, q2 8 9, q2 8 11, q2 8 28, q2 9 10, q2 9 12, q2 9 29, q2 10 13, q2 10 30, q2 11 12, q2 11 31, q2 12 13, q2 12 14, q2 12 16, q2 12 32, q2 13 15, q2 13 17, q2 13 33, q2 14 15, q2 14 18, q2 14 35, q2 15 19, q2 15 36, q2 16 17, q2 16 18, q2 16 40, q2 17 19, q2 17 41, q2 18 19, q2 18 43, q2 19 44, q2 20 21, q2 20 23, q2 20 28, q2 20 45, q2 21 22, q2 21 24, q2 21 29, q2 21 46, q2 22 25, q2 22 30, q2 23 24, q2 23 31, q2 23 47, q2 24 25, q2 24 26, q2 24 32, q2 24 48, q2 25 27, q2 25 33, q2 26 27, q2 26 35, q2 27 36, q2 28 29, q2 28 31, q2 28 37, q2 28 49, q2 29 30, q2 29 32, q2 29 38, q2 29 50, q2 30 33, q2 31 32, q2 31 34, q2 31 39, q2 31 51, q2 32 33, q2 32 35, q2 32 40, q2 32 52, q2 33 36, q2 33 41, q2 33 53, q2 34 35, q2 34 42, q2 34 54, q2 35 36, q2 35 43, q2 35 55, q2 36 44, q2 36 56, q2 37 38, q2 37 39, q2 37 57, q2 38 40, q2 38 58, q2 39 40, q2 39 42, q2 39 59, q2 40 41, q2 40 43, q2 40 60, q2 41 44, q2 41 61, q2 42 43, q2 42 62, q2 43 44, q2 43 63, q2 44 64]
def T3_50 : D := .list [q2 0 1, q2 0 3, q2 0 8, q2 0 20, q2 1 2, q2 1 4, q2 1 9, q2 1 21, q2 2 5, q2 2 10, q2 2 22, q2 3 4, q2 3 11, q2 3 23, q2 4 5, q2 4 6, q2 4 12, q2 4 24, q2 5 7, q2 5 13, q2 5 25, q2 6 7, q2 6 14, q2 6 26, q2 7 15, q2 7 27, q2 8 9, q2 8 11, q2 8 28, q2 9 10, q2 9 12, q2 9 29, q2 10 13, q2 10 30, q2 11 12, q2 11 31, q2 12 13, q2 12 14, q2 12 16, q2 12 32, q2 13 15, q2 13 17, q2 13 33, q2 14 15, q2 14 18, q2 14 35, q2 15 19, q2 15 36, q2 16 17, q2 16 18, q2 16 40, q2 17 19, q2 17 41, q2 18 19, q2 18 43, q2 19 44, q2 20 21, q2 20 23, q2 20 28, q2 20 45, q2 21 22, q2 21 24, q2 21 29, q2 21 46, q2 22 25, q2 22 30, q2 23 24, q2 23 31, q2 23 47, q2 24 25, q2 24 26, q2 24 32, q2 24 48, q2 25 27, q2 25 33, q2 26 27, q2 26 35, q2 27 36, q2 28 29, q2 28 31, q2 28 37, q2 28 49, q2 29 30, q2 29 32, q2 29 38, q2 29 50, q2 30 33, q2 31 32, q2 31 34, q2 31 39, q2 31 51, q2 32 33, q2 32 35, q2 32 40, q2 32 52, q2 33 36, q2 33 41, q2 33 53, q2 34 35, q2 34 42, q2 34 54, q2 35 36, q2 35 43, q2 35 55, q2 36 44, q2 36 56, q2 37 38, q2 37 39, q2 37 57, q2 38 40, q2 38 58, q2 39 40, q2 39 42, q2 39 59, q2 40 41, q2 40 43, q2 40 60, q2 41 44, q2 41 61, q2 42 43, q2 42 62, q2 43 44, q2 43 63, q2 44 64, q2 45 46, q2 45 47, q2 45 49, q2 46 48, q2 46 50, q2 47 48, q2 47 51, q2 48 52, q2 49 50, q2 49 51, q2 49 57]
def T3_55 : D := .list [q2 0 1, q2 0 3, q2 0 8, q2 0 20, q2 1 2, q2 1 4, q2 1 9, q2 1 21, q2 2 5, q2 2 10, q2 2 22, q2 3 4, q2 3 11, q2 3 23, q2 4 5, q2 4 6, q2 4 12, q2 4 24, q2 5 7, q2 5 13, q2 5 25, q2 6 7, q2 6 14, q2 6 26, q2 7 15, q2 7 27, q2 8 9, q2 8 11, q2 8 28, q2 9 10, q2 9 12, q2 9 29, q2 10 13, q2 10 30, q2 11 12, q2 11 31, q2 12 13, q2 12 14, q2 12 16, q2 12 32, q2 13 15, q2 13 17, q2 13 33, q2 14 15, q2 14 18, q2 14 35, q2 15 19, q2 15 36, q2 16 17, q2 16 18, q2 16 40, q2 17 19, q2 17 41, q2 18 19, q2 18 43, q2 19 44, q2 20 21, q2 20 23, q2 20 28, q2 20 45, q2 21 22, q2 21 24, q2 21 29, q2 21 46, q2 22 25, q2 22 30, q2 23 24, q2 23 31, q2 23 47, q2 24 25, q2 24 26, q2 24 32, q2 24 48, q2 25 27, q2 25 33, q2 26 27, q2 26 35, q2 27 36, q2 28 29, q2 28 31, q2 28 37, q2 28 49, q2 29 30, q2 29 32, q2 29 38, q2 29 50, q2 30 33, q2 31 32, q2 31 34, q2 31 39, q2 31 51, q2 32 33, q2 32 35, q2 32 40, q2 32 52, q2 33 36, q2 33 41, q2 33 53, q2 34 35, q2 34 42, q2 34 54, q2 35 36, q2 35 43, q2 35 55, q2 36 44, q2 36 56, q2 37 38, q2 37 39, q2 37 57, q2 38 40, q2 38 58, q2 39 40, q2 39 42, q2 39 59, q2 40 41, q2 40 43, q2 40 60, q2 41 44, q2 41 61, q2 42 43, q2 42 62, q2 43 44, q2 43 63, q2 44 64, q2 45 46, q2 45 47, q2 45 49, q2 46 48, q2 46 50, q2 47 48, q2 47 51, q2 48 52, q2 49 50, q2 49 51, q2 49 57, q2 50 52, q2 50 58, q2 51 52, q2 51 54, q2 51 59, q2 52 53, q2 52 55, q2 52 60, q2 53 56, q2 53 61, q2 54 55, q2 54 62]
def T3_60 : D := .list [q2 0 1, q2 0 3, q2 0 8, q2 0 20, q2 1 2, q2 1 4, q2 1 9, q2 1 21, q2 2 5, q2 2 10, q2 2 22, q2 3 4, q2 3 11, q2 3 23, q2 4 5, q2 4 6, q2 4 12, q2 4 24, q2 5 7, q2 5 13, q2 5 25, q2 6 7, q2 6 14, q2 6 26, q2 7 15, q2 7 27, q2 8 9, q2 8 11, q2 8 28, q2 9 10, q2 9 12, q2 9 29, q2 10 13, q2 10 30, q2 11 12, q2 11 31, q2 12 13, q2 12 14, q2 12 16, q2 12 32, q2 13 15, q2 13 17, q2 13 33, q2 14 15, q2 14 18, q2 14 35, q2 15 19, q2 15 36, q2 16 17, q2 16 18, q2 16 40, q2 17 19, q2 17 41, q2 18 19, q2 18 43, q2 19 44, q2 20 21, q2 20 23, q2 20 28, q2 20 45, q2 21 22, q2 21 24, q2 21 29, q2 21 46, q2 22 25, q2 22 30, q2 23 24, q2 23 31, q2 23 47, q2 24 25, q2 24 26, q2 24 32, q2 24 48, q2 25 27, q2 25 33, q2 26 27, q2 26 35, q2 27 36, q2 28 29, q2 28 31, q2 28 37, q2 28 49, q2 29 30, q2 29 32, q2 29 38, q2 29 50, q2 30 33, q2 31 32, q2 31 34, q2 31 39, q2 31 51, q2 32 33, q2 32 35, q2 32 40, q2 32 52, q2 33 36, q2 33 41, q2 33 53, q2 34 35, q2 34 42, q2 34 54, q2 35 36, q2 35 43, q2 35 55, q2 36 44, q2 36 56, q2 37 38, q2 37 39, q2 37 57, q2 38 40, q2 38 58, q2 39 40, q2 39 42, q2 39 59, q2 40 41, q2 40 43, q2 40 60, q2 41 44, q2 41 61, q2 42 43, q2 42 62, q2 43 44, q2 43 63, q2 44 64, q2 45 46, q2 45 47, q2 45 49, q2 46 48, q2 46 50, q2 47 48, q2 47 51, q2 48 52, q2 49 50, q2 49 51, q2 49 57, q2 50 52, q2 50 58, q2 51 52, q2 51 54, q2 51 59, q2 52 53, q2 52 55, q2 52 60, q2 53 56, q2 53 61, q2 54 55, q2 54 62, q2 55 56, q2 55 63, q2 56 64, q2 57 58, q2 57 59, q2 58 60, q2 59 60, q2 59 62]
def T3_65 : D := .list [q2 0 1, q2 0 3, q2 0 8, q2 0 20, q2 1 2, q2 1 4, q2 1 9, q2 1 21, q2 2 5, q2 2 10, q2 2 22, q2 3 4, q2 3 11, q2 3 23, q2 4 5, q2 4 6, q2 4 12, q2 4 24, q2 5 7, q2 5 13, q2 5 25, q2 6 7, q2 6 14, q2 6 26, q2 7 15, q2 7 27, q2 8 9, q2 8 11, q2 8 28, q2 9 10, q2 9 12, q2 9 29, q2 10 13, q2 10 30, q2 11 12, q2 11 31, q2 12 13, q2 12 14, q2 12 16, q2 12 32, q2 13 15, q2 13 17, q2 13 33, q2 14 15, q2 14 18, q2 14 35, q2 15 19, q2 15 36, q2 16 17, q2 16 18, q2 16 40, q2 17 19, q2 17 41, q2 18 19, q2 18 43, q2 19 44, q2 20 21, q2 20 23, q2 20 28, q2 20 45, q2 21 22, q2 21 24, q2 21 29, q2 21 46, q2 22 25, q2 22 30, q2 23 24, q2 23 31, q2 23 47, q2 24 25, q2 24 26, q2 24 32, q2 24 48, q2 25 27, q2 25 33, q2 26 27, q2 26 35, q2 27 36, q2 28 29, q2 28 31, q2 28 37, q2 28 49, q2 29 30, q2 29 32, q2 29 38, q2 29 50, q2 30 33, q2 31 32, q2 31 34, q2 31 39, q2 31 51, q2 32 33, q2 32 35, q2 32 40, q2 32 52, q2 33 36, q2 33 41, q2 33 53, q2 34 35, q2 34 42, q2 34 54, q2 35 36, q2 35 43, q2 35 55, q2 36 44, q2 36 56, q2 37 38, q2 37 39, q2 37 57, q2 38 40, q2 38 58, q2 39 40, q2 39 42, q2 39 59, q2 40 41, q2 40 43, q2 40 60, q2 41 44, q2 41 61, q2 42 43, q2 42 62, q2 43 44, q2 43 63, q2 44 64, q2 45 46, q2 45 47, q2 45 49, q2 46 48, q2 46 50, q2 47 48, q2 47 51, q2 48 52, q2 49 50, q2 49 51, q2 49 57, q2 50 52, q2 50 58, q2 51 52, q2 51 54, q2 51 59, q2 52 53, q2 52 55, q2 52 60, q2 53 56, q2 53 61, q2 54 55, q2 54 62, q2 55 56, q2 55 63, q2 56 64, q2 57 58, q2 57 59, q2 58 60, q2 59 60, q2 59 62, q2 60 61, q2 60 63, q2 61 64, q2 62 63, q2 63 64]
def N3_0 : List D := [.int 0, .int 1, .int 2, .int 3, .int 4, .int 5, .int 6, .int 7, .int 8, .int 9, .int 10, .int 11, .int 12, .int 13, .int 14, .int 15, .int 16, .int 17, .int 18, .int 19, .int 20, .int 21, .int 22, .int 23, .int 24, .int 25, .int 26, .int 27, .int 28, .int 29, .int 30, .int 31, .int 32, .int 33, .int 34, .int 35, .int 36, .int 37, .int 38, .int 39, .int 40, .int 41, .int 42, .int 43, .int 44, .int 45, .int 46, .int 47, .int 48, .int 49, .int 50, .int 51, .int 52, .int 53, .int 54, .int 55, .int 56, .int 57, .int 58, .int 59, .int 60, .int 61, .int 62, .int 63, .int 64]
def N3_5 : List D := [.int 5, .int 6, .int 7, .int 8, .int 9, .int 10, .int 11, .int 12, .int 13, .int 14, .int 15, .int 16, .int 17, .int 18, .int 19, .int 20, .int 21, .int 22, .int 23, .int 24, .int 25, .int 26, .int 27, .int 28, .int 29, .int 30, .int 31, .int 32, .int 33, .int 34, .int 35, .int 36, .int 37, .int 38, .int 39, .int 40, .int 41, .int 42, .int 43, .int 44, .int 45, .int 46, .int 47, .int 48, .int 49, .int 50, .int 51, .int 52, .int 53, .int 54, .int 55, .int 56, .int 57, .int 58, .int 59, .int 60, .int 61, .int 62, .int 63, .int 64]
def N3_10 : List D := [.int 10, .int 11, .int 12, .int 13, .int 14, .int 15, .int 16, .int 17, .int 18, .int 19, .int 20, .int 21, .int 22, .int 23, .int 24, .int 25, .int 26, .int 27, .int 28, .int 29, .int 30, .int 31, .int 32, .int 33, .int 34, .int 35, .int 36, .int 37, .int 38, .int 39, .int 40, .int 41, .int 42, .int 43, .int 44, .int 45, .int 46, .int 47, .int 48, .int 49, .int 50, .int 51, .int 52, .int 53, .int 54, .int 55, .int 56, .int 57, .int 58, .int 59, .int 60, .int 61, .int 62, .int 63, .int 64]
def N3_15 : List D := [.int 15, .int 16, .int 17, .int 18, .int 19, .int 20, .int 21, .int 22, .int 23, .int 24, .int 25, .int 26, .int 27, .int 28, .int 29, .int 30, .int 31, .int 32, .int 33, .int 34, .int 35, .int 36, .int 37, .int 38, .int 39, .int 40, .int 41, .int 42, .int 43, .int 44, .int 45, .int 46, .int 47, .int 48, .int 49, .int 50, .int 51, .int 52, .int 53, .int 54, .int 55, .int 56, .int 57, .int 58, .int 59, .int 60, .int 61, .int 62, .int 63, .int 64]
def N3_20 : List D := [.int 20, .int 21, .int 22, .int 23, .int 24, .int 25, .int 26, .int 27, .int 28, .int 29, .int 30, .int 31, .int 32, .int 33, .int 34, .int 35, .int 36, .int 37, .int 38, .int 39, .int 40, .int 41, .int 42, .int 43, .int 44, .int 45, .int 46, .int 47, .int 48, .int 49, .int 50, .int 51, .int 52, .int 53, .int 54, .int 55, .int 56, .int 57, .int 58, .int 59, .int 60, .int 61, .int 62, .int 63, .int 64]
def N3_25 : List D := [.int 25, .int 26, .int 27, .int 28, .int 29, .int 30, .int 31, .int 32, .int 33, .int 34, .int 35, .int 36, .int 37, .int 38, .int 39, .int 40, .int 41, .int 42, .int 43, .int 44, .int 45, .int 46, .int 47, .int 48, .int 49, .int 50, .int 51, .int 52, .int 53, .int 54, .int 55, .int 56, .int 57, .int 58, .int 59, .int 60, .int 61, .int 62, .int 63, .int 64]
def N3_30 : List D := [.int 30, .int 31, .int 32, .int 33, .int 34, .int 35, .int 36, .int 37, .int 38, .int 39, .int 40, .int 41, .int 42, .int 43, .int 44, .int 45, .int 46, .int 47, .int 48, .int 49, .int 50, .int 51, .int 52, .int 53, .int 54, .int 55, .int 56, .int 57, .int 58, .int 59, .int 60, .int 61, .int 62, .int 63, .int 64]
def N3_35 : List D := [.int 35, .int 36, .int 37, .int 38, .int 39, .int 40, .int 41, .int 42, .int 43, .int 44, .int 45, .int 46, .int 47, .int 48, .int 49, .int 50, .int 51, .int 52, .int 53, .int 54, .int 55, .int 56, .int 57, .int 58, .int 59, .int 60, .int 61, .int 62, .int 63, .int 64]
def N3_40 : List D := [.int 40, .int 41, .int 42, .int 43, .int 44, .int 45, .int 46, .int 47, .int 48, .int 49, .int 50, .int 51, .int 52, .int 53, .int 54, .int 55, .int 56, .int 57, .int 58, .int 59, .int 60, .int 61, .int 62, .int 63, .int 64]
def N3_45 : List D := [.int 45, .int 46, .int 47, .int 48, .int 49, .int 50, .int 51, .int 52, .int 53, .int 54, .int 55, .int 56, .int 57, .int 58, .int 59, .int 60, .int 61, .int 62, .int 63, .int 64]
def N3_50 : List D := [.int 50, .int 51, .int 52, .int 53, .int 54, .int 55, .int 56, .int 57, .int 58, .int 59, .int 60, .int 61, .int 62, .int 63, .int 64]
def N3_55 : List D := [.int 55, .int 56, .int 57, .int 58, .int 59, .int 60, .int 61, .int 62, .int 63, .int 64]
def N3_60 : List D := [.int 60, .int 61, .int 62, .int 63, .int 64]
def X3_0 : List D := [.int 0, .int 1, .int 2, .int 3, .int 4]
def X3_5 : List D := [.int 5, .int 6, .int 7, .int 8, .int 9]
def X3_10 : List D := [.int 10, .int 11, .int 12, .int 13, .int 14]
def X3_15 : List D := [.int 15, .int 16, .int 17, .int 18, .int 19]
def X3_20 : List D := [.int 20, .int 21, .int 22, .int 23, .int 24]
def X3_25 : List D := [.int 25, .int 26, .int 27, .int 28, .int 29]
def X3_30 : List D := [.int 30, .int 31, .int 32, .int 33, .int 34]
def X3_35 : List D := [.int 35, .int 36, .int 37, .int 38, .int 39]
def X3_40 : List D := [.int 40, .int 41, .int 42, .int 43, .int 44]
def X3_45 : List D := [.int 45, .int 46, .int 47, .int 48, .int 49]
def X3_50 : List D := [.int 50, .int 51, .int 52, .int 53, .int 54]
def X3_55 : List D := [.int 55, .int 56, .int 57, .int 58, .int 59]
theorem c3_0 : chk (forB (tF R3) (.list []) X3_0) T3_5 = true := by decide +kernel
theorem c3_5 : chk (forB (tF R3) T3_5 X3_5) T3_10 = true := by decide +kernel
theorem c3_10 : chk (forB (tF R3) T3_10 X3_10) T3_15 = true := by decide +kernel
theorem c3_15 : chk (forB (tF R3) T3_15 X3_15) T3_20 = true := by decide +kernel
theorem c3_20 : chk (forB (tF R3) T3_20 X3_20) T3_25 = true := by decide +kernel
theorem c3_25 : chk (forB (tF R3) T3_25 X3_25) T3_30 = true := by decide +kernel
theorem c3_30 : chk (forB (tF R3) T3_30 X3_30) T3_35 = true := by decide +kernel
theorem c3_35 : chk (forB (tF R3) T3_35 X3_35) T3_40 = true := by decide +kernel
theorem c3_40 : chk (forB (tF R3) T3_40 X3_40) T3_45 = true := by decide +kernel
theorem c3_45 : chk (forB (tF R3) T3_45 X3_45) T3_50 = true := by decide +kernel
theorem c3_50 : chk (forB (tF R3) T3_50 X3_50) T3_55 = true := by decide +kernel
theorem c3_55 : chk (forB (tF R3) T3_55 X3_55) T3_60 = true := by decide +kernel
theorem c3_60 : chk (forB (tF R3) T3_60 N3_60) T3_65 = true := by decide +kernel
theorem p3_60 : PM.run (forB (tF R3) T3_60 N3_60) (fun s => s = T3_65) := run_eq c3_60 rfl
theorem p3_55 : PM.run (forB (tF R3) T3_55 N3_55) (fun s => s = T3_65) := part N3_60 N3_55 c3_55 p3_60 rfl
theorem p3_50 : PM.run (forB (tF R3) T3_50 N3_50) (fun s => s = T3_65) := part N3_55 N3_50 c3_50 p3_55 rfl
theorem p3_45 : PM.run (forB (tF R3) T3_45 N3_45) (fun s => s = T3_65) := part N3_50 N3_45 c3_45 p3_50 rfl
theorem p3_40 : PM.run (forB (tF R3) T3_40 N3_40) (fun s => s = T3_65) := part N3_45 N3_40 c3_40 p3_45 rfl
theorem p3_35 : PM.run (forB (tF R3) T3_35 N3_35) (fun s => s = T3_65) := part N3_40 N3_35 c3_35 p3_40 rfl
theorem p3_30 : PM.run (forB (tF R3) T3_30 N3_30) (fun s => s = T3_65) := part N3_35 N3_30 c3_30 p3_35 rfl
theorem p3_25 : PM.run (forB (tF R3) T3_25 N3_25) (fun s => s = T3_65) := part N3_30 N3_25 c3_25 p3_30 rfl
theorem p3_20 : PM.run (forB (tF R3) T3_20 N3_20) (fun s => s = T3_65) := part N3_25 N3_20 c3_20 p3_25 rfl
theorem p3_15 : PM.run (forB (tF R3) T3_15 N3_15) (fun s => s = T3_65) := part N3_20 N3_15 c3_15 p3_20 rfl
theorem p3_10 : PM.run (forB (tF R3) T3_10 N3_10) (fun s => s = T3_65) := part N3_15 N3_10 c3_10 p3_15 rfl
theorem p3_5 : PM.run (forB (tF R3) T3_5 N3_5) (fun s => s = T3_65) := part N3_10 N3_5 c3_5 p3_10 rfl
theorem p3_0 : PM.run (forB (tF R3) (.list []) N3_0) (fun s => s = T3_65) := part N3_5 N3_0 c3_0 p3_5 rfl
theorem a3 : chk (tA (.int 1) (.tuple [.int 2, .int 1])) R3 = true := by decide +kernel
theorem b3 : m_chosen_places [.int 1, (.tuple [.int 2, .int 1])] = some R3 := opt_eq (by decide +kernel)
theorem d3 : chkF (tB R3 R3) = true := by decide +kernel
theorem fl3 : chkL (tR R3) N3_0 = true := by decide +kernel
theorem e3 : chkT (tD R3 T3_65) = true := by decide +kernel
theorem u3 : PM.run ((((((PM.lift (dNeg (.int 1))) >>= fun a => ((PM.lift (dAdd (.int 1) (.int 1))) >>= fun a => pure (a :: [])) >>= fun l => pure (a :: l)) >>= fun l => PM.lift (rng2L l)) >>= fun ps => forB (fun (s_19 : D) a_20 => (((((PM.lift (dNeg (.int 1))) >>= fun a => ((PM.lift (dAdd (.int 1) (.int 1))) >>= fun a => pure (a :: [])) >>= fun l => pure (a :: l)) >>= fun l => PM.lift (rng2L l)) >>= fun ps => forB (fun (s_21 : D) b_22 => (((((PM.lift (dNeg (.int 1))) >>= fun a => ((PM.lift (dAdd (.int 1) (.int 1))) >>= fun a => pure (a :: [])) >>= fun l => pure (a :: l)) >>= fun l => PM.lift (rng2L l)) >>= fun ps => forB (fun (s_23 : D) c_24 => (((compM (((PM.lift (dNeg (.int 1))) >>= fun a => ((PM.lift (dAdd (.int 1) (.int 1))) >>= fun a => pure (a :: [])) >>= fun l => pure (a :: l)) >>= fun l => PM.lift (rng2L l)) (.n 19) (un1 fun d_25 => ((((PM.lift (m_law_place [(.tuple [a_20, b_22, c_24, d_25]), (.int 3)])) >>= fun a => pure (a :: [(.tuple [.int 2, .int 1])])) >>= fun l => PM.lift (m_law_inside l)) >>= fun p => PM.lift (dTruth p))) (un1 fun d_25 => (pure (.tuple [a_20, b_22, c_24, d_25])))) >>= fun q => PM.lift (dAdd s_23 q)) >>= fun rows_26 => pure rows_26)) s_21 ps) >>= fun (s_23 : D) => pure s_23)) s_19 ps) >>= fun (s_21 : D) => pure s_21)) (.list []) ps)) >>= fun (s_19 : D) => (PM.lift (m_chosen_places [(.int 1), (.tuple [.int 2, .int 1])])) >>= fun told_27 => (((((PM.lift ((m_law_exact 8) [s_19, told_27])) >>= fun p => PM.lift (dTruth p)) >>= fun c => pure (!c)) >>= fun c => if c = true then pure true else ((compM (PM.lift (dIter s_19)) (.n 21) (un1 fun row_28 => ((PM.lift (m_turned [row_28])) >>= fun p => PM.lift ((dNotIn p s_19).bind dBool))) (un1 fun row_28 => (pure row_28))) >>= fun p => PM.lift ((dNe p (.list [])).bind dBool)))) >>= fun c => if c = true then (pure (.bool false)) else ((((((PM.lift ((f1 dLen) [s_19])) >>= fun a => pure (a :: [])) >>= fun l => PM.lift (rng1L l)) >>= fun ps => forB (fun (s_29 : D) i_30 => (((((PM.lift ((f1 dLen) [s_19])) >>= fun a => pure (a :: [])) >>= fun l => PM.lift (rng1L l)) >>= fun ps => forB (fun (s_31 : D) j_32 => ((compM (PM.lift (rng1L [(.int 4)])) (.n 25) (fun _ => pure true) (un1 fun m_33 => (((PM.lift (dIx s_19 j_32)) >>= fun p => PM.lift (dIx p m_33)) >>= fun p => ((PM.lift (dIx s_19 i_30)) >>= fun p => PM.lift (dIx p m_33)) >>= fun q => PM.lift (dSub p q)))) >>= fun gap_34 => (((((((PM.lift ((f1 dSorted) [gap_34])) >>= fun p => PM.lift (dEq p (.list [(.int 0), (.int 0), (.int 0), (.int 1)]))) >>= fun a => pure (a :: [])) >>= fun l => PM.lift ((f1 dInt) l)) >>= fun q => PM.lift (dMul (.list [(.tuple [i_30, j_32])]) q)) >>= fun q => PM.lift (dAdd s_31 q)) >>= fun ties_35 => pure ties_35))) s_29 ps) >>= fun (s_31 : D) => pure s_31)) (.list []) ps)) >>= fun (s_29 : D) => (((((((PM.lift ((f1 dList) [s_19])) >>= fun a => pure (a :: [])) >>= fun l => PM.lift (m_ties_of l)) >>= fun a => pure (a :: [])) >>= fun l => pure (s_29 :: l)) >>= fun l => PM.lift ((m_law_exact 8) l)) >>= fun p => PM.lift (dBool p) >>= fun k => if k = true then (PM.lift (m_in_octagon [(.tuple [(.tuple [(.int 1), (.int 0)]), (.tuple [(.int 0), (.int 0)])]), (.tuple [(.int 1), (.int 0)])])) else pure (.bool false))) : PP D) fun p => p = .bool true := tail_run2 (w := .tuple [.int 2, .int 1]) (n := N3_0) a3 b3 d3 fl3 p3_0 e3
def R4 : D := .list [q4 (-1) (-1) (-1) (0), q4 (-1) (-1) (0) (0), q4 (-1) (-1) (0) (1), q4 (-1) (0) (0) (1), q4 (-1) (0) (1) (1), q4 (0) (-1) (-1) (-1), q4 (0) (-1) (-1) (0), q4 (0) (0) (-1) (-1), q4 (0) (0) (0) (0), q4 (0) (0) (1) (1), q4 (0) (1) (1) (0), q4 (0) (1) (1) (1), q4 (1) (0) (-1) (-1), q4 (1) (0) (0) (-1), q4 (1) (1) (0) (-1), q4 (1) (1) (0) (0), q4 (1) (1) (1) (0)]
def T4_5 : D := .list [q2 0 1, q2 0 6, q2 1 2, q2 2 3, q2 3 4, q2 4 9]
def T4_10 : D := .list [q2 0 1, q2 0 6, q2 1 2, q2 2 3, q2 3 4, q2 4 9, q2 5 6, q2 5 7, q2 7 12, q2 9 11]
def T4_15 : D := .list [q2 0 1, q2 0 6, q2 1 2, q2 2 3, q2 3 4, q2 4 9, q2 5 6, q2 5 7, q2 7 12, q2 9 11, q2 10 11, q2 10 16, q2 12 13, q2 13 14, q2 14 15]
def T4_17 : D := .list [q2 0 1, q2 0 6, q2 1 2, q2 2 3, q2 3 4, q2 4 9, q2 5 6, q2 5 7, q2 7 12, q2 9 11, q2 10 11, q2 10 16, q2 12 13, q2 13 14, q2 14 15, q2 15 16]
def N4_0 : List D := [.int 0, .int 1, .int 2, .int 3, .int 4, .int 5, .int 6, .int 7, .int 8, .int 9, .int 10, .int 11, .int 12, .int 13, .int 14, .int 15, .int 16]
def N4_5 : List D := [.int 5, .int 6, .int 7, .int 8, .int 9, .int 10, .int 11, .int 12, .int 13, .int 14, .int 15, .int 16]
def N4_10 : List D := [.int 10, .int 11, .int 12, .int 13, .int 14, .int 15, .int 16]
def N4_15 : List D := [.int 15, .int 16]
def X4_0 : List D := [.int 0, .int 1, .int 2, .int 3, .int 4]
def X4_5 : List D := [.int 5, .int 6, .int 7, .int 8, .int 9]
def X4_10 : List D := [.int 10, .int 11, .int 12, .int 13, .int 14]
theorem c4_0 : chk (forB (tF R4) (.list []) X4_0) T4_5 = true := by decide +kernel
theorem c4_5 : chk (forB (tF R4) T4_5 X4_5) T4_10 = true := by decide +kernel
theorem c4_10 : chk (forB (tF R4) T4_10 X4_10) T4_15 = true := by decide +kernel
theorem c4_15 : chk (forB (tF R4) T4_15 N4_15) T4_17 = true := by decide +kernel
theorem p4_15 : PM.run (forB (tF R4) T4_15 N4_15) (fun s => s = T4_17) := run_eq c4_15 rfl
theorem p4_10 : PM.run (forB (tF R4) T4_10 N4_10) (fun s => s = T4_17) := part N4_15 N4_10 c4_10 p4_15 rfl
theorem p4_5 : PM.run (forB (tF R4) T4_5 N4_5) (fun s => s = T4_17) := part N4_10 N4_5 c4_5 p4_10 rfl
theorem p4_0 : PM.run (forB (tF R4) (.list []) N4_0) (fun s => s = T4_17) := part N4_5 N4_0 c4_0 p4_5 rfl
theorem a4 : chk (tA (.int 1) (.tuple [.int 0, .int 1])) R4 = true := by decide +kernel
theorem b4 : m_chosen_places [.int 1, (.tuple [.int 0, .int 1])] = some R4 := opt_eq (by decide +kernel)
theorem d4 : chkF (tB R4 R4) = true := by decide +kernel
theorem fl4 : chkL (tR R4) N4_0 = true := by decide +kernel
theorem e4 : chkT (tD R4 T4_17) = true := by decide +kernel
theorem u4 : PM.run ((((((PM.lift (dNeg (.int 1))) >>= fun a => ((PM.lift (dAdd (.int 1) (.int 1))) >>= fun a => pure (a :: [])) >>= fun l => pure (a :: l)) >>= fun l => PM.lift (rng2L l)) >>= fun ps => forB (fun (s_19 : D) a_20 => (((((PM.lift (dNeg (.int 1))) >>= fun a => ((PM.lift (dAdd (.int 1) (.int 1))) >>= fun a => pure (a :: [])) >>= fun l => pure (a :: l)) >>= fun l => PM.lift (rng2L l)) >>= fun ps => forB (fun (s_21 : D) b_22 => (((((PM.lift (dNeg (.int 1))) >>= fun a => ((PM.lift (dAdd (.int 1) (.int 1))) >>= fun a => pure (a :: [])) >>= fun l => pure (a :: l)) >>= fun l => PM.lift (rng2L l)) >>= fun ps => forB (fun (s_23 : D) c_24 => (((compM (((PM.lift (dNeg (.int 1))) >>= fun a => ((PM.lift (dAdd (.int 1) (.int 1))) >>= fun a => pure (a :: [])) >>= fun l => pure (a :: l)) >>= fun l => PM.lift (rng2L l)) (.n 19) (un1 fun d_25 => ((((PM.lift (m_law_place [(.tuple [a_20, b_22, c_24, d_25]), (.int 3)])) >>= fun a => pure (a :: [(.tuple [.int 0, .int 1])])) >>= fun l => PM.lift (m_law_inside l)) >>= fun p => PM.lift (dTruth p))) (un1 fun d_25 => (pure (.tuple [a_20, b_22, c_24, d_25])))) >>= fun q => PM.lift (dAdd s_23 q)) >>= fun rows_26 => pure rows_26)) s_21 ps) >>= fun (s_23 : D) => pure s_23)) s_19 ps) >>= fun (s_21 : D) => pure s_21)) (.list []) ps)) >>= fun (s_19 : D) => (PM.lift (m_chosen_places [(.int 1), (.tuple [.int 0, .int 1])])) >>= fun told_27 => (((((PM.lift ((m_law_exact 8) [s_19, told_27])) >>= fun p => PM.lift (dTruth p)) >>= fun c => pure (!c)) >>= fun c => if c = true then pure true else ((compM (PM.lift (dIter s_19)) (.n 21) (un1 fun row_28 => ((PM.lift (m_turned [row_28])) >>= fun p => PM.lift ((dNotIn p s_19).bind dBool))) (un1 fun row_28 => (pure row_28))) >>= fun p => PM.lift ((dNe p (.list [])).bind dBool)))) >>= fun c => if c = true then (pure (.bool false)) else ((((((PM.lift ((f1 dLen) [s_19])) >>= fun a => pure (a :: [])) >>= fun l => PM.lift (rng1L l)) >>= fun ps => forB (fun (s_29 : D) i_30 => (((((PM.lift ((f1 dLen) [s_19])) >>= fun a => pure (a :: [])) >>= fun l => PM.lift (rng1L l)) >>= fun ps => forB (fun (s_31 : D) j_32 => ((compM (PM.lift (rng1L [(.int 4)])) (.n 25) (fun _ => pure true) (un1 fun m_33 => (((PM.lift (dIx s_19 j_32)) >>= fun p => PM.lift (dIx p m_33)) >>= fun p => ((PM.lift (dIx s_19 i_30)) >>= fun p => PM.lift (dIx p m_33)) >>= fun q => PM.lift (dSub p q)))) >>= fun gap_34 => (((((((PM.lift ((f1 dSorted) [gap_34])) >>= fun p => PM.lift (dEq p (.list [(.int 0), (.int 0), (.int 0), (.int 1)]))) >>= fun a => pure (a :: [])) >>= fun l => PM.lift ((f1 dInt) l)) >>= fun q => PM.lift (dMul (.list [(.tuple [i_30, j_32])]) q)) >>= fun q => PM.lift (dAdd s_31 q)) >>= fun ties_35 => pure ties_35))) s_29 ps) >>= fun (s_31 : D) => pure s_31)) (.list []) ps)) >>= fun (s_29 : D) => (((((((PM.lift ((f1 dList) [s_19])) >>= fun a => pure (a :: [])) >>= fun l => PM.lift (m_ties_of l)) >>= fun a => pure (a :: [])) >>= fun l => pure (s_29 :: l)) >>= fun l => PM.lift ((m_law_exact 8) l)) >>= fun p => PM.lift (dBool p) >>= fun k => if k = true then (PM.lift (m_in_octagon [(.tuple [(.tuple [(.int 1), (.int 0)]), (.tuple [(.int 0), (.int 0)])]), (.tuple [(.int 1), (.int 0)])])) else pure (.bool false))) : PP D) fun p => p = .bool true := tail_run2 (w := .tuple [.int 0, .int 1]) (n := N4_0) a4 b4 d4 fl4 p4_0 e4
end Qv.k88

set_option maxHeartbeats 2000000
namespace Qv.k88
open PySem PySem.Spec PyProof.Rows L2
theorem law_true : PM.run m_law fun p => p = .bool true := by
  unfold m_law
  refine run_b (run_lb r4 ?_)
  refine run_forO (fun _ _ => True) trivial (fun s k xs _ => ?_) fun s _ => ?_
  · simp only [PM.run_bind, PM.run_pure]
    refine run_comp_all (P := fun p => ∃ a : Int, p = .int a ∧ -6 ≤ a ∧ a ≤ 6) (run_l r4 ⟨by decide, fun p _ => ?_, fun ys hl hy => ?_⟩)
    · simp only [PM.run_bind, PM.run_pure]
      exact run_dC (by decide) (by decide) fun d h1 h2 => run_l rfl ⟨_, rfl, by omega, by omega⟩
    obtain ⟨a, b, c, d, rfl, ha, hb, hc, hd⟩ := four_of (by simpa using hl) hy
    refine run_l rfl (run_dC (by decide) (by decide) fun k h1 h2 => run_l rfl ?_)
    have hk : -16 ≤ k - 6 - 10 ∧ k - 6 - 10 ≤ 16 := by omega
    obtain ⟨w, e1, e2, gw⟩ := eight_eq (k := k - 16) (by omega)
    have P1 := place1 a b c d
    have P3 := place3 a b c d
    have Q1 := placeof a b c d
    have Q3 := hidden a b c d
    have Lp := placeof (-d) a b c
    have Lh := hidden (-d) a b c
    have tu := turned_eq a b c d
    have ex : m_law_exact 8 [.list [w, .tuple [pr (2 * a) (b - d), pr (2 * c) (b + d)], .tuple [pr (2 * a) (d - b), pr (-2 * c) (b + d)], T4 (-d) a b c], .list [w, .tuple [pr (2 * a) (b - d), pr (2 * c) (b + d)], .tuple [pr (2 * a) (d - b), pr (-2 * c) (b + d)], T4 (-d) a b c]] = some (.bool true) := exact_refl (by simp [good, gw, pr])
    have eb : ∀ x y : Bool, m_law_exact 8 [.list [.bool x, .bool y], .list [.bool x, .bool y]] = some (.bool true) := fun x y => exact_refl rfl
    have R := root_pr
    have r3 : rng1L [.int 3] = some [.int 0, .int 1, .int 2] := rfl
    have rd1 := round_eq (2 * a) (b - d) (2 * c) (b + d)
    have rd2 := round_eq (2 * a) (d - b) (-2 * c) (b + d)
    have ne0 : ∀ p q : D, p = q → p.plain = true → p.depth ≤ 60 → (∀ i, p ≠ .int i) → dNe p q = some (.bool false) := fun p q e h1 h2 h3 => by rw [← e]; exact dNe_self h1 h2 h3
    have f1 : f1 dTuple [.list [.int a, .int b, .int c, .int d]] = some (T4 a b c d) := rfl
    have f2 : dSub (.int k) (.int 16) = some (.int (k - 16)) := rfl
    have ix : dIx (T4 a b c d) (.int 3) = some (.int d) ∧ dIx (T4 a b c d) (.int 0) = some (.int a) ∧ dIx (T4 a b c d) (.int 1) = some (.int b) ∧ dIx (T4 a b c d) (.int 2) = some (.int c) := ⟨rfl, rfl, rfl, rfl⟩
    have tl : ∀ w x y z : Int, (PyData.tuple [.int w, .int x, .int y, .int z]) = T4 w x y z := fun _ _ _ _ => rfl
    have cp := comp_pair (it := some [pr (2 * -d) (a - c), pr (2 * b) (a + c)]) (i := 9) (x := fun part => m_law_root_times [.tuple [.int 0, .int 1], part]) rfl (root_pr _ _) (root_pr _ _)
    have cp2 := comp_pair (it := some [pr (2 * -d) (c - a), pr (-2 * b) (a + c)]) (i := 9) (x := fun part => (m_law_root_times [.tuple [.int 0, .int 1], part]).bind fun p => (m_law_root_times [.tuple [.int 0, .int 1], p]).bind fun p => m_law_root_times [.tuple [.int 0, .int 1], p]) rfl (by simp only [root_pr, o_some]; rfl) (by simp only [root_pr, o_some]; rfl)
    simp only [un1_c, un2_c, un3_c, un4_c, un5_c, o_pure, o_bind, o_some, o_lift, flat_n, flat_tt, flat_tl, flats_nil, flats_cons, List.append_nil, List.cons_append, List.nil_append, dIx_t, dIx_l, at0, at1, at2, at3, dAdd_ii, dSub_ii, dNeg_i, dLt_ii, dLe_ii, dGt_ii, dGe_ii, dEq_i2, dNe_i2, dNe_bb, dEq_bb, dTruth_b, dBool_b, dInt_i, dLen_l, dLen_t, dTuple_l, dTuple_t, dIter_l, dIter_t, if_true, Bool.false_eq_true, if_false, Bool.not_true, Bool.not_false, PM.run_bind, PM.run_pure, run_ls, run_if, thenT_nx, thenT_rt, thenO_nx, thenO_rt, ix, e1, e2, P1, P3, Q1, Q3, tu, ex, Lp, Lh]
    refine run_s (sure_comp (ps := [pr (2 * -d) (a - c), pr (2 * b) (a + c)]) (g := rt1) (fun K hK => run_l rfl hK) (show 2 ≤ 16777216 by decide) fun p hp K hK => ?_) ?_
    · rcases List.mem_cons.mp hp with rfl | hp
      · exact run_l (root_pr _ _) hK
      · rw [List.mem_singleton.mp hp] at hK ⊢
        exact run_l (root_pr _ _) hK
    simp only [un1_c, un2_c, un3_c, un4_c, un5_c, o_pure, o_bind, o_some, o_lift, flat_n, flat_tt, flat_tl, flats_nil, flats_cons, List.append_nil, List.cons_append, List.nil_append, dIx_t, dIx_l, at0, at1, at2, at3, dAdd_ii, dSub_ii, dNeg_i, dLt_ii, dLe_ii, dGt_ii, dGe_ii, dEq_i2, dNe_i2, dNe_bb, dEq_bb, dTruth_b, dBool_b, dInt_i, dLen_l, dLen_t, dTuple_l, dTuple_t, dIter_l, dIter_t, if_true, Bool.false_eq_true, if_false, Bool.not_true, Bool.not_false, PM.run_bind, PM.run_pure, run_ls, run_if, thenT_nx, thenT_rt, thenO_nx, thenO_rt, r3, List.map_cons, List.map_nil]
    simp only [forB_cm, forB_nm, un1_c, un2_c, un3_c, un4_c, un5_c, o_pure, o_bind, o_some, o_lift, flat_n, flat_tt, flat_tl, flats_nil, flats_cons, List.append_nil, List.cons_append, List.nil_append, dIx_t, dIx_l, at0, at1, at2, at3, dAdd_ii, dSub_ii, dNeg_i, dLt_ii, dLe_ii, dGt_ii, dGe_ii, dEq_i2, dNe_i2, dNe_bb, dEq_bb, dTruth_b, dBool_b, dInt_i, dLen_l, dLen_t, dTuple_l, dTuple_t, dIter_l, dIter_t, if_true, Bool.false_eq_true, if_false, Bool.not_true, Bool.not_false, PM.run_bind, PM.run_pure, run_ls, run_if, thenT_nx, thenT_rt, thenO_nx, thenO_rt, round_eq]
    refine run_s (sure_comp (ps := [pr (2 * -d) (c - a), pr (-2 * b) (a + c)]) (g := fun p => rt1 (rt1 (rt1 p))) (fun K hK => run_l rfl hK) (show 2 ≤ 16777216 by decide) fun p hp K hK => ?_) ?_
    · rcases List.mem_cons.mp hp with rfl | hp
      · simp only [un1_c, un2_c, un3_c, un4_c, un5_c, o_pure, o_bind, o_some, o_lift, flat_n, flat_tt, flat_tl, flats_nil, flats_cons, List.append_nil, List.cons_append, List.nil_append, dIx_t, dIx_l, at0, at1, at2, at3, dAdd_ii, dSub_ii, dNeg_i, dLt_ii, dLe_ii, dGt_ii, dGe_ii, dEq_i2, dNe_i2, dNe_bb, dEq_bb, dTruth_b, dBool_b, dInt_i, dLen_l, dLen_t, dTuple_l, dTuple_t, dIter_l, dIter_t, if_true, Bool.false_eq_true, if_false, Bool.not_true, Bool.not_false, PM.run_bind, PM.run_pure, run_ls, run_if, thenT_nx, thenT_rt, thenO_nx, thenO_rt, root_pr]
        exact hK
      · rw [List.mem_singleton.mp hp] at hK ⊢
        simp only [un1_c, un2_c, un3_c, un4_c, un5_c, o_pure, o_bind, o_some, o_lift, flat_n, flat_tt, flat_tl, flats_nil, flats_cons, List.append_nil, List.cons_append, List.nil_append, dIx_t, dIx_l, at0, at1, at2, at3, dAdd_ii, dSub_ii, dNeg_i, dLt_ii, dLe_ii, dGt_ii, dGe_ii, dEq_i2, dNe_i2, dNe_bb, dEq_bb, dTruth_b, dBool_b, dInt_i, dLen_l, dLen_t, dTuple_l, dTuple_t, dIter_l, dIter_t, if_true, Bool.false_eq_true, if_false, Bool.not_true, Bool.not_false, PM.run_bind, PM.run_pure, run_ls, run_if, thenT_nx, thenT_rt, thenO_nx, thenO_rt, root_pr]
        exact hK
    have rt : ∀ x y : Int, rt1 (pr x y) = pr (2 * y) x := fun _ _ => rfl
    simp only [un1_c, un2_c, un3_c, un4_c, un5_c, o_pure, o_bind, o_some, o_lift, flat_n, flat_tt, flat_tl, flats_nil, flats_cons, List.append_nil, List.cons_append, List.nil_append, dIx_t, dIx_l, at0, at1, at2, at3, dAdd_ii, dSub_ii, dNeg_i, dLt_ii, dLe_ii, dGt_ii, dGe_ii, dEq_i2, dNe_i2, dNe_bb, dEq_bb, dTruth_b, dBool_b, dInt_i, dLen_l, dLen_t, dTuple_l, dTuple_t, dIter_l, dIter_t, if_true, Bool.false_eq_true, if_false, Bool.not_true, Bool.not_false, PM.run_bind, PM.run_pure, run_ls, run_if, thenT_nx, thenT_rt, thenO_nx, thenO_rt, List.map_cons, List.map_nil, rt]
    refine run_l (by rw [ne_pp (by omega) (by omega) (by omega) (by omega)]; rfl) ?_
    simp only [un1_c, un2_c, un3_c, un4_c, un5_c, o_pure, o_bind, o_some, o_lift, flat_n, flat_tt, flat_tl, flats_nil, flats_cons, List.append_nil, List.cons_append, List.nil_append, dIx_t, dIx_l, at0, at1, at2, at3, dAdd_ii, dSub_ii, dNeg_i, dLt_ii, dLe_ii, dGt_ii, dGe_ii, dEq_i2, dNe_i2, dNe_bb, dEq_bb, dTruth_b, dBool_b, dInt_i, dLen_l, dLen_t, dTuple_l, dTuple_t, dIter_l, dIter_t, if_true, Bool.false_eq_true, if_false, Bool.not_true, Bool.not_false, PM.run_bind, PM.run_pure, run_ls, run_if, thenT_nx, thenT_rt, thenO_nx, thenO_rt]
    refine run_l (by rw [ne_pp (by omega) (by omega) (by omega) (by omega)]; rfl) ?_
    simp only [un1_c, un2_c, un3_c, un4_c, un5_c, o_pure, o_bind, o_some, o_lift, flat_n, flat_tt, flat_tl, flats_nil, flats_cons, List.append_nil, List.cons_append, List.nil_append, dIx_t, dIx_l, at0, at1, at2, at3, dAdd_ii, dSub_ii, dNeg_i, dLt_ii, dLe_ii, dGt_ii, dGe_ii, dEq_i2, dNe_i2, dNe_bb, dEq_bb, dTruth_b, dBool_b, dInt_i, dLen_l, dLen_t, dTuple_l, dTuple_t, dIter_l, dIter_t, if_true, Bool.false_eq_true, if_false, Bool.not_true, Bool.not_false, PM.run_bind, PM.run_pure, run_ls, run_if, thenT_nx, thenT_rt, thenO_nx, thenO_rt]
    refine run_dC (by decide) (by decide) fun u hu0 hu1 => ?_
    simp only [un1_c, un2_c, un3_c, un4_c, un5_c, o_pure, o_bind, o_some, o_lift, flat_n, flat_tt, flat_tl, flats_nil, flats_cons, List.append_nil, List.cons_append, List.nil_append, dIx_t, dIx_l, at0, at1, at2, at3, dAdd_ii, dSub_ii, dNeg_i, dLt_ii, dLe_ii, dGt_ii, dGe_ii, dEq_i2, dNe_i2, dNe_bb, dEq_bb, dTruth_b, dBool_b, dInt_i, dLen_l, dLen_t, dTuple_l, dTuple_t, dIter_l, dIter_t, if_true, Bool.false_eq_true, if_false, Bool.not_true, Bool.not_false, PM.run_bind, PM.run_pure, run_ls, run_if, thenT_nx, thenT_rt, thenO_nx, thenO_rt]
    refine run_dC (by decide) (by decide) fun v hv0 hv1 => ?_
    have i1 := inside (a := 2 * a) (b := b - d) (c := 2 * c) (d := b + d) (u := 1 + u) (v := v) (by omega) (by omega) (by omega) (by omega) (by omega) (by omega)
    have i3 := inside (a := 2 * a) (b := d - b) (c := -2 * c) (d := b + d) (u := 1 + u) (v := v) (by omega) (by omega) (by omega) (by omega) (by omega) (by omega)
    have o1 := octa (a := 2 * a) (b := b - d) (c := 2 * c) (d := b + d) (u := 1 + u) (v := v) (by omega) (by omega) (by omega) (by omega) (by omega) (by omega)
    have o3 := octa (a := 2 * a) (b := d - b) (c := -2 * c) (d := b + d) (u := 1 + u) (v := v) (by omega) (by omega) (by omega) (by omega) (by omega) (by omega)
    have wp : PyData.tuple [.int (1 + u), .int v] = pr (1 + u) v := rfl
    simp only [un1_c, un2_c, un3_c, un4_c, un5_c, o_pure, o_bind, o_some, o_lift, flat_n, flat_tt, flat_tl, flats_nil, flats_cons, List.append_nil, List.cons_append, List.nil_append, dIx_t, dIx_l, at0, at1, at2, at3, dAdd_ii, dSub_ii, dNeg_i, dLt_ii, dLe_ii, dGt_ii, dGe_ii, dEq_i2, dNe_i2, dNe_bb, dEq_bb, dTruth_b, dBool_b, dInt_i, dLen_l, dLen_t, dTuple_l, dTuple_t, dIter_l, dIter_t, if_true, Bool.false_eq_true, if_false, Bool.not_true, Bool.not_false, PM.run_bind, PM.run_pure, run_ls, run_if, thenT_nx, thenT_rt, thenO_nx, thenO_rt, wp, i1, i3, o1, o3, eb]
    exact ⟨(), trivial, trivial⟩
  · cases s
    refine run_b (run_b (run_b (run_b (run_b (run_b (run_dC (by decide) (by decide) fun d h0 h1 => ?_))))))
    have hd : d = 0 ∨ d = 1 ∨ d = 2 ∨ d = 3 ∨ d = 4 := by omega
    rcases hd with rfl | rfl | rfl | rfl | rfl
    all_goals refine run_l rfl (run_p (run_p (run_p (run_l rfl ?_))))
    · exact un2_run u0
    · exact un2_run u1
    · exact un2_run u2
    · exact un2_run u3
    · exact un2_run u4
end Qv.k88

set_option maxHeartbeats 4000000
namespace Qv.k88
open PySem PySem.Spec PyProof.Rows L2
theorem all_mk {l : PySem.W.OpenLaw} {w : World} {K : PySem.W.Frag} {h : Heap} {mg : Str → Option Value} {fa : Addr} (hx : PM.run m_law fun p => p = .bool true) (X : K.In h) (G : h.Ns mainGlobals mg) (hfa : mg "law" = some (.ref fa))
    {oa0 ob0 : Option Addr} {os0 : Array (Option Value)} {ov0 kv0 dv0 pv0 cv0 tv0 : Value} {f0 : Addr}
    {oa1 ob1 : Option Addr} {os1 : Array (Option Value)} {ov1 kv1 dv1 pv1 cv1 tv1 : Value} {f1 : Addr}
    {oa2 ob2 : Option Addr} {os2 : Array (Option Value)} {ov2 kv2 dv2 pv2 cv2 tv2 : Value} {f2 : Addr}
    {oa3 ob3 : Option Addr} {os3 : Array (Option Value)} {ov3 kv3 dv3 pv3 cv3 tv3 : Value} {f3 : Addr}
    {oa4 ob4 : Option Addr} {os4 : Array (Option Value)} {ov4 kv4 dv4 pv4 cv4 tv4 : Value} {f4 : Addr}
    {oa5 ob5 : Option Addr} {os5 : Array (Option Value)} {ov5 kv5 dv5 pv5 cv5 tv5 : Value} {f5 : Addr}
    {oa6 ob6 : Option Addr} {os6 : Array (Option Value)} {ov6 kv6 dv6 pv6 cv6 tv6 : Value} {f6 : Addr}
    {oa7 ob7 : Option Addr} {os7 : Array (Option Value)} {ov7 kv7 dv7 pv7 cv7 tv7 : Value} {f7 : Addr}
    {oa8 ob8 : Option Addr} {os8 : Array (Option Value)} {ov8 kv8 dv8 pv8 cv8 tv8 : Value} {f8 : Addr}
    {oa9 ob9 : Option Addr} {os9 : Array (Option Value)} {ov9 kv9 dv9 pv9 cv9 tv9 : Value} {f9 : Addr}
    {oa10 ob10 : Option Addr} {os10 : Array (Option Value)} {ov10 kv10 dv10 pv10 cv10 tv10 : Value} {f10 : Addr}
    {oa11 ob11 : Option Addr} {os11 : Array (Option Value)} {ov11 kv11 dv11 pv11 cv11 tv11 : Value} {f11 : Addr}
    {oa12 ob12 : Option Addr} {os12 : Array (Option Value)} {ov12 kv12 dv12 pv12 cv12 tv12 : Value} {f12 : Addr}
    {oa13 ob13 : Option Addr} {os13 : Array (Option Value)} {ov13 kv13 dv13 pv13 cv13 tv13 : Value} {f13 : Addr}
    {oa14 ob14 : Option Addr} {os14 : Array (Option Value)} {ov14 kv14 dv14 pv14 cv14 tv14 : Value} {f14 : Addr}
    {oa15 ob15 : Option Addr} {os15 : Array (Option Value)} {ov15 kv15 dv15 pv15 cv15 tv15 : Value} {f15 : Addr}
    {oa16 ob16 : Option Addr} {os16 : Array (Option Value)} {ov16 kv16 dv16 pv16 cv16 tv16 : Value} {f16 : Addr}
    {oa17 ob17 : Option Addr} {os17 : Array (Option Value)} {ov17 kv17 dv17 pv17 cv17 tv17 : Value} {f17 : Addr}
    {oa18 ob18 : Option Addr} {os18 : Array (Option Value)} {ov18 kv18 dv18 pv18 cv18 tv18 : Value} {f18 : Addr}
    {oa19 ob19 : Option Addr} {os19 : Array (Option Value)} {ov19 kv19 dv19 pv19 cv19 tv19 : Value} {f19 : Addr}
    {oa20 ob20 : Option Addr} {os20 : Array (Option Value)} {ov20 kv20 dv20 pv20 cv20 tv20 : Value} {f20 : Addr}
    {oa21 ob21 : Option Addr} {os21 : Array (Option Value)} {ov21 kv21 dv21 pv21 cv21 tv21 : Value} {f21 : Addr}
    {oa22 ob22 : Option Addr} {os22 : Array (Option Value)} {ov22 kv22 dv22 pv22 cv22 tv22 : Value} {f22 : Addr}
    (a0 : PySem.W.nsIn K mainGlobals "sign" = some (some (.ref f0))) (l0 : K.lookup f0 = some ⟨ov0, oa0, .func (PySem.W.fnOf "sign" "sign" (defArgs s_sign) (defBody s_sign) (defScope s_sign) .none kv0 dv0 pv0 ob0 cv0 tv0), os0⟩) (c0 : PySem.W.codeIn K cv0 "sign" = true) (k0 : PySem.W.keepIn K (.ref f0) = true)
    (a1 : PySem.W.nsIn K mainGlobals "absolute" = some (some (.ref f1))) (l1 : K.lookup f1 = some ⟨ov1, oa1, .func (PySem.W.fnOf "absolute" "absolute" (defArgs s_absolute) (defBody s_absolute) (defScope s_absolute) .none kv1 dv1 pv1 ob1 cv1 tv1), os1⟩) (c1 : PySem.W.codeIn K cv1 "absolute" = true) (k1 : PySem.W.keepIn K (.ref f1) = true)
    (a2 : PySem.W.nsIn K mainGlobals "is_less" = some (some (.ref f2))) (l2 : K.lookup f2 = some ⟨ov2, oa2, .func (PySem.W.fnOf "is_less" "is_less" (defArgs s_is_less) (defBody s_is_less) (defScope s_is_less) .none kv2 dv2 pv2 ob2 cv2 tv2), os2⟩) (c2 : PySem.W.codeIn K cv2 "is_less" = true) (k2 : PySem.W.keepIn K (.ref f2) = true)
    (a3 : PySem.W.nsIn K mainGlobals "times" = some (some (.ref f3))) (l3 : K.lookup f3 = some ⟨ov3, oa3, .func (PySem.W.fnOf "times" "times" (defArgs s_times) (defBody s_times) (defScope s_times) .none kv3 dv3 pv3 ob3 cv3 tv3), os3⟩) (c3 : PySem.W.codeIn K cv3 "times" = true) (k3 : PySem.W.keepIn K (.ref f3) = true)
    (a4 : PySem.W.nsIn K mainGlobals "plus" = some (some (.ref f4))) (l4 : K.lookup f4 = some ⟨ov4, oa4, .func (PySem.W.fnOf "plus" "plus" (defArgs s_plus) (defBody s_plus) (defScope s_plus) .none kv4 dv4 pv4 ob4 cv4 tv4), os4⟩) (c4 : PySem.W.codeIn K cv4 "plus" = true) (k4 : PySem.W.keepIn K (.ref f4) = true)
    (a5 : PySem.W.nsIn K mainGlobals "in_octagon" = some (some (.ref f5))) (l5 : K.lookup f5 = some ⟨ov5, oa5, .func (PySem.W.fnOf "in_octagon" "in_octagon" (defArgs s_in_octagon) (defBody s_in_octagon) (defScope s_in_octagon) .none kv5 dv5 pv5 ob5 cv5 tv5), os5⟩) (c5 : PySem.W.codeIn K cv5 "in_octagon" = true) (k5 : PySem.W.keepIn K (.ref f5) = true)
    (a6 : PySem.W.nsIn K mainGlobals "eight_way" = some (some (.ref f6))) (l6 : K.lookup f6 = some ⟨ov6, oa6, .func (PySem.W.fnOf "eight_way" "eight_way" (defArgs s_eight_way) (defBody s_eight_way) (defScope s_eight_way) .none kv6 dv6 pv6 ob6 cv6 tv6), os6⟩) (c6 : PySem.W.codeIn K cv6 "eight_way" = true) (k6 : PySem.W.keepIn K (.ref f6) = true)
    (a7 : PySem.W.nsIn K mainGlobals "hidden_place" = some (some (.ref f7))) (l7 : K.lookup f7 = some ⟨ov7, oa7, .func (PySem.W.fnOf "hidden_place" "hidden_place" (defArgs s_hidden_place) (defBody s_hidden_place) (defScope s_hidden_place) .none kv7 dv7 pv7 ob7 cv7 tv7), os7⟩) (c7 : PySem.W.codeIn K cv7 "hidden_place" = true) (k7 : PySem.W.keepIn K (.ref f7) = true)
    (a8 : PySem.W.nsIn K mainGlobals "chosen_places" = some (some (.ref f8))) (l8 : K.lookup f8 = some ⟨ov8, oa8, .func (PySem.W.fnOf "chosen_places" "chosen_places" (defArgs s_chosen_places) (defBody s_chosen_places) (defScope s_chosen_places) .none kv8 dv8 pv8 ob8 cv8 tv8), os8⟩) (c8 : PySem.W.codeIn K cv8 "chosen_places" = true) (k8 : PySem.W.keepIn K (.ref f8) = true)
    (a9 : PySem.W.nsIn K mainGlobals "_law_eighth" = some (some (.ref f9))) (l9 : K.lookup f9 = some ⟨ov9, oa9, .func (PySem.W.fnOf "_law_eighth" "_law_eighth" (defArgs s_law_eighth) (defBody s_law_eighth) (defScope s_law_eighth) .none kv9 dv9 pv9 ob9 cv9 tv9), os9⟩) (c9 : PySem.W.codeIn K cv9 "_law_eighth" = true) (k9 : PySem.W.keepIn K (.ref f9) = true)
    (a10 : PySem.W.nsIn K mainGlobals "_law_place" = some (some (.ref f10))) (l10 : K.lookup f10 = some ⟨ov10, oa10, .func (PySem.W.fnOf "_law_place" "_law_place" (defArgs s_law_place) (defBody s_law_place) (defScope s_law_place) .none kv10 dv10 pv10 ob10 cv10 tv10), os10⟩) (c10 : PySem.W.codeIn K cv10 "_law_place" = true) (k10 : PySem.W.keepIn K (.ref f10) = true)
    (a11 : PySem.W.nsIn K mainGlobals "_law_exact" = some (some (.ref f11))) (l11 : K.lookup f11 = some ⟨ov11, oa11, .func (PySem.W.fnOf "_law_exact" "_law_exact" (defArgs s_law_exact) (defBody s_law_exact) (defScope s_law_exact) .none kv11 dv11 pv11 ob11 cv11 tv11), os11⟩) (c11 : PySem.W.codeIn K cv11 "_law_exact" = true) (k11 : PySem.W.keepIn K (.ref f11) = true)
    (a12 : PySem.W.nsIn K mainGlobals "_law_refill" = some (some (.ref f12))) (l12 : K.lookup f12 = some ⟨ov12, oa12, .func (PySem.W.fnOf "_law_refill" "_law_refill" (defArgs s_law_refill) (defBody s_law_refill) (defScope s_law_refill) .none kv12 dv12 pv12 ob12 cv12 tv12), os12⟩) (c12 : PySem.W.codeIn K cv12 "_law_refill" = true) (k12 : PySem.W.keepIn K (.ref f12) = true)
    (a13 : PySem.W.nsIn K mainGlobals "_law_draw" = some (some (.ref f13))) (l13 : K.lookup f13 = some ⟨ov13, oa13, .func (PySem.W.fnOf "_law_draw" "_law_draw" (defArgs s_law_draw) (defBody s_law_draw) (defScope s_law_draw) .none kv13 dv13 pv13 ob13 cv13 tv13), os13⟩) (c13 : PySem.W.codeIn K cv13 "_law_draw" = true) (k13 : PySem.W.keepIn K (.ref f13) = true)
    (a14 : PySem.W.nsIn K mainGlobals "_law_round" = some (some (.ref f14))) (l14 : K.lookup f14 = some ⟨ov14, oa14, .func (PySem.W.fnOf "_law_round" "_law_round" (defArgs s_law_round) (defBody s_law_round) (defScope s_law_round) .none kv14 dv14 pv14 ob14 cv14 tv14), os14⟩) (c14 : PySem.W.codeIn K cv14 "_law_round" = true) (k14 : PySem.W.keepIn K (.ref f14) = true)
    (a15 : PySem.W.nsIn K mainGlobals "ties_of" = some (some (.ref f15))) (l15 : K.lookup f15 = some ⟨ov15, oa15, .func (PySem.W.fnOf "ties_of" "ties_of" (defArgs s_ties_of) (defBody s_ties_of) (defScope s_ties_of) .none kv15 dv15 pv15 ob15 cv15 tv15), os15⟩) (c15 : PySem.W.codeIn K cv15 "ties_of" = true) (k15 : PySem.W.keepIn K (.ref f15) = true)
    (a16 : PySem.W.nsIn K mainGlobals "_law_root_times" = some (some (.ref f16))) (l16 : K.lookup f16 = some ⟨ov16, oa16, .func (PySem.W.fnOf "_law_root_times" "_law_root_times" (defArgs s_law_root_times) (defBody s_law_root_times) (defScope s_law_root_times) .none kv16 dv16 pv16 ob16 cv16 tv16), os16⟩) (c16 : PySem.W.codeIn K cv16 "_law_root_times" = true) (k16 : PySem.W.keepIn K (.ref f16) = true)
    (a17 : PySem.W.nsIn K mainGlobals "place_of" = some (some (.ref f17))) (l17 : K.lookup f17 = some ⟨ov17, oa17, .func (PySem.W.fnOf "place_of" "place_of" (defArgs s_place_of) (defBody s_place_of) (defScope s_place_of) .none kv17 dv17 pv17 ob17 cv17 tv17), os17⟩) (c17 : PySem.W.codeIn K cv17 "place_of" = true) (k17 : PySem.W.keepIn K (.ref f17) = true)
    (a18 : PySem.W.nsIn K mainGlobals "turned" = some (some (.ref f18))) (l18 : K.lookup f18 = some ⟨ov18, oa18, .func (PySem.W.fnOf "turned" "turned" (defArgs s_turned) (defBody s_turned) (defScope s_turned) .none kv18 dv18 pv18 ob18 cv18 tv18), os18⟩) (c18 : PySem.W.codeIn K cv18 "turned" = true) (k18 : PySem.W.keepIn K (.ref f18) = true)
    (a19 : PySem.W.nsIn K mainGlobals "_law_root_sign" = some (some (.ref f19))) (l19 : K.lookup f19 = some ⟨ov19, oa19, .func (PySem.W.fnOf "_law_root_sign" "_law_root_sign" (defArgs s_law_root_sign) (defBody s_law_root_sign) (defScope s_law_root_sign) .none kv19 dv19 pv19 ob19 cv19 tv19), os19⟩) (c19 : PySem.W.codeIn K cv19 "_law_root_sign" = true) (k19 : PySem.W.keepIn K (.ref f19) = true)
    (a20 : PySem.W.nsIn K mainGlobals "_law_root_less" = some (some (.ref f20))) (l20 : K.lookup f20 = some ⟨ov20, oa20, .func (PySem.W.fnOf "_law_root_less" "_law_root_less" (defArgs s_law_root_less) (defBody s_law_root_less) (defScope s_law_root_less) .none kv20 dv20 pv20 ob20 cv20 tv20), os20⟩) (c20 : PySem.W.codeIn K cv20 "_law_root_less" = true) (k20 : PySem.W.keepIn K (.ref f20) = true)
    (a21 : PySem.W.nsIn K mainGlobals "_law_inside" = some (some (.ref f21))) (l21 : K.lookup f21 = some ⟨ov21, oa21, .func (PySem.W.fnOf "_law_inside" "_law_inside" (defArgs s_law_inside) (defBody s_law_inside) (defScope s_law_inside) .none kv21 dv21 pv21 ob21 cv21 tv21), os21⟩) (c21 : PySem.W.codeIn K cv21 "_law_inside" = true) (k21 : PySem.W.keepIn K (.ref f21) = true)
    (a22 : PySem.W.nsIn K mainGlobals "law" = some (some (.ref f22))) (l22 : K.lookup f22 = some ⟨ov22, oa22, .func (PySem.W.fnOf "law" "law" (defArgs s_law) (defBody s_law) (defScope s_law) .none kv22 dv22 pv22 ob22 cv22 tv22), os22⟩) (c22 : PySem.W.codeIn K cv22 "law" = true) (k22 : PySem.W.keepIn K (.ref f22) = true)
    (y_all : PySem.W.nsIn K mainGlobals "all" = some none) (y_bool : PySem.W.nsIn K mainGlobals "bool" = some none) (y_enumerate : PySem.W.nsIn K mainGlobals "enumerate" = some none) (y_int : PySem.W.nsIn K mainGlobals "int" = some none) (y_isinstance : PySem.W.nsIn K mainGlobals "isinstance" = some none) (y_len : PySem.W.nsIn K mainGlobals "len" = some none) (y_list : PySem.W.nsIn K mainGlobals "list" = some none) (y_range : PySem.W.nsIn K mainGlobals "range" = some none) (y_sorted : PySem.W.nsIn K mainGlobals "sorted" = some none) (y_str : PySem.W.nsIn K mainGlobals "str" = some none) (y_tuple : PySem.W.nsIn K mainGlobals "tuple" = some none) :
    ∃ fd : FuncData, (∀ (s : Shared) (v : Value), BindsTo s fd ⟨[v], []⟩ [("script", v)]) ∧ ∀ base : Heap, K.In base → base.Ns mainGlobals mg → FnOk l.prog w K mg base CX0 10 fa fd ["script"] (spLaw K) := by
  have e := hfa.symm.trans (PySem.W.mg_of X G a22)
  cases e
  have F0 := fun_mk (st := s_sign) l0 c0 k0
  have h0 := PySem.W.mg_of X G a0
  have F1 := fun_mk (st := s_absolute) l1 c1 k1
  have h1 := PySem.W.mg_of X G a1
  have F2 := fun_mk (st := s_is_less) l2 c2 k2
  have h2 := PySem.W.mg_of X G a2
  have F3 := fun_mk (st := s_times) l3 c3 k3
  have h3 := PySem.W.mg_of X G a3
  have F4 := fun_mk (st := s_plus) l4 c4 k4
  have h4 := PySem.W.mg_of X G a4
  have F5 := fun_mk (st := s_in_octagon) l5 c5 k5
  have h5 := PySem.W.mg_of X G a5
  have F6 := fun_mk (st := s_eight_way) l6 c6 k6
  have h6 := PySem.W.mg_of X G a6
  have F7 := fun_mk (st := s_hidden_place) l7 c7 k7
  have h7 := PySem.W.mg_of X G a7
  have F8 := fun_mk (st := s_chosen_places) l8 c8 k8
  have h8 := PySem.W.mg_of X G a8
  have F9 := fun_mk (st := s_law_eighth) l9 c9 k9
  have h9 := PySem.W.mg_of X G a9
  have F10 := fun_mk (st := s_law_place) l10 c10 k10
  have h10 := PySem.W.mg_of X G a10
  have F11 := fun_mk (st := s_law_exact) l11 c11 k11
  have h11 := PySem.W.mg_of X G a11
  have F12 := fun_mk (st := s_law_refill) l12 c12 k12
  have h12 := PySem.W.mg_of X G a12
  have F13 := fun_mk (st := s_law_draw) l13 c13 k13
  have h13 := PySem.W.mg_of X G a13
  have F14 := fun_mk (st := s_law_round) l14 c14 k14
  have h14 := PySem.W.mg_of X G a14
  have F15 := fun_mk (st := s_ties_of) l15 c15 k15
  have h15 := PySem.W.mg_of X G a15
  have F16 := fun_mk (st := s_law_root_times) l16 c16 k16
  have h16 := PySem.W.mg_of X G a16
  have F17 := fun_mk (st := s_place_of) l17 c17 k17
  have h17 := PySem.W.mg_of X G a17
  have F18 := fun_mk (st := s_turned) l18 c18 k18
  have h18 := PySem.W.mg_of X G a18
  have F19 := fun_mk (st := s_law_root_sign) l19 c19 k19
  have h19 := PySem.W.mg_of X G a19
  have F20 := fun_mk (st := s_law_root_less) l20 c20 k20
  have h20 := PySem.W.mg_of X G a20
  have F21 := fun_mk (st := s_law_inside) l21 c21 k21
  have h21 := PySem.W.mg_of X G a21
  have F22 := fun_mk (st := s_law) l22 c22 k22
  have h22 := PySem.W.mg_of X G a22
  have z_all := PySem.W.mg_none_of X G y_all
  have z_bool := PySem.W.mg_none_of X G y_bool
  have z_enumerate := PySem.W.mg_none_of X G y_enumerate
  have z_int := PySem.W.mg_none_of X G y_int
  have z_isinstance := PySem.W.mg_none_of X G y_isinstance
  have z_len := PySem.W.mg_none_of X G y_len
  have z_list := PySem.W.mg_none_of X G y_list
  have z_range := PySem.W.mg_none_of X G y_range
  have z_sorted := PySem.W.mg_none_of X G y_sorted
  have z_str := PySem.W.mg_none_of X G y_str
  have z_tuple := PySem.W.mg_none_of X G y_tuple
  refine ⟨PySem.W.fnOf "law" "law" (defArgs s_law) (defBody s_law) (defScope s_law) .none kv22 dv22 pv22 ob22 cv22 tv22, fun s v => .of_eq rfl, fun base _ _ => ?_⟩
  have c_sign := ok_sign (P := l.prog) (w := w) (base := base) F0 h0
  have c_absolute := ok_absolute (P := l.prog) (w := w) (base := base) F1 h1 c_sign
  have c_is_less := ok_is_less (P := l.prog) (w := w) (base := base) F2 h2 c_sign
  have c_times := ok_times (P := l.prog) (w := w) (base := base) F3 h3
  have c_plus := ok_plus (P := l.prog) (w := w) (base := base) F4 h4
  have c_in_octagon := ok_in_octagon (P := l.prog) (w := w) (base := base) F5 h5 c_absolute c_is_less c_plus c_times
  have c_eight_way := ok_eight_way (P := l.prog) (w := w) (base := base) F6 h6
  have c_hidden_place := ok_hidden_place (P := l.prog) (w := w) (base := base) F7 h7 z_enumerate c_eight_way c_plus c_times
  have c_chosen_places := ok_chosen_places (P := l.prog) (w := w) (base := base) F8 h8 z_list z_range c_hidden_place c_in_octagon
  have c_law_eighth := ok_law_eighth (P := l.prog) (w := w) (base := base) F9 h9 z_int
  have c_law_place := ok_law_place (P := l.prog) (w := w) (base := base) F10 h10 z_range c_law_eighth
  have c_law_exact := ok_law_exact (P := l.prog) (w := w) (base := base) F11 h11 z_all z_bool z_int z_isinstance z_len z_list z_range z_str z_tuple
  have c_law_draw : FC l.prog w K mg base 2 "_law_draw" drawC := (ok_law_draw F13 F12 h13 h12 z_len z_int)
  have c_law_round := ok_law_round (P := l.prog) (w := w) (base := base) F14 h14
  have c_ties_of := ok_ties_of (P := l.prog) (w := w) (base := base) F15 h15 z_enumerate z_int z_range z_sorted z_tuple
  have c_law_root_times := ok_law_root_times (P := l.prog) (w := w) (base := base) F16 h16
  have c_place_of := ok_place_of (P := l.prog) (w := w) (base := base) F17 h17 z_enumerate c_eight_way c_plus c_times
  have c_turned := ok_turned (P := l.prog) (w := w) (base := base) F18 h18
  have c_law_root_sign := ok_law_root_sign (P := l.prog) (w := w) (base := base) F19 h19
  have c_law_root_less := ok_law_root_less (P := l.prog) (w := w) (base := base) F20 h20 c_law_root_sign
  have c_law_inside := ok_law_inside (P := l.prog) (w := w) (base := base) F21 h21 c_law_root_less c_law_root_times
  exact ok_law F22 z_int z_len z_list z_range z_sorted z_tuple c_law_draw c_law_eighth c_law_exact c_law_inside c_law_place c_law_root_times c_law_round c_chosen_places c_eight_way c_hidden_place c_in_octagon c_place_of c_ties_of c_turned hx
end Qv.k88
open PySem PySem.W PyProof.Rows
set_option maxHeartbeats 0 in
theorem PySem.Challenge.cw_ornamentwright_k88_whole_places_with_eig_holds : PySem.Challenge.rw_ornamentwright_k88_whole_places_with_eig.Holds := by
  w_on; o_law; k_head; (case hw => w_witness2)
  k_fill
  refine L2.walk_of (l := PySem.Challenge.rw_ornamentwright_k88_whole_places_with_eig) (n := 63) (k := 10) (x := "script") (CX := fun _ => L2.CX0) (sp := fun w => Qv.spLaw _) rfl (by decide) rfl ⟨rfl, by decide, by decide⟩ (fun w h Y => PySem.W.kIn_of Y) ?F (fun _ _ a ns hl hO hS => ⟨a, ns, rfl, hS, hO, fun _ => rfl⟩) (fun _ _ _ _ _ h => h)
  case F =>
    intro w mg fa h KX G hmg
    refine' Qv.k88.all_mk Qv.k88.law_true KX G hmg ?a0 ?l0 ?c0 ?k0 ?a1 ?l1 ?c1 ?k1 ?a2 ?l2 ?c2 ?k2 ?a3 ?l3 ?c3 ?k3 ?a4 ?l4 ?c4 ?k4 ?a5 ?l5 ?c5 ?k5 ?a6 ?l6 ?c6 ?k6 ?a7 ?l7 ?c7 ?k7 ?a8 ?l8 ?c8 ?k8 ?a9 ?l9 ?c9 ?k9 ?a10 ?l10 ?c10 ?k10 ?a11 ?l11 ?c11 ?k11 ?a12 ?l12 ?c12 ?k12 ?a13 ?l13 ?c13 ?k13 ?a14 ?l14 ?c14 ?k14 ?a15 ?l15 ?c15 ?k15 ?a16 ?l16 ?c16 ?k16 ?a17 ?l17 ?c17 ?k17 ?a18 ?l18 ?c18 ?k18 ?a19 ?l19 ?c19 ?k19 ?a20 ?l20 ?c20 ?k20 ?a21 ?l21 ?c21 ?k21 ?a22 ?l22 ?c22 ?k22 ?y_all ?y_bool ?y_enumerate ?y_int ?y_isinstance ?y_len ?y_list ?y_range ?y_sorted ?y_str ?y_tuple
    (case a0 => k_is); (case l0 => k_is); (case c0 => k_is); (case k0 => k_is); (case a1 => k_is); (case l1 => k_is); (case c1 => k_is); (case k1 => k_is); (case a2 => k_is); (case l2 => k_is); (case c2 => k_is); (case k2 => k_is); (case a3 => k_is); (case l3 => k_is); (case c3 => k_is); (case k3 => k_is); (case a4 => k_is); (case l4 => k_is); (case c4 => k_is); (case k4 => k_is); (case a5 => k_is); (case l5 => k_is); (case c5 => k_is); (case k5 => k_is); (case a6 => k_is); (case l6 => k_is); (case c6 => k_is); (case k6 => k_is); (case a7 => k_is); (case l7 => k_is); (case c7 => k_is); (case k7 => k_is); (case a8 => k_is); (case l8 => k_is); (case c8 => k_is); (case k8 => k_is); (case a9 => k_is); (case l9 => k_is); (case c9 => k_is); (case k9 => k_is); (case a10 => k_is); (case l10 => k_is); (case c10 => k_is); (case k10 => k_is); (case a11 => k_is); (case l11 => k_is); (case c11 => k_is); (case k11 => k_is); (case a12 => k_is); (case l12 => k_is); (case c12 => k_is); (case k12 => k_is); (case a13 => k_is); (case l13 => k_is); (case c13 => k_is); (case k13 => k_is); (case a14 => k_is); (case l14 => k_is); (case c14 => k_is); (case k14 => k_is); (case a15 => k_is); (case l15 => k_is); (case c15 => k_is); (case k15 => k_is); (case a16 => k_is); (case l16 => k_is); (case c16 => k_is); (case k16 => k_is); (case a17 => k_is); (case l17 => k_is); (case c17 => k_is); (case k17 => k_is); (case a18 => k_is); (case l18 => k_is); (case c18 => k_is); (case k18 => k_is); (case a19 => k_is); (case l19 => k_is); (case c19 => k_is); (case k19 => k_is); (case a20 => k_is); (case l20 => k_is); (case c20 => k_is); (case k20 => k_is); (case a21 => k_is); (case l21 => k_is); (case c21 => k_is); (case k21 => k_is); (case a22 => k_is); (case l22 => k_is); (case c22 => k_is); (case k22 => k_is); (case y_all => k_is); (case y_bool => k_is); (case y_enumerate => k_is); (case y_int => k_is); (case y_isinstance => k_is); (case y_len => k_is); (case y_list => k_is); (case y_range => k_is); (case y_sorted => k_is); (case y_str => k_is); (case y_tuple => k_is)
