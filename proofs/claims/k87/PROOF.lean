import PyProof.Rows.All
import Wide.All
import OpenK.AllK
import Wide.FinOn
import HandS.Base
import HandS.ForMost
import HandS.ForExc
import HandS.Wide
import HandS.TupAny
import HandS.Flow
import HandS.TupLen
import HandS.IsInst
import HandS.Small
import KE.GoesNew
import KE.GoesMore
import HandS.TryOnly
import HandS.Comp
import HandS.ExcOwn
import HandS.WordsExc
import HandS.ExcIs
import HandS.Style
import HandS.SetFor
import HandS.TupMul
import HandS.Text
import HandS.DictComp
import HandS.ForList
import PySem.Challenge.RW_flatrounds_k87_making_refused
set_option Elab.async false
section
/-! G.A: data, stores, outcomes, and what each construct does with them. No heap here. -/
namespace GG
open PySem

/-- a dict's key -/
inductive KK where
  | k (x : L2.Key)
  | t (xs : List L2.Key)
  deriving DecidableEq

/-- data -/
inductive D where
  | non | bl (b : Bool) | int (i : Int) | str (x : Str)
  | gl (x : Str)
  | tup (xs : List D) | lst (xs : List D)
  | ktp (xs : List D) | frl (xs : List D)
  | dic (ks : List KK) (vs : List D)
  | obj (c : Str) (fs : List Str) (vs : List D)
  | ptr (i : Nat)
  | clo (i : Nat) (env : List D)
  deriving Inhabited

/-- what may change -/
inductive MO where
  | lst (xs : List D)
  | dic (ks : List KK) (vs : List D)
  | ins (c : Str) (fs : List Str) (vs : List D)
abbrev Store := List MO

inductive Slot where
  | no
  | val (d : D)
  | own (o : MO)
  /-- the exception that a suite holds -/
  | xc
abbrev LEnv := List Slot

/-- an outcome: a value, an exception of a class with its fields, or nothing is claimed -/
inductive Out (α : Type) where
  | ok (a : α)
  | exc (c : Str) (fs : List (Str × D)) (S : Store)
  | stuck

namespace Out
def bind {α β : Type} : Out α → (α → Out β) → Out β
  | .ok a, f => f a
  | .exc c fs S, _ => .exc c fs S
  | .stuck, _ => .stuck
@[simp] theorem bind_ok {α β : Type} (a : α) (f : α → Out β) : (Out.ok a).bind f = f a := rfl
@[simp] theorem bind_exc {α β : Type} (c : Str) (fs : List (Str × D)) (S : Store) (f : α → Out β) : (Out.exc c fs S).bind f = .exc c fs S := rfl
@[simp] theorem bind_stuck {α β : Type} (f : α → Out β) : (Out.stuck).bind f = .stuck := rfl
/-- no exception is let through -/
def calm {α : Type} : Out α → Out α
  | .exc _ _ _ => .stuck
  | o => o
@[simp] theorem calm_ok {α : Type} (a : α) : (Out.ok a).calm = .ok a := rfl
@[simp] theorem calm_exc {α : Type} (c : Str) (fs : List (Str × D)) (S : Store) : (Out.exc c fs S : Out α).calm = .stuck := rfl
@[simp] theorem calm_stuck {α : Type} : (Out.stuck : Out α).calm = .stuck := rfl
def opt {α : Type} : Option α → Out α
  | some a => .ok a
  | none => .stuck
@[simp] theorem opt_some {α : Type} (a : α) : Out.opt (some a) = .ok a := rfl
@[simp] theorem opt_none {α : Type} : Out.opt (none : Option α) = .stuck := rfl
end Out

/-- a handle: data, or the list or dict that a slot owns -/
inductive HD where
  | d (x : D)
  | own (i : Nat)

abbrev EX := LEnv → Store → Out (D × Store)
abbrev AX := LEnv → Store → Out (List D × Store)
abbrev BX := LEnv → Store → Out (Bool × Store)
abbrev HX := LEnv → Store → Out (HD × Store)
abbrev Den := List D → Store → Out (D × Store)

def MO.now : MO → D
  | .lst xs => .lst xs
  | .dic ks vs => .dic ks vs
  | .ins c fs vs => .obj c fs vs

/-- the content that a handle shows now -/
def deref (ρ : LEnv) (S : Store) : HD → Option D
  | .d (.ptr n) => (S[n]?).map MO.now
  | .d x => some x
  | .own i => match ρ[i]? with
    | some (.own o) => some o.now
    | _ => none

/-! ### expressions -/
def eC (d : D) : EX := fun _ S => .ok (d, S)
def eV (i : Nat) : EX := fun ρ S => match ρ[i]? with
  | some (.val d) => .ok (d, S)
  | _ => .stuck
def eNo : EX := fun _ _ => .stuck
def hE (e : EX) : HX := fun ρ S => (e ρ S).bind fun p => .ok (.d p.1, p.2)
def hV (i : Nat) : HX := fun ρ S => match ρ[i]? with
  | some (.val d) => .ok (.d d, S)
  | some (.own _) => .ok (.own i, S)
  | _ => .stuck
/-- a use of a content -/
def eH (h : HX) (f : D → Option D) : EX := fun ρ S => (h ρ S).bind fun p => (Out.opt ((deref ρ p.2 p.1).bind f)).bind fun d => .ok (d, p.2)
/-- .. with a second value, evaluated behind the handle -/
def eHB (h : HX) (b : EX) (f : D → D → Option D) : EX := fun ρ S => (h ρ S).bind fun p => (b ρ p.2).bind fun q =>
  (Out.opt ((deref ρ q.2 p.1).bind fun d => f d q.1)).bind fun d => .ok (d, q.2)
def eBin (f : D → D → Option D) (a b : EX) : EX := fun ρ S => (a ρ S).bind fun p => (b ρ p.2).bind fun q => (Out.opt (f p.1 q.1)).bind fun d => .ok (d, q.2)
def eUn (f : D → Option D) (a : EX) : EX := fun ρ S => (a ρ S).bind fun p => (Out.opt (f p.1)).bind fun d => .ok (d, p.2)
def bD : D → Option Bool
  | .bl b => some b
  | _ => none
def eAnd (a b : EX) : EX := fun ρ S => (a ρ S).bind fun p => (Out.opt (bD p.1)).bind fun c => if c then b ρ p.2 else .ok (.bl false, p.2)
def eOr (a b : EX) : EX := fun ρ S => (a ρ S).bind fun p => (Out.opt (bD p.1)).bind fun c => if c then .ok (.bl true, p.2) else b ρ p.2
def eNot (a : EX) : EX := fun ρ S => (a ρ S).bind fun p => (Out.opt (bD p.1)).bind fun c => .ok (.bl (!c), p.2)
def eIf (t : BX) (a b : EX) : EX := fun ρ S => (t ρ S).bind fun p => if p.1 then a ρ p.2 else b ρ p.2
def eCmp (f : D → D → Option Bool) (a b : EX) : EX := fun ρ S => (a ρ S).bind fun p => (b ρ p.2).bind fun q => (Out.opt (f p.1 q.1)).bind fun d => .ok (.bl d, q.2)
def eChain (f g : D → D → Option Bool) (a b c : EX) : EX := fun ρ S => (a ρ S).bind fun p => (b ρ p.2).bind fun q => (Out.opt (f p.1 q.1)).bind fun k =>
  if k then (c ρ q.2).bind fun r => (Out.opt (g q.1 r.1)).bind fun d => .ok (.bl d, r.2) else .ok (.bl false, q.2)
def aN : AX := fun _ S => .ok ([], S)
def aC (e : EX) (r : AX) : AX := fun ρ S => (e ρ S).bind fun p => (r ρ p.2).bind fun q => .ok (p.1 :: q.1, q.2)
def szOk (n : Nat) : Bool := decide (n ≤ sizeLine)
def eTup (a : AX) : EX := fun ρ S => (a ρ S).bind fun p => if szOk p.1.length then .ok (.tup p.1, p.2) else .stuck
def eLst (a : AX) : EX := fun ρ S => (a ρ S).bind fun p => if szOk p.1.length then .ok (.lst p.1, p.2) else .stuck
/-- a def of the module -/
def eCall (f : Den) (a : AX) : EX := fun ρ S => (a ρ S).bind fun p => f p.1 p.2
/-- a built-in function of values -/
def eB (f : List D → Option D) (a : AX) : EX := fun ρ S => (a ρ S).bind fun p => (Out.opt (f p.1)).bind fun d => .ok (d, p.2)

/-! ### tests -/
def bV (e : EX) : BX := fun ρ S => (e ρ S).bind fun p => (Out.opt (bD p.1)).bind fun c => .ok (c, p.2)
def bAnd (a b : BX) : BX := fun ρ S => (a ρ S).bind fun p => if p.1 then b ρ p.2 else .ok (false, p.2)
def bOr (a b : BX) : BX := fun ρ S => (a ρ S).bind fun p => if p.1 then .ok (true, p.2) else b ρ p.2
def bNot (a : BX) : BX := fun ρ S => (a ρ S).bind fun p => .ok (!p.1, p.2)
end GG
end

section
/-! G.B: how data stand in the abstract heap; readings by outcomes. -/
set_option linter.all false
set_option maxRecDepth 100000
namespace GG
open PySem L2

/-- what a law's closures and classes are -/
structure Wp where
  cl : Nat → List V → Heap → Prop
  kc : Str → Prop
  /-- the exception that a suite holds -/
  xa : Option Addr
structure Wd where
  K : PySem.W.Frag
  mg : Str → Option Value
  cl : Nat → List V → Heap → Prop
  kc : Str → Prop
  xa : Option Addr

/-- F: what never changes any more; m: where the store's objects stand -/
structure Gh where
  F : Hp
  m : Nat → Option Addr

def lockable : HO → Prop
  | .dK _ => True
  | _ => False
def Sub (F H : Hp) : Prop := ∀ a u, F a = some u → H a = some u ∨ (lockable u ∧ ∃ o, H a = some (.frz o u))
/-- a dict's keys and values, as an object tells them -/
def DicO (ks : List KK) (vs : List V) (u : HO) : Prop :=
  ks.length = vs.length ∧ ((∃ l : List Key, ks = l.map KK.k ∧ u = .dK (l.zip vs)) ∨ (∃ l : List (List Key), ks = l.map KK.t ∧ u = .dT (l.zip vs)))

mutual
def Rep (w : Wd) (g : Gh) : D → V → Prop
  | .non, v => v = .non
  | .bl b, v => v = .bl b
  | .int i, v => v = .int i
  | .str x, v => v = .str x
  | .gl x, v => ∃ a, w.mg x = some (.ref a) ∧ v = .ref a
  | .tup ds, v => ∃ a vs, v = .ref a ∧ g.F a = some (.tup vs) ∧ RepL w g ds vs
  | .lst ds, v => ∃ a vs, v = .ref a ∧ g.F a = some (.lst vs) ∧ RepL w g ds vs
  | .ktp ds, v => ∃ a vs, v = .ref a ∧ SqT w.K g.F a vs ∧ RepL w g ds vs
  | .frl ds, v => ∃ a vs, v = .ref a ∧ SqL w.K g.F a vs ∧ RepL w g ds vs
  | .dic ks ds, v => ∃ a vs u, v = .ref a ∧ g.F a = some u ∧ DicO ks vs u ∧ RepL w g ds vs
  | .obj c fs ds, v => w.kc c ∧ ∃ a C dx vs, v = .ref a ∧ w.mg c = some (.ref C) ∧ g.F a = some (.ins C dx (fs.zip vs)) ∧ fs.length = vs.length ∧ RepL w g ds vs
  | .ptr i, v => ∃ a, g.m i = some a ∧ v = .ref a
  | .clo i env, v => ∃ a vs, v = .ref a ∧ g.F a = some (.ext (w.cl i vs)) ∧ RepL w g env vs
def RepL (w : Wd) (g : Gh) : List D → List V → Prop
  | [], vs => vs = []
  | d :: ds, vs => ∃ v r, vs = v :: r ∧ Rep w g d v ∧ RepL w g ds r
end

structure Le (g g' : Gh) : Prop where
  F : ∀ a u, g.F a = some u → g'.F a = some u
  m : ∀ i a, g.m i = some a → g'.m i = some a
theorem Le.refl {g : Gh} : Le g g := ⟨fun _ _ h => h, fun _ _ h => h⟩
theorem Le.trans {g g1 g2 : Gh} (a : Le g g1) (b : Le g1 g2) : Le g g2 := ⟨fun x u h => b.F x u (a.F x u h), fun i x h => b.m i x (a.m i x h)⟩

theorem rd_mono {F F' : Hp} {a : Addr} {u : HO} (h : ∀ a u, F a = some u → F' a = some u) (r : Rd F a u) : Rd F' a u := by
  rcases r with r | ⟨o, r⟩
  · exact .inl (h _ _ r)
  · exact .inr ⟨o, h _ _ r⟩
theorem sqL_mono {K : PySem.W.Frag} {F F' : Hp} {a : Addr} {xs : List V} (h : ∀ a u, F a = some u → F' a = some u) (r : SqL K F a xs) : SqL K F' a xs := by
  rcases r with r | r
  · exact .inl (rd_mono h r)
  · exact .inr r
theorem sqT_mono {K : PySem.W.Frag} {F F' : Hp} {a : Addr} {xs : List V} (h : ∀ a u, F a = some u → F' a = some u) (r : SqT K F a xs) : SqT K F' a xs := by
  rcases r with r | r
  · exact .inl (rd_mono h r)
  · exact .inr r
theorem sub_lst {F H : Hp} (s : Sub F H) {a : Addr} {u : HO} (nl : ¬ lockable u) (h : F a = some u) : H a = some u := by
  rcases s a u h with h | ⟨h, _⟩
  · exact h
  · exact absurd h nl
theorem sqL_sub {K : PySem.W.Frag} {F H : Hp} {a : Addr} {xs : List V} (s : Sub F H) (r : SqL K F a xs) : SqL K H a xs := by
  rcases r with (r | ⟨o, r⟩) | r
  · exact .inl (.inl (sub_lst s (fun z => z) r))
  · exact .inl (.inr ⟨o, sub_lst s (fun z => z) r⟩)
  · exact .inr r
theorem sqT_sub {K : PySem.W.Frag} {F H : Hp} {a : Addr} {xs : List V} (s : Sub F H) (r : SqT K F a xs) : SqT K H a xs := by
  rcases r with (r | ⟨o, r⟩) | r
  · exact .inl (.inl (sub_lst s (fun z => z) r))
  · exact .inl (.inr ⟨o, sub_lst s (fun z => z) r⟩)
  · exact .inr r

mutual
theorem Rep.mono {w : Wd} {g g' : Gh} (h : Le g g') : ∀ {d : D} {v : V}, Rep w g d v → Rep w g' d v
  | .non, _, r => r
  | .bl _, _, r => r
  | .int _, _, r => r
  | .str _, _, r => r
  | .gl _, _, r => r
  | .tup ds, _, r => by
    simp only [Rep] at r ⊢
    obtain ⟨a, vs, e, q, t⟩ := r
    exact ⟨a, vs, e, h.F _ _ q, RepL.mono h t⟩
  | .lst ds, _, r => by
    simp only [Rep] at r ⊢
    obtain ⟨a, vs, e, q, t⟩ := r
    exact ⟨a, vs, e, h.F _ _ q, RepL.mono h t⟩
  | .ktp ds, _, r => by
    simp only [Rep] at r ⊢
    obtain ⟨a, vs, e, q, t⟩ := r
    exact ⟨a, vs, e, sqT_mono h.F q, RepL.mono h t⟩
  | .frl ds, _, r => by
    simp only [Rep] at r ⊢
    obtain ⟨a, vs, e, q, t⟩ := r
    exact ⟨a, vs, e, sqL_mono h.F q, RepL.mono h t⟩
  | .dic ks ds, _, r => by
    simp only [Rep] at r ⊢
    obtain ⟨a, vs, u, e, q, d, t⟩ := r
    exact ⟨a, vs, u, e, h.F _ _ q, d, RepL.mono h t⟩
  | .obj c fs ds, _, r => by
    simp only [Rep] at r ⊢
    obtain ⟨kc, a, C, dx, vs, e, q, d, l, t⟩ := r
    exact ⟨kc, a, C, dx, vs, e, q, h.F _ _ d, l, RepL.mono h t⟩
  | .ptr i, _, r => by
    simp only [Rep] at r ⊢
    obtain ⟨a, q, e⟩ := r
    exact ⟨a, h.m _ _ q, e⟩
  | .clo i env, _, r => by
    simp only [Rep] at r ⊢
    obtain ⟨a, vs, e, q, t⟩ := r
    exact ⟨a, vs, e, h.F _ _ q, RepL.mono h t⟩
theorem RepL.mono {w : Wd} {g g' : Gh} (h : Le g g') : ∀ {ds : List D} {vs : List V}, RepL w g ds vs → RepL w g' ds vs
  | [], _, r => r
  | d :: ds, _, r => by
    simp only [RepL] at r ⊢
    obtain ⟨v, l, e, q, t⟩ := r
    exact ⟨v, l, e, Rep.mono h q, RepL.mono h t⟩
end

section
variable {w : Wd} {g : Gh}
theorem RepL.nil : RepL w g [] [] := by simp only [RepL]
theorem RepL.cons {d : D} {ds : List D} {v : V} {vs : List V} (a : Rep w g d v) (b : RepL w g ds vs) : RepL w g (d :: ds) (v :: vs) := by
  simp only [RepL]; exact ⟨v, vs, rfl, a, b⟩
theorem RepL.cases {d : D} {ds : List D} {vs : List V} (h : RepL w g (d :: ds) vs) : ∃ v r, vs = v :: r ∧ Rep w g d v ∧ RepL w g ds r := by
  simpa only [RepL] using h
theorem RepL.cases0 {vs : List V} (h : RepL w g [] vs) : vs = [] := by simpa only [RepL] using h
theorem RepL.length : ∀ {ds : List D} {vs : List V}, RepL w g ds vs → ds.length = vs.length
  | [], _, h => by rw [h.cases0]; rfl
  | d :: ds, _, h => by
    obtain ⟨v, r, rfl, _, t⟩ := h.cases
    simp [t.length]
theorem RepL.get : ∀ {ds : List D} {vs : List V} {i : Nat} {d : D}, RepL w g ds vs → ds[i]? = some d → ∃ v, vs[i]? = some v ∧ Rep w g d v
  | [], _, _, _, _, e => by simp at e
  | d :: ds, _, 0, x, h, e => by
    obtain ⟨v, r, rfl, q, t⟩ := h.cases
    simp at e; subst e
    exact ⟨v, rfl, q⟩
  | d :: ds, _, i + 1, x, h, e => by
    obtain ⟨v, r, rfl, q, t⟩ := h.cases
    obtain ⟨u, a, b⟩ := RepL.get (i := i) t (by simpa using e)
    exact ⟨u, by simpa using a, b⟩
theorem RepL.append : ∀ {ds es : List D} {vs us : List V}, RepL w g ds vs → RepL w g es us → RepL w g (ds ++ es) (vs ++ us)
  | [], _, _, _, h, k => by rw [h.cases0]; exact k
  | d :: ds, _, _, _, h, k => by
    obtain ⟨v, r, rfl, q, t⟩ := h.cases
    exact .cons q (RepL.append t k)
theorem RepL.set : ∀ {ds : List D} {vs : List V} (i : Nat) {d : D} {v : V}, RepL w g ds vs → Rep w g d v → RepL w g (ds.set i d) (vs.set i v)
  | [], _, _, _, _, h, _ => by rw [h.cases0]; exact .nil
  | x :: ds, _, 0, _, _, h, k => by
    obtain ⟨v, r, rfl, q, t⟩ := h.cases
    exact .cons k t
  | x :: ds, _, i + 1, _, _, h, k => by
    obtain ⟨v, r, rfl, q, t⟩ := h.cases
    exact .cons q (RepL.set i t k)
theorem RepL.take : ∀ {ds : List D} {vs : List V} (n : Nat), RepL w g ds vs → RepL w g (ds.take n) (vs.take n)
  | _, _, 0, _ => by simpa using RepL.nil
  | [], _, n + 1, h => by rw [h.cases0]; exact .nil
  | x :: ds, _, n + 1, h => by
    obtain ⟨v, r, rfl, q, t⟩ := h.cases
    exact .cons q (RepL.take n t)
theorem RepL.drop : ∀ {ds : List D} {vs : List V} (n : Nat), RepL w g ds vs → RepL w g (ds.drop n) (vs.drop n)
  | _, _, 0, h => h
  | [], _, n + 1, h => by rw [h.cases0]; exact .nil
  | x :: ds, _, n + 1, h => by
    obtain ⟨v, r, rfl, q, t⟩ := h.cases
    exact RepL.drop n t
theorem RepL.reverse : ∀ {ds : List D} {vs : List V}, RepL w g ds vs → RepL w g ds.reverse vs.reverse
  | [], _, h => by rw [h.cases0]; exact .nil
  | x :: ds, _, h => by
    obtain ⟨v, r, rfl, q, t⟩ := h.cases
    rw [List.reverse_cons, List.reverse_cons]
    exact t.reverse.append (.cons q .nil)
end

/-- what a changing object's place tells -/
def MOk (w : Wd) (g : Gh) (H : Hp) (a : Addr) : MO → Prop
  | .lst ds => ∃ vs, H a = some (.lst vs) ∧ RepL w g ds vs
  | .dic ks ds => ∃ vs u, H a = some u ∧ DicO ks vs u ∧ RepL w g ds vs
  | .ins c fs ds => w.kc c ∧ ∃ C dx vs, w.mg c = some (.ref C) ∧ H a = some (.ins C dx (fs.zip vs)) ∧ fs.length = vs.length ∧ RepL w g ds vs
theorem MOk.there {w : Wd} {g : Gh} {H : Hp} {a : Addr} : ∀ {o : MO}, MOk w g H a o → ∃ u, H a = some u
  | .lst _, ⟨_, h, _⟩ => ⟨_, h⟩
  | .dic _ _, ⟨_, _, h, _⟩ => ⟨_, h⟩
  | .ins _ _ _, ⟨_, _, _, _, _, h, _⟩ => ⟨_, h⟩
theorem MOk.mono {w : Wd} {g g' : Gh} {H H' : Hp} {a : Addr} (l : Le g g') (e : ∀ u, H a = some u → H' a = some u) : ∀ {o : MO}, MOk w g H a o → MOk w g' H' a o
  | .lst _, ⟨vs, h, r⟩ => ⟨vs, e _ h, r.mono l⟩
  | .dic _ _, ⟨vs, u, h, d, r⟩ => ⟨vs, u, e _ h, d, r.mono l⟩
  | .ins _ _ _, ⟨kc, C, dx, vs, k, h, z, r⟩ => ⟨kc, C, dx, vs, k, e _ h, z, r.mono l⟩

structure SimS (w : Wd) (g : Gh) (H : Hp) (S : Store) : Prop where
  sub : Sub g.F H
  dom : ∀ i, i < S.length ↔ ∃ a, g.m i = some a
  inj : ∀ i j a, g.m i = some a → g.m j = some a → i = j
  at_ : ∀ (i : Nat) o a, S[i]? = some o → g.m i = some a → g.F a = none ∧ MOk w g H a o

structure Sim (w : Wd) (g : Gh) (H : Hp) (ρ : LEnv) (σ : St) (S : Store) : Prop where
  st : SimS w g H S
  len : ρ.length = σ.length
  val : ∀ (i : Nat) d, ρ[i]? = some (Slot.val d) → ∃ v, σ[i]? = some (some v) ∧ Rep w g d v
  own : ∀ (i : Nat) o, ρ[i]? = some (Slot.own o) → ∃ a, σ[i]? = some (some (V.ref a)) ∧ g.F a = none ∧ (∀ j, g.m j ≠ some a) ∧ MOk w g H a o
  apart : ∀ (i j : Nat) o u a, ρ[i]? = some (Slot.own o) → ρ[j]? = some (Slot.own u) → σ[i]? = some (some (V.ref a)) → σ[j]? = some (some (V.ref a)) → i = j
  xc : ∀ (i : Nat), ρ[i]? = some Slot.xc → ∃ a, w.xa = some a ∧ σ[i]? = some (some (V.ref a))

/-- what stands outside stays, and stays outside -/
structure Fr (g : Gh) (H : Hp) (g' : Gh) (H' : Hp) : Prop where
  le : Le g g'
  out : ∀ a u, H a = some u → g.F a = none → (∀ j, g.m j ≠ some a) → H' a = some u ∧ g'.F a = none ∧ ∀ j, g'.m j ≠ some a
  th : ∀ a u, H a = some u → ∃ u', H' a = some u'
theorem Fr.refl {g : Gh} {H : Hp} : Fr g H g H := ⟨.refl, fun _ _ h f m => ⟨h, f, m⟩, fun _ _ h => ⟨_, h⟩⟩
theorem Fr.trans {g g1 g2 : Gh} {H H1 H2 : Hp} (a : Fr g H g1 H1) (b : Fr g1 H1 g2 H2) : Fr g H g2 H2 := ⟨a.le.trans b.le, fun x u h f m => by
  obtain ⟨h1, f1, m1⟩ := a.out x u h f m
  exact b.out x u h1 f1 m1, fun x u h => by
  obtain ⟨_, h⟩ := a.th x u h
  exact b.th x _ h⟩

theorem Sim.fr {w : Wd} {g g' : Gh} {H H' : Hp} {ρ : LEnv} {σ : St} {S S' : Store} (s : Sim w g H ρ σ S) (f : Fr g H g' H') (t : SimS w g' H' S') : Sim w g' H' ρ σ S' where
  st := t
  len := s.len
  val := fun i d e => by
    obtain ⟨v, h1, h2⟩ := s.val i d e
    exact ⟨v, h1, h2.mono f.le⟩
  own := fun i o e => by
    obtain ⟨a, h1, h2, h3, h4⟩ := s.own i o e
    obtain ⟨u, hu⟩ := h4.there
    obtain ⟨k1, k2, k3⟩ := f.out a u hu h2 h3
    exact ⟨a, h1, k2, k3, h4.mono f.le fun u' hu' => by rw [hu] at hu'; cases hu'; exact k1⟩
  apart := s.apart
  xc := s.xc

/-- an exception's own dict -/
def XRep (w : Wd) (g : Gh) (H : Hp) (d : Option Addr) (fs : List (Str × D)) : Prop :=
  (fs = [] ∧ d = none) ∨ fs ≠ [] ∧ ∃ dd vs, d = some dd ∧ H dd = some (.xd ((fs.map (·.1)).zip vs)) ∧ RepL w g (fs.map (·.2)) vs

/-- what is wanted of an outcome -/
def Con (w : Wd) (W : WX) (σ : St) {α β : Type} (R : Gh → Hp → α → β → Prop) (g : Gh) (H : Hp) (Q : β → Hp → Prop) : Out (α × Store) → Prop
  | .ok p => ∀ b g' H', SimS w g' H' p.2 → Fr g H g' H' → R g' H' p.1 b → Q b H'
  | .exc c fs S' => ∀ C d g' H', SimS w g' H' S' → Fr g H g' H' → w.mg c = some (.ref C) → XRep w g' H' d fs → W (.ref C) d σ H'
  | .stuck => False

section
variable {w : Wd} {W : WX} {σ : St} {α β γ δ : Type} {R : Gh → Hp → α → β → Prop} {R' : Gh → Hp → γ → δ → Prop} {g g1 : Gh} {H H1 : Hp} {Q : β → Hp → Prop} {Q' : δ → Hp → Prop}
theorem Con.fr {o : Out (α × Store)} (c : Con w W σ R g H Q o) (f : Fr g H g1 H1) : Con w W σ R g1 H1 Q o := by
  cases o with
  | ok p => exact fun b g' H' s f' r => c b g' H' s (f.trans f') r
  | exc x fs S' => exact fun C d g' H' s f' e r => c C d g' H' s (f.trans f') e r
  | stuck => exact c
theorem Con.mono {o : Out (α × Store)} {Q2 : β → Hp → Prop} (c : Con w W σ R g H Q o) (h : ∀ b H, Q b H → Q2 b H) : Con w W σ R g H Q2 o := by
  cases o with
  | ok p => exact fun b g' H' s f' r => h _ _ (c b g' H' s f' r)
  | exc x fs S' => exact c
  | stuck => exact c
/-- what stands behind the first part -/
def Rest (w : Wd) (W : WX) (σ : St) {α β γ δ : Type} (R : Gh → Hp → α → β → Prop) (R' : Gh → Hp → γ → δ → Prop) (g : Gh) (H : Hp) (Q' : δ → Hp → Prop) (o : Out (α × Store)) (k : α × Store → Out (γ × Store)) : β → Hp → Prop := fun b H1 =>
  ∃ a S1 g1, o = .ok (a, S1) ∧ SimS w g1 H1 S1 ∧ Fr g H g1 H1 ∧ R g1 H1 a b ∧ Con w W σ R' g1 H1 Q' (k (a, S1))
theorem Con.bind {o : Out (α × Store)} {k : α × Store → Out (γ × Store)} (c : Con w W σ R' g H Q' (o.bind k)) : Con w W σ R g H (Rest w W σ R R' g H Q' o k) o := by
  cases o with
  | ok p => exact fun b g' H' s f r => ⟨p.1, p.2, g', rfl, s, f, r, Con.fr c f⟩
  | exc x fs S' => exact c
  | stuck => exact c
theorem Con.ret {a : α} {S : Store} {b : β} (c : Con w W σ R g H Q (.ok (a, S))) (s : SimS w g1 H1 S) (f : Fr g H g1 H1) (r : R g1 H1 a b) : Q b H1 := c b g1 H1 s f r
end

/-- an expression's relation -/
def RE (w : Wd) : Gh → Hp → D → V → Prop := fun g _ d v => Rep w g d v
def RA (w : Wd) : Gh → Hp → List D → List V → Prop := fun g _ d v => RepL w g d v
def RB : Gh → Hp → Bool → Bool → Prop := fun _ _ d v => d = v

/-- the readings -/
def tX (w : Wd) (W : WX) {α β : Type} (R : Gh → Hp → α → β → Prop) (den : LEnv → Store → Out (α × Store)) : St → Hp → (β → Hp → Prop) → Prop := fun σ H Q =>
  ∃ ρ S g, Sim w g H ρ σ S ∧ Con w W σ R g H Q (den ρ S)

abbrev wd (X : Cx) (cl : Wp) : Wd := ⟨X.K, X.mg, cl.cl, cl.kc, cl.xa⟩
variable (cl : Wp)
def GE (X : Cx) (e : Expr) (den : EX) : Prop := ∀ W, Takes X W → PE X e (tX (wd X cl) W (RE (wd X cl)) den)
def GT (X : Cx) (e : Expr) (den : BX) : Prop := ∀ W, Takes X W → PT X e (tX (wd X cl) W RB den)
def GW (X : Cx) (e : Expr) (den : BX) : Prop := ∀ W, Takes X W → PW X e (tX (wd X cl) W RB den)
def GA (X : Cx) (es : List Expr) (den : AX) : Prop := ∀ W, Takes X W → PA X es (tX (wd X cl) W (RA (wd X cl)) den)

theorem PE.weak {X : Cx} {e : Expr} {t t' : TE} (h : PE X e t) (k : ∀ σ H Q, t' σ H Q → t σ H Q) : PE X e t' := ⟨fun pins s σ H Q I q => h.run pins s σ H Q I (k _ _ _ q)⟩
theorem PT.weak {X : Cx} {e : Expr} {t t' : TT} (h : PT X e t) (k : ∀ σ H Q, t' σ H Q → t σ H Q) : PT X e t' := ⟨fun pins s σ H Q I q => h.run pins s σ H Q I (k _ _ _ q)⟩
theorem PW.weak {X : Cx} {e : Expr} {t t' : TT} (h : PW X e t) (k : ∀ σ H Q, t' σ H Q → t σ H Q) : PW X e t' := ⟨fun wh pins s σ H Q I q => h.run wh pins s σ H Q I (k _ _ _ q)⟩
theorem PA.weak {X : Cx} {e : List Expr} {t t' : TA} (h : PA X e t) (k : ∀ σ H Q, t' σ H Q → t σ H Q) : PA X e t' := ⟨fun pos pins s σ H Q I q => h.run pos pins s σ H Q I (k _ _ _ q)⟩
theorem takes_none {X : Cx} : Takes X (fun _ _ _ _ => False) := fun _ _ ⟨_, _, _, _, _, _, _, _, _, _, _, _, _, _, _, _, h⟩ => h.elim
end GG
end

section
/-! G.C: operators and comparisons on data. -/
set_option linter.all false
set_option maxRecDepth 100000
namespace GG
open PySem L2

/-! ### what operators give -/
def mulOk (i j : Int) : Bool := decide (i.natAbs.log2 + j.natAbs.log2 < 1000000)
def divOk (j : Int) : Bool := decide (0 < j) && decide (j.natAbs.log2 < 9000)
def addD : D → D → Option D
  | .int i, .int j => some (.int (i + j))
  | .str x, .str y => if x.length + y.length ≤ sizeLine then some (.str (x ++ y)) else none
  | .tup xs, .tup ys => if xs.length + ys.length ≤ sizeLine then some (.tup (xs ++ ys)) else none
  | .lst xs, .lst ys => if xs.length + ys.length ≤ sizeLine then some (.lst (xs ++ ys)) else none
  | _, _ => none
def subD : D → D → Option D
  | .int i, .int j => some (.int (i - j))
  | _, _ => none
def mulD : D → D → Option D
  | .int i, .int j => if mulOk i j then some (.int (i * j)) else none
  | _, _ => none
def fdivD : D → D → Option D
  | .int i, .int j => if divOk j then some (.int (i / j)) else none
  | _, _ => none
def modD : D → D → Option D
  | .int i, .int j => if 0 < j then some (.int (i % j)) else none
  | _, _ => none
def powD : D → D → Option D
  | .int i, .int j => if 0 ≤ j ∧ j ≤ 1000000 ∧ i.natAbs < 2 ^ 64 then some (.int (i ^ j.toNat)) else none
  | _, _ => none
def negD : D → Option D
  | .int i => some (.int (-i))
  | _ => none
def ltD : D → D → Option Bool
  | .int i, .int j => some (decide (i < j))
  | _, _ => none
def leD : D → D → Option Bool
  | .int i, .int j => some (decide (i ≤ j))
  | .str x, .str y => some (!decide (y.cps.toList < x.cps.toList))
  | _, _ => none
def gtD : D → D → Option Bool
  | .int i, .int j => some (decide (j < i))
  | _, _ => none
def geD : D → D → Option Bool
  | .int i, .int j => some (decide (j ≤ i))
  | _, _ => none
mutual
def toPy : D → Option PyData
  | .non => some .none
  | .bl b => some (.bool b)
  | .int i => some (.int i)
  | .str x => some (.str x)
  | .tup ds => (toPyL ds).map .tuple
  | .lst ds => (toPyL ds).map .list
  | _ => none
def toPyL : List D → Option (List PyData)
  | [] => some []
  | d :: ds => (toPy d).bind fun p => (toPyL ds).map fun q => p :: q
end
def eqD (a b : D) : Option Bool := (toPy a).bind fun p => (toPy b).bind fun q => if SeqAt.shaped p && SeqAt.shaped q then some (PyData.eqv p q) else none
def neD (a b : D) : Option Bool := (eqD a b).map not
def isNon : D → Bool
  | .non => true
  | _ => false
def isD : D → D → Option Bool
  | a, .non => some (isNon a)
  | _, _ => none
def notD : D → D → Option Bool
  | a, .non => some (!isNon a)
  | _, _ => none

/-! ### a new object -/
def Gh.put (g : Gh) (p : Addr) (u : HO) : Gh := ⟨upd g.F p u, g.m⟩
section
variable {w : Wd} {g : Gh} {H : Hp} {S : Store} {p : Addr} {u : HO}
theorem SimS.none (s : SimS w g H S) (hp : H p = none) : g.F p = none ∧ ∀ j, g.m j ≠ some p := by
  refine ⟨?_, fun j e => ?_⟩
  · cases e : g.F p with
    | none => rfl
    | some o =>
      rcases s.sub p o e with q | ⟨_, o', q⟩ <;> (rw [hp] at q; cases q)
  · obtain ⟨_, h2⟩ : j < S.length ∧ True := ⟨(s.dom j).mpr ⟨p, e⟩, trivial⟩
    have hj : j < S.length := (s.dom j).mpr ⟨p, e⟩
    obtain ⟨_, mo⟩ := s.at_ j S[j] p (by simp [hj]) e
    obtain ⟨o, ho⟩ := mo.there
    rw [hp] at ho; cases ho
theorem le_put (s : SimS w g H S) (hp : H p = Option.none) : Le g (g.put p u) := ⟨fun a o e => by
  have : a ≠ p := fun z => by
    have := (s.none hp).1
    rw [← z, e] at this; cases this
  show upd g.F p u a = some o
  rw [upd_ne this]; exact e, fun _ _ e => e⟩
theorem SimS.put (s : SimS w g H S) (hp : H p = Option.none) : SimS w (g.put p u) (upd H p u) S ∧ Fr g H (g.put p u) (upd H p u) := by
  have nn := s.none hp
  have l := le_put (u := u) s hp
  have he : ∀ {a o}, H a = some o → upd H p u a = some o := fun {a o} e => by
    rw [upd_ne (ne_of_none e hp)]; exact e
  refine ⟨⟨fun a o e => ?_, s.dom, s.inj, fun i o a e1 e2 => ?_⟩, l, fun a o e f m => ⟨he e, ?_, m⟩, fun a o e => ⟨o, he e⟩⟩
  · have e : upd g.F p u a = some o := e
    by_cases z : a = p
    · subst z
      rw [upd_same] at e; cases e
      exact .inl upd_same
    · rw [upd_ne z] at e
      rw [upd_ne z]
      exact s.sub a o e
  · obtain ⟨k1, k2⟩ := s.at_ i o a e1 e2
    obtain ⟨q, hq⟩ := k2.there
    refine ⟨?_, k2.mono l fun q hq => he hq⟩
    show upd g.F p u a = Option.none
    rw [upd_ne (ne_of_none hq hp)]; exact k1
  · show upd g.F p u a = Option.none
    rw [upd_ne (ne_of_none e hp)]; exact f
theorem put_at : (g.put p u).F p = some u := upd_same
theorem rep_tup {ds : List D} {vs : List V} (l : Le g (g.put p (.tup vs))) (r : RepL w g ds vs) : Rep w (g.put p (.tup vs)) (.tup ds) (.ref p) := by
  simp only [Rep]; exact ⟨p, vs, rfl, put_at, r.mono l⟩
theorem rep_lst {ds : List D} {vs : List V} (l : Le g (g.put p (.lst vs))) (r : RepL w g ds vs) : Rep w (g.put p (.lst vs)) (.lst ds) (.ref p) := by
  simp only [Rep]; exact ⟨p, vs, rfl, put_at, r.mono l⟩
end

/-! ### operators -/
/-- a two-place operation on data -/
def rD (w : Wd) (f : D → D → Option D) : R2 := fun x y H Q => ∃ d1 d2 d g S, SimS w g H S ∧ Rep w g d1 x ∧ Rep w g d2 y ∧ f d1 d2 = some d ∧
  ∀ v g' H', SimS w g' H' S → Fr g H g' H' → Rep w g' d v → Q v H'
def rC (w : Wd) (f : D → D → Option Bool) : R2 := fun x y H Q => ∃ d1 d2 b g S, SimS w g H S ∧ Rep w g d1 x ∧ Rep w g d2 y ∧ f d1 d2 = some b ∧ Q (.bl b) H
section
variable {cl : Wp} {X : Cx}
theorem rep_int {w : Wd} {g : Gh} {i : Int} {v : V} : Rep w g (.int i) v ↔ v = .int i := by simp only [Rep]
theorem rep_bl {w : Wd} {g : Gh} {i : Bool} {v : V} : Rep w g (.bl i) v ↔ v = .bl i := by simp only [Rep]
theorem rep_str {w : Wd} {g : Gh} {i : Str} {v : V} : Rep w g (.str i) v ↔ v = .str i := by simp only [Rep]
theorem rep_non {w : Wd} {g : Gh} {v : V} : Rep w g .non v ↔ v = .non := by simp only [Rep]
theorem rep_ptr {w : Wd} {g : Gh} {i : Nat} {v : V} : Rep w g (.ptr i) v ↔ ∃ a, g.m i = some a ∧ v = .ref a := by simp only [Rep]
theorem rep_gl {w : Wd} {g : Gh} {x : Str} {v : V} : Rep w g (.gl x) v ↔ ∃ a, w.mg x = some (.ref a) ∧ v = .ref a := by simp only [Rep]
theorem rep_tup' {w : Wd} {g : Gh} {ds : List D} {v : V} : Rep w g (.tup ds) v ↔ ∃ a vs, v = .ref a ∧ g.F a = some (.tup vs) ∧ RepL w g ds vs := by simp only [Rep]
theorem rep_lst' {w : Wd} {g : Gh} {ds : List D} {v : V} : Rep w g (.lst ds) v ↔ ∃ a vs, v = .ref a ∧ g.F a = some (.lst vs) ∧ RepL w g ds vs := by simp only [Rep]
theorem rep_ktp' {w : Wd} {g : Gh} {ds : List D} {v : V} : Rep w g (.ktp ds) v ↔ ∃ a vs, v = .ref a ∧ SqT w.K g.F a vs ∧ RepL w g ds vs := by simp only [Rep]
theorem rep_frl' {w : Wd} {g : Gh} {ds : List D} {v : V} : Rep w g (.frl ds) v ↔ ∃ a vs, v = .ref a ∧ SqL w.K g.F a vs ∧ RepL w g ds vs := by simp only [Rep]
theorem rep_dic' {w : Wd} {g : Gh} {ks : List KK} {ds : List D} {v : V} : Rep w g (.dic ks ds) v ↔ ∃ a vs u, v = .ref a ∧ g.F a = some u ∧ DicO ks vs u ∧ RepL w g ds vs := by simp only [Rep]
theorem rep_obj' {w : Wd} {g : Gh} {c : Str} {fs : List Str} {ds : List D} {v : V} : Rep w g (.obj c fs ds) v ↔ w.kc c ∧ ∃ a C dx vs, v = .ref a ∧ w.mg c = some (.ref C) ∧ g.F a = some (.ins C dx (fs.zip vs)) ∧ fs.length = vs.length ∧ RepL w g ds vs := by simp only [Rep]

theorem RepL.eq_nil {w : Wd} {g : Gh} {ds : List D} {vs : List V} (r : RepL w g ds vs) : ds = [] ↔ vs = [] := by
  have := r.length
  constructor
  · rintro rfl; exact List.length_eq_zero_iff.mp (by simpa using this.symm)
  · rintro rfl; exact List.length_eq_zero_iff.mp (by simpa using this)

theorem ok_add : OpR X (binaryOp .Add) (rD (wd X cl) addD) := by
  intro pins s σ H x y v u Q I rx ry ⟨d1, d2, d, g, S, sim, r1, r2, e, q⟩
  unfold addD at e
  split at e
  · cases e
    rw [rep_int] at r1 r2
    subst r1 r2
    exact op_add pins s σ H _ _ v u Q I rx ry ⟨_, _, rfl, rfl, q _ g H sim .refl (rep_int.mpr rfl)⟩
  · split at e
    · rename_i hz
      cases e
      rw [rep_str] at r1 r2
      subst r1 r2
      exact op_add_str pins s σ H _ _ v u Q I rx ry ⟨_, _, rfl, rfl, hz, q _ g H sim .refl (rep_str.mpr rfl)⟩
    · cases e
  · rename_i xs ys
    split at e
    · rename_i hz
      cases e
      have r1' := r1
      have r2' := r2
      rw [rep_tup'] at r1 r2
      obtain ⟨a, vs, rfl, s1, l1⟩ := r1
      obtain ⟨b, us, rfl, s2, l2⟩ := r2
      refine op_catA pins s σ H _ _ v u Q I rx ry ⟨a, b, vs, us, rfl, rfl, sqT_sub sim.sub (SqT.of s1), sqT_sub sim.sub (SqT.of s2), by rw [← l1.length, ← l2.length]; exact hz, fun z => ?_, fun _ z => ?_, fun _ _ p hp => ?_⟩
      · obtain rfl := l1.eq_nil.mpr z
        exact q _ g H sim .refl r2'
      · obtain rfl := l2.eq_nil.mpr z
        rw [List.append_nil] at q
        exact q _ g H sim .refl r1'
      · obtain ⟨t, f⟩ := sim.put (u := .tup (vs ++ us)) hp
        exact q _ _ _ t f (rep_tup f.le (l1.append l2))
    · cases e
  · rename_i xs ys
    split at e
    · rename_i hz
      cases e
      rw [rep_lst'] at r1 r2
      obtain ⟨a, vs, rfl, s1, l1⟩ := r1
      obtain ⟨b, us, rfl, s2, l2⟩ := r2
      refine op_cat pins s σ H _ _ v u Q I rx ry ⟨a, b, vs, us, rfl, rfl, sub_lst sim.sub (fun z => z) s1, sub_lst sim.sub (fun z => z) s2, by rw [← l1.length, ← l2.length]; exact hz, fun p hp => ?_⟩
      obtain ⟨t, f⟩ := sim.put (u := .lst (vs ++ us)) hp
      exact q _ _ _ t f (rep_lst f.le (l1.append l2))
    · cases e
  · cases e
theorem ok_sub : OpR X (binaryOp .Sub) (rD (wd X cl) subD) := by
  intro pins s σ H x y v u Q I rx ry ⟨d1, d2, d, g, S, sim, r1, r2, e, q⟩
  unfold subD at e
  split at e
  · cases e
    rw [rep_int] at r1 r2
    subst r1 r2
    exact op_sub pins s σ H _ _ v u Q I rx ry ⟨_, _, rfl, rfl, q _ g H sim .refl (rep_int.mpr rfl)⟩
  · cases e
theorem ok_mul : OpR X (binaryOp .Mult) (rD (wd X cl) mulD) := by
  intro pins s σ H x y v u Q I rx ry ⟨d1, d2, d, g, S, sim, r1, r2, e, q⟩
  unfold mulD at e
  split at e
  · split at e
    · rename_i hz
      cases e
      rw [rep_int] at r1 r2
      subst r1 r2
      have hz' := of_decide_eq_true (show decide (_ < 1000000) = true from hz)
      exact op_mulW pins s σ H _ _ v u Q I rx ry ⟨_, _, rfl, rfl, hz', q _ g H sim .refl (rep_int.mpr rfl)⟩
    · cases e
  · cases e
theorem ok_fdiv : OpR X (binaryOp .FloorDiv) (rD (wd X cl) fdivD) := by
  intro pins s σ H x y v u Q I rx ry ⟨d1, d2, d, g, S, sim, r1, r2, e, q⟩
  unfold fdivD at e
  split at e
  · split at e
    · rename_i hz
      cases e
      rw [rep_int] at r1 r2
      subst r1 r2
      obtain ⟨h1, h2⟩ := Bool.and_eq_true_iff.mp hz
      exact op_fdivW pins s σ H _ _ v u Q I rx ry ⟨_, _, rfl, rfl, ⟨of_decide_eq_true h1, of_decide_eq_true h2⟩, q _ g H sim .refl (rep_int.mpr rfl)⟩
    · cases e
  · cases e
theorem ok_mod : OpR X (binaryOp .Mod) (rD (wd X cl) modD) := by
  intro pins s σ H x y v u Q I rx ry ⟨d1, d2, d, g, S, sim, r1, r2, e, q⟩
  unfold modD at e
  split at e
  · split at e
    · rename_i hz
      cases e
      rw [rep_int] at r1 r2
      subst r1 r2
      exact op_mod pins s σ H _ _ v u Q I rx ry ⟨_, _, rfl, rfl, hz, q _ g H sim .refl (rep_int.mpr rfl)⟩
    · cases e
  · cases e
theorem ok_pow : OpR X (binaryOp .Pow) (rD (wd X cl) powD) := by
  intro pins s σ H x y v u Q I rx ry ⟨d1, d2, d, g, S, sim, r1, r2, e, q⟩
  unfold powD at e
  split at e
  · split at e
    · rename_i hz
      cases e
      rw [rep_int] at r1 r2
      subst r1 r2
      exact op_pow pins s σ H _ _ v u Q I rx ry ⟨_, _, rfl, rfl, hz, q _ g H sim .refl (rep_int.mpr rfl)⟩
    · cases e
  · cases e
theorem ok_neg : UnR X (unaryOp .USub) (fun x H Q => ∃ d1 d g S, SimS (wd X cl) g H S ∧ Rep (wd X cl) g d1 x ∧ negD d1 = some d ∧ ∀ v g' H', SimS (wd X cl) g' H' S → Fr g H g' H' → Rep (wd X cl) g' d v → Q v H') := by
  intro pins s σ H x v Q I rx ⟨d1, d, g, S, sim, r1, e, q⟩
  unfold negD at e
  split at e
  · cases e
    rw [rep_int] at r1
    subst r1
    exact un_neg pins s σ H _ v Q I rx ⟨_, rfl, q _ g H sim .refl (rep_int.mpr rfl)⟩
  · cases e

/-! ### comparisons -/
theorem ok_lt : OpR X (compareOp .Lt) (rC (wd X cl) ltD) := by
  intro pins s σ H x y v u Q I rx ry ⟨d1, d2, d, g, S, sim, r1, r2, e, q⟩
  unfold ltD at e
  split at e
  · cases e
    rw [rep_int] at r1 r2
    subst r1 r2
    exact op_lt pins s σ H _ _ v u Q I rx ry ⟨_, _, rfl, rfl, q⟩
  · cases e
theorem ok_le : OpR X (compareOp .LtE) (rC (wd X cl) leD) := by
  intro pins s σ H x y v u Q I rx ry ⟨d1, d2, d, g, S, sim, r1, r2, e, q⟩
  unfold leD at e
  split at e
  · cases e
    rw [rep_int] at r1 r2
    subst r1 r2
    exact op_le pins s σ H _ _ v u Q I rx ry ⟨_, _, rfl, rfl, q⟩
  · cases e
    rw [rep_str] at r1 r2
    subst r1 r2
    exact op_le_str pins s σ H _ _ v u Q I rx ry ⟨_, _, rfl, rfl, q⟩
  · cases e
theorem ok_gt : OpR X (compareOp .Gt) (rC (wd X cl) gtD) := by
  intro pins s σ H x y v u Q I rx ry ⟨d1, d2, d, g, S, sim, r1, r2, e, q⟩
  unfold gtD at e
  split at e
  · cases e
    rw [rep_int] at r1 r2
    subst r1 r2
    exact op_gt pins s σ H _ _ v u Q I rx ry ⟨_, _, rfl, rfl, q⟩
  · cases e
theorem ok_ge : OpR X (compareOp .GtE) (rC (wd X cl) geD) := by
  intro pins s σ H x y v u Q I rx ry ⟨d1, d2, d, g, S, sim, r1, r2, e, q⟩
  unfold geD at e
  split at e
  · cases e
    rw [rep_int] at r1 r2
    subst r1 r2
    exact op_ge pins s σ H _ _ v u Q I rx ry ⟨_, _, rfl, rfl, q⟩
  · cases e

mutual
theorem dp_of {w : Wd} {g : Gh} {H : Hp} (sb : Sub g.F H) : ∀ {d : D} {v : V} {p : PyData}, Rep w g d v → toPy d = some p → Dp w.K H v p
  | .non, _, _, r, e => by simp only [toPy] at e; cases e; rw [rep_non] at r; subst r; exact .non
  | .bl _, _, _, r, e => by simp only [toPy] at e; cases e; rw [rep_bl] at r; subst r; exact .bl _
  | .int _, _, _, r, e => by simp only [toPy] at e; cases e; rw [rep_int] at r; subst r; exact .int _
  | .str _, _, _, r, e => by simp only [toPy] at e; cases e; rw [rep_str] at r; subst r; exact .str _
  | .tup ds, _, _, r, e => by
    simp only [toPy, Option.map_eq_some_iff] at e
    obtain ⟨ps, e, rfl⟩ := e
    rw [rep_tup'] at r
    obtain ⟨a, vs, rfl, s, l⟩ := r
    exact .tup (sqT_sub sb (SqT.of s)) (dpAll_of sb l e)
  | .lst ds, _, _, r, e => by
    simp only [toPy, Option.map_eq_some_iff] at e
    obtain ⟨ps, e, rfl⟩ := e
    rw [rep_lst'] at r
    obtain ⟨a, vs, rfl, s, l⟩ := r
    exact .lst (sqL_sub sb (SqL.of s)) (dpAll_of sb l e)
  | .gl _, _, _, _, e => by simp only [toPy] at e; cases e
  | .ktp _, _, _, _, e => by simp only [toPy] at e; cases e
  | .frl _, _, _, _, e => by simp only [toPy] at e; cases e
  | .dic _ _, _, _, _, e => by simp only [toPy] at e; cases e
  | .obj _ _ _, _, _, _, e => by simp only [toPy] at e; cases e
  | .ptr _, _, _, _, e => by simp only [toPy] at e; cases e
  | .clo _ _, _, _, _, e => by simp only [toPy] at e; cases e
theorem dpAll_of {w : Wd} {g : Gh} {H : Hp} (sb : Sub g.F H) : ∀ {ds : List D} {vs : List V} {ps : List PyData}, RepL w g ds vs → toPyL ds = some ps → DpAll w.K H vs ps
  | [], _, _, r, e => by simp only [toPyL] at e; cases e; rw [r.cases0]; exact .nil
  | d :: ds, _, _, r, e => by
    simp only [toPyL, Option.bind_eq_some_iff, Option.map_eq_some_iff] at e
    obtain ⟨p, e1, q, e2, rfl⟩ := e
    obtain ⟨v, l, rfl, q1, q2⟩ := r.cases
    exact .cons (dp_of sb q1 e1) (dpAll_of sb q2 e2)
end
theorem eqD_some {a b : D} {k : Bool} (e : eqD a b = some k) : ∃ p q, toPy a = some p ∧ toPy b = some q ∧ SeqAt.shaped p = true ∧ SeqAt.shaped q = true ∧ k = PyData.eqv p q := by
  unfold eqD at e
  simp only [Option.bind_eq_some_iff] at e
  obtain ⟨p, e1, q, e2, e⟩ := e
  split at e
  · rename_i h
    cases e
    obtain ⟨h1, h2⟩ := Bool.and_eq_true_iff.mp h
    exact ⟨p, q, e1, e2, h1, h2, rfl⟩
  · cases e
theorem ok_eq (hu : X.A.units + 64 < cLine) : OpR X (compareOp .Eq) (rC (wd X cl) eqD) := by
  intro pins s σ H x y v u Q I rx ry ⟨d1, d2, d, g, S, sim, r1, r2, e, q⟩
  obtain ⟨p, p', e1, e2, h1, h2, rfl⟩ := eqD_some e
  exact op_eqD hu pins s σ H _ _ v u Q I rx ry ⟨p, p', dp_of (w := wd X cl) sim.sub r1 e1, dp_of (w := wd X cl) sim.sub r2 e2, h1, h2, q⟩
theorem ok_ne (hu : X.A.units + 64 < cLine) : OpR X (compareOp .NotEq) (rC (wd X cl) neD) := by
  intro pins s σ H x y v u Q I rx ry ⟨d1, d2, d, g, S, sim, r1, r2, e, q⟩
  unfold neD at e
  rw [Option.map_eq_some_iff] at e
  obtain ⟨k, e, rfl⟩ := e
  obtain ⟨p, p', e1, e2, h1, h2, rfl⟩ := eqD_some e
  exact op_neD hu pins s σ H _ _ v u Q I rx ry ⟨p, p', dp_of (w := wd X cl) sim.sub r1 e1, dp_of (w := wd X cl) sim.sub r2 e2, h1, h2, q⟩
theorem isNon_iff {w : Wd} {g : Gh} {d : D} {v : V} (r : Rep w g d v) : isNon d = decide (v = .non) := by
  cases d <;> simp only [Rep] at r
  all_goals first
    | (subst r; rfl)
    | (obtain ⟨a, _, rfl⟩ := r; rfl)
    | (obtain ⟨a, vs, rfl, _⟩ := r; rfl)
    | (obtain ⟨a, vs, u, rfl, _⟩ := r; rfl)
    | (obtain ⟨_, a, vs, u, z, rfl, _⟩ := r; rfl)
theorem ok_is : OpR X (compareOp .Is) (rC (wd X cl) isD) := by
  intro pins s σ H x y v u Q I rx ry ⟨d1, d2, d, g, S, sim, r1, r2, e, q⟩
  unfold isD at e
  split at e
  · cases e
    rw [rep_non] at r2
    subst r2
    exact op_isN pins s σ H _ _ v u Q I rx ry ⟨rfl, by rw [← isNon_iff r1]; exact q⟩
  · cases e
theorem ok_isnot : OpR X (compareOp .IsNot) (rC (wd X cl) notD) := by
  intro pins s σ H x y v u Q I rx ry ⟨d1, d2, d, g, S, sim, r1, r2, e, q⟩
  unfold notD at e
  split at e
  · cases e
    rw [rep_non] at r2
    subst r2
    exact op_notN pins s σ H _ _ v u Q I rx ry ⟨rfl, by rw [← isNon_iff r1]; exact q⟩
  · cases e
end
end GG
end

section
/-! G.D: expressions: names, constants, operators, tests, argument lists, displays. -/
set_option linter.all false
set_option maxRecDepth 100000
namespace GG
open PySem L2
section
variable {cl : Wp} {X : Cx} {a b c e : Expr} {es : List Expr} {da db dc : EX} {pos : Pos}

/-- the first part of a reading -/
theorem Con.go {w : Wd} {W : WX} {σ : St} {α β γ δ : Type} {R : Gh → Hp → α → β → Prop} {R' : Gh → Hp → γ → δ → Prop} {ρ : LEnv} {S : Store} {g : Gh} {H : Hp} {Q' : δ → Hp → Prop} {T : β → Hp → Prop}
    (sim : Sim w g H ρ σ S) {den : LEnv → Store → Out (α × Store)} {k : α × Store → Out (γ × Store)} (c : Con w W σ R' g H Q' ((den ρ S).bind k))
    (h : ∀ b H1 a S1 g1, den ρ S = .ok (a, S1) → Sim w g1 H1 ρ σ S1 → Fr g H g1 H1 → R g1 H1 a b → Con w W σ R' g1 H1 Q' (k (a, S1)) → T b H1) : tX w W R den σ H T :=
  ⟨ρ, S, g, sim, (Con.bind (R := R) c).mono fun b H1 ⟨a, S1, g1, e, s, f, r, c1⟩ => h b H1 a S1 g1 e (sim.fr f s) f r c1⟩
theorem Con.opt {w : Wd} {W : WX} {σ : St} {α γ δ : Type} {R' : Gh → Hp → γ → δ → Prop} {g : Gh} {H : Hp} {Q' : δ → Hp → Prop} {o : Option α} {k : α → Out (γ × Store)} (c : Con w W σ R' g H Q' ((Out.opt o).bind k)) :
    ∃ x, o = some x ∧ Con w W σ R' g H Q' (k x) := by
  cases o with
  | none => exact c.elim
  | some x => exact ⟨x, rfl, c⟩
theorem Con.val {w : Wd} {W : WX} {σ : St} {α β : Type} {R : Gh → Hp → α → β → Prop} {g : Gh} {H : Hp} {Q : β → Hp → Prop} {a : α} {S : Store} {b : β} (c : Con w W σ R g H Q (.ok (a, S))) (s : SimS w g H S) (r : R g H a b) : Q b H := c b g H s .refl r

/-! ### names and constants -/
theorem ge_c {v : V} {d : D} {e : Expr} (h : ∀ W, Takes X W → PE X e (tC v)) (r : ∀ g, Rep (wd X cl) g d v) : GE cl X e (eC d) := fun W tk => PE.weak (h W tk) fun σ H Q ⟨ρ, S, g, sim, c⟩ => Con.val c sim.st (r g)
theorem ge_int {i : Int} {j : Nat} : GE cl X (.Constant (.int i) j pos) (eC (.int i)) := ge_c (fun _ _ => pe_int) fun _ => rep_int.mpr rfl
theorem ge_bl {i : Bool} {j : Nat} : GE cl X (.Constant (.bool i) j pos) (eC (.bl i)) := ge_c (fun _ _ => pe_bl) fun _ => rep_bl.mpr rfl
theorem ge_non {j : Nat} : GE cl X (.Constant .none j pos) (eC .non) := ge_c (fun _ _ => pe_non) fun _ => rep_non.mpr rfl
theorem ge_str {x : Str} {j : Nat} : GE cl X (.Constant (.str x) j pos) (eC (.str x)) := ge_c (fun _ _ => pe_str) fun _ => rep_str.mpr rfl
theorem ge_var {i : Nat} {x : Str} (hN : X.N[i]? = some x) (hv : Vis X.env.scope x) (hd : (x == ("__debug__" : Str)) = false) (hcd : (x == ("__classdict__" : Str)) = false) : GE cl X (.Name x pos) (eV i) := fun W tk =>
  PE.weak (pe_var hN hv hd hcd) fun σ H Q ⟨ρ, S, g, sim, c⟩ => by
    unfold eV at c
    split at c
    · rename_i d e
      obtain ⟨v, h1, h2⟩ := sim.val i d e
      exact ⟨v, h1, Con.val c sim.st h2⟩
    · exact c.elim
theorem ge_gl {x : Str} {f : Addr} (hg : Gl X x) (hm : X.mg x = some (.ref f)) (hd : (x == ("__debug__" : Str)) = false) : GE cl X (.Name x pos) (eC (.gl x)) :=
  ge_c (v := .ref f) (fun _ _ => pe_glob hg hm rfl hd) fun _ => rep_gl.mpr ⟨f, hm, rfl⟩
theorem ge_const {x : Str} {u : Value} {v : V} {d : D} (hg : Gl X x) (hm : X.mg x = some u) (r : RelV v u) (rd : ∀ g, Rep (wd X cl) g d v) (hd : (x == ("__debug__" : Str)) = false) : GE cl X (.Name x pos) (eC d) :=
  ge_c (v := v) (fun _ _ => pe_glob hg hm r hd) rd

/-! ### operators -/
theorem ge_bin {op : Operator} {f : D → D → Option D} (ho : OpR X (binaryOp op) (rD (wd X cl) f)) (ha : GE cl X a da) (hb : GE cl X b db) : GE cl X (.BinOp a op b pos) (eBin f da db) := fun W tk =>
  PE.weak (pe_op ho (ha W tk) (hb W tk)) fun σ H Q ⟨ρ, S, g, sim, c⟩ =>
    Con.go sim c fun v H1 d1 S1 g1 e1 s1 f1 r1 c1 => Con.go s1 c1 fun u H2 d2 S2 g2 e2 s2 f2 r2 c2 => by
      obtain ⟨d, e, c3⟩ := c2.opt
      exact ⟨d1, d2, d, g2, S2, s2.st, Rep.mono f2.le r1, r2, e, fun v g' H' s f r => c3 v g' H' s f r⟩
theorem ge_neg (ha : GE cl X a da) : GE cl X (.UnaryOp .USub a pos) (eUn negD da) := fun W tk =>
  PE.weak (pe_un ok_neg (ha W tk)) fun σ H Q ⟨ρ, S, g, sim, c⟩ =>
    Con.go sim c fun v H1 d1 S1 g1 e1 s1 f1 r1 c1 => by
      obtain ⟨d, e, c3⟩ := c1.opt
      exact ⟨d1, d, g1, S1, s1.st, r1, e, fun v g' H' s f r => c3 v g' H' s f r⟩
theorem rd_cmp {f : D → D → Option Bool} {W : WX} {σ : St} {H : Hp} {Q : VK} (h : tX (wd X cl) W (RE (wd X cl)) (eCmp f da db) σ H Q) :
    tOp (rC (wd X cl) f) (tX (wd X cl) W (RE (wd X cl)) da) (tX (wd X cl) W (RE (wd X cl)) db) σ H Q := by
  obtain ⟨ρ, S, g, sim, c⟩ := h
  exact Con.go sim c fun v H1 d1 S1 g1 e1 s1 f1 r1 c1 => Con.go s1 c1 fun u H2 d2 S2 g2 e2 s2 f2 r2 c2 => by
    obtain ⟨d, e, c3⟩ := c2.opt
    exact ⟨d1, d2, d, g2, S2, s2.st, Rep.mono f2.le r1, r2, e, Con.val c3 s2.st (rep_bl.mpr rfl)⟩
theorem ge_cmp {op : CmpOp} {f : D → D → Option Bool} (ho : OpR X (compareOp op) (rC (wd X cl) f)) (ha : GE cl X a da) (hb : GE cl X b db) (hm : behindInMarks op b = false) : GE cl X (.Compare a [op] [b] pos) (eCmp f da db) := fun W tk =>
  PE.weak (pe_cmpR ho (ha W tk) (hb W tk) hm) fun σ H Q h => rd_cmp h
/-- a value that is a bool, tested -/
theorem rd_bV {W : WX} {σ : St} {H : Hp} {Q : Bool → Hp → Prop} {den : EX} (h : tX (wd X cl) W RB (bV den) σ H Q) : tX (wd X cl) W (RE (wd X cl)) den σ H (fun x H' => ∃ k, x = .bl k ∧ Q k H') := by
  obtain ⟨ρ, S, g, sim, c⟩ := h
  refine Con.go sim c fun v H1 d1 S1 g1 e1 s1 f1 r1 c1 => ?_
  obtain ⟨k, e, c3⟩ := c1.opt
  cases d1 with
  | bl k' =>
    have e : k' = k := Option.some.inj e
    subst e
    exact ⟨k', rep_bl.mp r1, Con.val c3 s1.st rfl⟩
  | _ => cases e
theorem gt_cmp {op : CmpOp} {f : D → D → Option Bool} (ho : OpR X (compareOp op) (rC (wd X cl) f)) (ha : GE cl X a da) (hb : GE cl X b db) (hm : behindInMarks op b = false) : GT cl X (.Compare a [op] [b] pos) (bV (eCmp f da db)) := fun W tk =>
  PT.weak (pt_cmpR ho (ha W tk) (hb W tk) hm) fun σ H Q h => rd_cmp (rd_bV h)
theorem rd_chain {f f' : D → D → Option Bool} {W : WX} {σ : St} {H : Hp} {Q : VK} (h : tX (wd X cl) W (RE (wd X cl)) (eChain f f' da db dc) σ H Q) :
    tChain (rC (wd X cl) f) (rC (wd X cl) f') (tX (wd X cl) W (RE (wd X cl)) da) (tX (wd X cl) W (RE (wd X cl)) db) (tX (wd X cl) W (RE (wd X cl)) dc) σ H Q := by
  obtain ⟨ρ, S, g, sim, c⟩ := h
  refine Con.go sim c fun v H1 d1 S1 g1 e1 s1 f1 r1 c1 => Con.go s1 c1 fun u H2 d2 S2 g2 e2 s2 f2 r2 c2 => ?_
  obtain ⟨k, e, c3⟩ := c2.opt
  refine ⟨d1, d2, k, g2, S2, s2.st, Rep.mono f2.le r1, r2, e, k, rfl, ?_⟩
  cases k with
  | true =>
    rw [if_pos rfl] at c3 ⊢
    refine Con.go s2 c3 fun y H3 d3 S3 g3 e3 s3 f3 r3 c4 => ?_
    obtain ⟨d, e', c5⟩ := c4.opt
    exact ⟨d2, d3, d, g3, S3, s3.st, Rep.mono f3.le r2, r3, e', Con.val c5 s3.st (rep_bl.mpr rfl)⟩
  | false =>
    rw [if_neg Bool.false_ne_true] at c3 ⊢
    exact Con.val c3 s2.st (rep_bl.mpr rfl)
theorem ge_chain {op op' : CmpOp} {f f' : D → D → Option Bool} (ho : OpR X (compareOp op) (rC (wd X cl) f)) (ho' : OpR X (compareOp op') (rC (wd X cl) f')) (ha : GE cl X a da) (hb : GE cl X b db) (hc : GE cl X c dc) (hm : lastMarks [op, op'] [b, c] = false) :
    GE cl X (.Compare a [op, op'] [b, c] pos) (eChain f f' da db dc) := fun W tk => PE.weak (pe_chain ho ho' (ha W tk) (hb W tk) (hc W tk) hm) fun σ H Q h => rd_chain h
theorem gt_chain {op op' : CmpOp} {f f' : D → D → Option Bool} (ho : OpR X (compareOp op) (rC (wd X cl) f)) (ho' : OpR X (compareOp op') (rC (wd X cl) f')) (ha : GE cl X a da) (hb : GE cl X b db) (hc : GE cl X c dc) (hm : lastMarks [op, op'] [b, c] = false) :
    GT cl X (.Compare a [op, op'] [b, c] pos) (bV (eChain f f' da db dc)) := fun W tk => PT.weak (pt_chain ho ho' (ha W tk) (hb W tk) (hc W tk) hm) fun σ H Q h => rd_chain (rd_bV h)

/-! ### and, or, not, if -/
theorem ge_one {op : BoolOp} (ha : GE cl X a da) : GE cl X (.BoolOp op [a] pos) da := fun W tk => pe_one (ha W tk)
theorem ge_and (ha : GE cl X a da) (hb : GE cl X (.BoolOp .And (b :: es) pos) db) : GE cl X (.BoolOp .And (a :: b :: es) pos) (eAnd da db) := fun W tk =>
  PE.weak (pe_and (ha W tk) (hb W tk)) fun σ H Q ⟨ρ, S, g, sim, c⟩ =>
    Con.go sim c fun v H1 d1 S1 g1 e1 s1 f1 r1 c1 => by
      obtain ⟨k, e, c3⟩ := c1.opt
      cases d1 with
      | bl k' =>
        have e : k' = k := Option.some.inj e
        subst e
        refine ⟨k', rep_bl.mp r1, ?_⟩
        cases k' with
        | true => exact ⟨ρ, S1, g1, s1, c3⟩
        | false => exact Con.val c3 s1.st (rep_bl.mpr rfl)
      | _ => cases e
theorem ge_or (ha : GE cl X a da) (hb : GE cl X (.BoolOp .Or (b :: es) pos) db) : GE cl X (.BoolOp .Or (a :: b :: es) pos) (eOr da db) := fun W tk =>
  PE.weak (pe_or (ha W tk) (hb W tk)) fun σ H Q ⟨ρ, S, g, sim, c⟩ =>
    Con.go sim c fun v H1 d1 S1 g1 e1 s1 f1 r1 c1 => by
      obtain ⟨k, e, c3⟩ := c1.opt
      cases d1 with
      | bl k' =>
        have e : k' = k := Option.some.inj e
        subst e
        refine ⟨k', rep_bl.mp r1, ?_⟩
        cases k' with
        | false => exact ⟨ρ, S1, g1, s1, c3⟩
        | true => exact Con.val c3 s1.st (rep_bl.mpr rfl)
      | _ => cases e
theorem ge_not (ha : GE cl X a da) : GE cl X (.UnaryOp .Not a pos) (eNot da) := fun W tk =>
  PE.weak (pe_not (ha W tk)) fun σ H Q ⟨ρ, S, g, sim, c⟩ =>
    Con.go sim c fun v H1 d1 S1 g1 e1 s1 f1 r1 c1 => by
      obtain ⟨k, e, c3⟩ := c1.opt
      cases d1 with
      | bl k' =>
        have e : k' = k := Option.some.inj e
        subst e
        exact ⟨k', rep_bl.mp r1, Con.val c3 s1.st (rep_bl.mpr rfl)⟩
      | _ => cases e
theorem ge_if {ta : BX} (hc : GT cl X c ta) (ha : GE cl X a da) (hb : GE cl X b db) : GE cl X (.IfExp c a b pos) (eIf ta da db) := fun W tk =>
  PE.weak (pe_ifExp (hc W tk) (ha W tk) (hb W tk)) fun σ H Q ⟨ρ, S, g, sim, c⟩ =>
    Con.go sim c fun k H1 k' S1 g1 e1 s1 f1 r1 c1 => by
      have r1 : k' = k := r1
      subst r1
      cases k' with
      | true => exact ⟨ρ, S1, g1, s1, c1⟩
      | false => exact ⟨ρ, S1, g1, s1, c1⟩
/-! tests -/
variable {ta tb : BX}
theorem gw_and1 (ha : GT cl X a ta) : GW cl X (.BoolOp .And [a] pos) ta := fun W tk => pw_and1 (ha W tk)
theorem gw_or1 (ha : GT cl X a ta) : GW cl X (.BoolOp .Or [a] pos) ta := fun W tk => pw_or1 (ha W tk)
theorem gw_and (ha : GT cl X a ta) (hb : GW cl X (.BoolOp .And (b :: es) pos) tb) : GW cl X (.BoolOp .And (a :: b :: es) pos) (bAnd ta tb) := fun W tk =>
  PW.weak (pw_and (ha W tk) (hb W tk)) fun σ H Q ⟨ρ, S, g, sim, c⟩ =>
    Con.go sim c fun k H1 k' S1 g1 e1 s1 f1 r1 c1 => by
      have r1 : k' = k := r1
      subst r1
      cases k' with
      | true => exact ⟨ρ, S1, g1, s1, c1⟩
      | false => exact Con.val c1 s1.st rfl
theorem gw_or (ha : GT cl X a ta) (hb : GW cl X (.BoolOp .Or (b :: es) pos) tb) : GW cl X (.BoolOp .Or (a :: b :: es) pos) (bOr ta tb) := fun W tk =>
  PW.weak (pw_or (ha W tk) (hb W tk)) fun σ H Q ⟨ρ, S, g, sim, c⟩ =>
    Con.go sim c fun k H1 k' S1 g1 e1 s1 f1 r1 c1 => by
      have r1 : k' = k := r1
      subst r1
      cases k' with
      | false => exact ⟨ρ, S1, g1, s1, c1⟩
      | true => exact Con.val c1 s1.st rfl
theorem gw_pt (h : GW cl X e ta) : GT cl X e ta := fun W tk => (h W tk).pt
theorem gt_not (ha : GT cl X a ta) : GT cl X (.UnaryOp .Not a pos) (bNot ta) := fun W tk =>
  PT.weak (pt_not (ha W tk)) fun σ H Q ⟨ρ, S, g, sim, c⟩ =>
    Con.go sim c fun k H1 k' S1 g1 e1 s1 f1 r1 c1 => by
      have r1 : k' = k := r1
      subst r1
      exact Con.val c1 s1.st rfl
/-- a value's truth -/
def truD : D → Option Bool
  | .non => some false
  | .bl b => some b
  | .int i => some (i != 0)
  | .str x => if x.length ≤ sizeLine then some ((x.length : Int) != 0) else none
  | .lst xs => some (!xs.isEmpty)
  | .tup xs => some (!xs.isEmpty)
  | _ => none
def bT (e : EX) : BX := fun ρ S => (e ρ S).bind fun p => (Out.opt (truD p.1)).bind fun c => .ok (c, p.2)
theorem tru_of {g : Gh} {H : Hp} {S : Store} {d : D} {v : V} {k : Bool} (s : SimS (wd X cl) g H S) (r : Rep (wd X cl) g d v) (e : truD d = some k) : TruV X.K v H k := by
  cases d with
  | non => cases e; rw [rep_non] at r; subst r; rfl
  | bl b => cases e; rw [rep_bl] at r; subst r; rfl
  | int i => cases e; rw [rep_int] at r; subst r; rfl
  | str x =>
    rw [rep_str] at r; subst r
    unfold truD at e
    dsimp only at e
    split at e
    · rename_i hz; cases e; exact ⟨hz, rfl⟩
    · cases e
  | lst xs =>
    cases e
    rw [rep_lst'] at r
    obtain ⟨a, vs, rfl, q, l⟩ := r
    refine .inl ⟨vs, sqL_sub s.sub (SqL.of q), ?_⟩
    cases xs with
    | nil => rw [l.cases0]; rfl
    | cons x xs => obtain ⟨_, _, rfl, _⟩ := l.cases; rfl
  | tup xs =>
    cases e
    rw [rep_tup'] at r
    obtain ⟨a, vs, rfl, q, l⟩ := r
    refine .inr (.inl ⟨vs, sqT_sub s.sub (SqT.of q), ?_⟩)
    cases xs with
    | nil => rw [l.cases0]; rfl
    | cons x xs => obtain ⟨_, _, rfl, _⟩ := l.cases; rfl
  | _ => cases e
theorem gt_val (ha : GE cl X a da) (he : ∀ whole, isTrue a X.env whole = (do let v ← whole; standAt a.pos; holding [v] (truthy v))) : GT cl X a (bT da) := fun W tk =>
  PT.weak (pt_truth (ha W tk) he) fun σ H Q ⟨ρ, S, g, sim, c⟩ =>
    Con.go sim c fun v H1 d1 S1 g1 e1 s1 f1 r1 c1 => by
      obtain ⟨k, e, c3⟩ := c1.opt
      exact ⟨k, tru_of s1.st r1 e, Con.val c3 s1.st rfl⟩

/-! ### argument lists, displays -/
theorem ga_nil : GA cl X [] aN := fun W tk => PA.weak pa_nil fun σ H Q ⟨ρ, S, g, sim, c⟩ => Con.val c sim.st .nil
theorem ga_cons {r : AX} (ha : GE cl X e da) (hr : GA cl X es r) (hs : starEach (e :: es) X.env = (false, eval e X.env) :: starEach es X.env) : GA cl X (e :: es) (aC da r) := fun W tk =>
  PA.weak (pa_cons (ha W tk) (hr W tk) hs) fun σ H Q ⟨ρ, S, g, sim, c⟩ =>
    Con.go sim c fun v H1 d1 S1 g1 e1 s1 f1 r1 c1 => Con.go s1 c1 fun vs H2 d2 S2 g2 e2 s2 f2 r2 c2 =>
      Con.val c2 s2.st (.cons (Rep.mono f2.le r1) r2)
theorem ge_tup {x1 : Nat} {t : AX} (h : GA cl X es t) : GE cl X (.Tuple es x1 pos) (eTup t) := fun W tk =>
  PE.weak (pe_tup (h W tk)) fun σ H Q ⟨ρ, S, g, sim, c⟩ =>
    Con.go sim c fun vs H1 ds S1 g1 e1 s1 f1 r1 c1 => by
      have r1 : RepL (wd X cl) g1 ds vs := r1
      dsimp only at c1
      split at c1
      · rename_i hz
        refine ⟨by rw [← r1.length]; exact of_decide_eq_true hz, fun p hp => ?_⟩
        obtain ⟨t, f⟩ := s1.st.put (u := .tup vs) hp
        exact c1 _ _ _ t f (rep_tup f.le r1)
      · exact c1.elim
theorem ge_lst {t : AX} (h : GA cl X es t) : GE cl X (.List es pos) (eLst t) := fun W tk =>
  PE.weak (pe_lst (h W tk)) fun σ H Q ⟨ρ, S, g, sim, c⟩ =>
    Con.go sim c fun vs H1 ds S1 g1 e1 s1 f1 r1 c1 => by
      have r1 : RepL (wd X cl) g1 ds vs := r1
      dsimp only at c1
      split at c1
      · rename_i hz
        refine ⟨by rw [← r1.length]; exact of_decide_eq_true hz, fun p hp => ?_⟩
        obtain ⟨t, f⟩ := s1.st.put (u := .lst vs) hp
        exact c1 _ _ _ t f (rep_lst f.le r1)
      · exact c1.elim
end
end GG
end

section
/-! G.E: contents: subscripts, lengths, built-in functions of one value. -/
set_option linter.all false
set_option maxRecDepth 100000
namespace GG
open PySem L2
open PyProof.Rows hiding St

/-- what a value shows at this moment -/
def Shown (w : Wd) (g : Gh) (H : Hp) : D → V → Prop
  | .lst ds, v => ∃ a vs, v = .ref a ∧ H a = some (.lst vs) ∧ RepL w g ds vs
  | .dic ks ds, v => ∃ a vs u, v = .ref a ∧ Rd H a u ∧ DicO ks vs u ∧ RepL w g ds vs
  | .obj c fs ds, v => w.kc c ∧ ∃ a C dx vs, v = .ref a ∧ w.mg c = some (.ref C) ∧ H a = some (.ins C dx (fs.zip vs)) ∧ fs.length = vs.length ∧ RepL w g ds vs
  | d, v => Rep w g d v
def RH (w : Wd) (σ : St) : Gh → Hp → HD → V → Prop := fun g _ hd v => match hd with
  | .d x => Rep w g x v
  | .own i => σ[i]? = some (some v)
theorem Shown.mono {w : Wd} {g g' : Gh} {H : Hp} (l : Le g g') {d : D} {v : V} (h : Shown w g H d v) : Shown w g' H d v := by
  cases d <;> first
    | exact Rep.mono l h
    | (obtain ⟨a, vs, e, q, t⟩ := h; exact ⟨a, vs, e, q, t.mono l⟩)
    | (obtain ⟨kc, a, C, dx, vs, e, q, k, z, t⟩ := h; exact ⟨kc, a, C, dx, vs, e, q, k, z, t.mono l⟩)
    | (obtain ⟨a, vs, u, e, q, k, t⟩ := h; exact ⟨a, vs, u, e, q, k, t.mono l⟩)
theorem shown_rep {w : Wd} {g : Gh} {H : Hp} {S : Store} (s : SimS w g H S) {d : D} {v : V} (h : Rep w g d v) : Shown w g H d v := by
  cases d <;> first
    | exact h
    | (rw [rep_lst'] at h; obtain ⟨a, vs, e, q, t⟩ := h; exact ⟨a, vs, e, sub_lst s.sub (fun z => z) q, t⟩)
    | (rw [rep_obj'] at h; obtain ⟨kc, a, C, dx, vs, e, q, k, z, t⟩ := h; exact ⟨kc, a, C, dx, vs, e, q, sub_lst s.sub (fun z => z) k, z, t⟩)
    | (rw [rep_dic'] at h; obtain ⟨a, vs, u, e, q, k, t⟩ := h
       exact ⟨a, vs, u, e, (by rcases s.sub a u q with q | ⟨_, o, q⟩; exact .inl q; exact .inr ⟨o, q⟩), k, t⟩)
theorem shown_mok {w : Wd} {g : Gh} {H : Hp} {a : Addr} : ∀ {o : MO}, MOk w g H a o → Shown w g H o.now (.ref a)
  | .lst xs, ⟨vs, h, r⟩ => ⟨a, vs, rfl, h, r⟩
  | .dic ks vs, ⟨us, u, h, k, r⟩ => ⟨a, us, u, rfl, .inl h, k, r⟩
  | .ins c fs vs, ⟨kc, C, dx, us, k, h, z, r⟩ => ⟨kc, a, C, dx, us, rfl, k, h, z, r⟩
theorem shown_of {w : Wd} {g : Gh} {H : Hp} {ρ : LEnv} {σ : St} {S : Store} (s : Sim w g H ρ σ S) {hd : HD} {d : D} {v : V} (r : RH w σ g H hd v) (e : deref ρ S hd = some d) : Shown w g H d v := by
  unfold deref at e
  split at e
  · rename_i n
    have r : Rep w g (.ptr n) v := r
    rw [rep_ptr] at r
    obtain ⟨a, hm, rfl⟩ := r
    rw [Option.map_eq_some_iff] at e
    obtain ⟨o, h, rfl⟩ := e
    exact shown_mok (s.st.at_ n _ a h hm).2
  · cases e
    exact shown_rep s.st r
  · rename_i i
    have r : σ[i]? = some (some v) := r
    split at e
    · rename_i o h
      cases e
      obtain ⟨a, h1, _, _, mo⟩ := s.own i _ h
      rw [r] at h1; cases h1
      exact shown_mok mo
    · cases e

variable (cl : Wp)
def GHd (X : Cx) (e : Expr) (den : HX) : Prop := ∀ W, Takes X W → PE X e (fun σ H Q => tX (wd X cl) W (RH (wd X cl) σ) den σ H Q)
variable {cl} {X : Cx} {a b c e : Expr} {es : List Expr} {da db dc : EX} {ha hb : HX} {pos : Pos}
theorem gh_of (h : GE cl X e da) : GHd cl X e (hE da) := fun W tk => PE.weak (h W tk) fun σ H Q ⟨ρ, S, g, sim, c⟩ =>
  Con.go sim c fun v H1 d1 S1 g1 e1 s1 f1 r1 c1 => Con.val c1 s1.st r1
theorem gh_var {i : Nat} {x : Str} (hN : X.N[i]? = some x) (hv : Vis X.env.scope x) (hd : (x == ("__debug__" : Str)) = false) (hcd : (x == ("__classdict__" : Str)) = false) : GHd cl X (.Name x pos) (hV i) := fun W tk =>
  PE.weak (pe_var hN hv hd hcd) fun σ H Q ⟨ρ, S, g, sim, c⟩ => by
    unfold hV at c
    split at c
    · rename_i d e
      obtain ⟨v, h1, h2⟩ := sim.val i d e
      exact ⟨v, h1, Con.val (a := HD.d d) c sim.st h2⟩
    · rename_i o e
      obtain ⟨a, h1, _⟩ := sim.own i o e
      exact ⟨_, h1, Con.val (a := HD.own i) c sim.st h1⟩
    · exact c.elim

/-! ### subscripts -/
def keyK : D → Option L2.Key
  | .int i => some (.inl i)
  | .str x => some (.inr x)
  | _ => none
def keysL : List D → Option (List L2.Key)
  | [] => some []
  | d :: ds => (keyK d).bind fun k => (keysL ds).map fun r => k :: r
def keyD : D → Option KK
  | .int i => some (.k (.inl i))
  | .str x => some (.k (.inr x))
  | .tup ds => (keysL ds).map .t
  | _ => none
def lookD (ks : List KK) (vs : List D) (k : KK) : Option D := ((ks.zip vs).find? fun p => decide (p.1 = k)).map (·.2)
def sameKind : KK → KK → Bool
  | .k _, .k _ => true
  | .t _, .t _ => true
  | _, _ => false
def idxD : D → D → Option D
  | .lst xs, .int i => atI xs i
  | .tup xs, .int i => atI xs i
  | .frl xs, .int i => atI xs i
  | .ktp xs, .int i => atI xs i
  | .str z, .int i => if z.length ≤ sizeLine then (atI z.cps.toList i).map fun c => .str ⟨#[c]⟩ else none
  | .dic ks vs, y => (keyD y).bind fun k => if ks.all (sameKind k) then lookD ks vs k else none
  | _, _ => none

theorem repL_atI {w : Wd} {g : Gh} {ds : List D} {vs : List V} {i : Int} {d : D} (r : RepL w g ds vs) (e : atI ds i = some d) : ∃ v, atI vs i = some v ∧ Rep w g d v := by
  unfold atI at e ⊢
  rw [Option.bind_eq_some_iff] at e
  obtain ⟨j, e1, e2⟩ := e
  obtain ⟨v, h1, h2⟩ := r.get e2
  exact ⟨v, by rw [← r.length, e1]; exact h1, h2⟩
theorem keyK_rep {w : Wd} {g : Gh} {d : D} {k : L2.Key} {v : V} (e : keyK d = some k) (r : Rep w g d v) : v = kV k := by
  cases d <;> simp only [keyK] at e <;> first | (cases e; done) | skip
  · cases e; rw [rep_int] at r; exact r
  · cases e; rw [rep_str] at r; exact r
theorem keysL_rep {w : Wd} {g : Gh} : ∀ {ds : List D} {ks : List L2.Key} {vs : List V}, keysL ds = some ks → RepL w g ds vs → vs = ks.map kV
  | [], _, _, e, r => by simp only [keysL] at e; cases e; rw [r.cases0]; rfl
  | d :: ds, _, _, e, r => by
    simp only [keysL, Option.bind_eq_some_iff, Option.map_eq_some_iff] at e
    obtain ⟨k, e1, r', e2, rfl⟩ := e
    obtain ⟨v, l, rfl, q1, q2⟩ := r.cases
    rw [keyK_rep e1 q1, keysL_rep e2 q2]; rfl
theorem find_zip {α β γ : Type} [DecidableEq γ] {f : α → γ} : ∀ {ks : List γ} {l : List α} {ds : List D} {vs : List V} {w : Wd} {g : Gh} {k : α}, ks = l.map f → (∀ x y, f x = f y → x = y) → [DecidableEq α] → RepL w g ds vs → ks.length = vs.length →
    (match ((ks.zip ds).find? fun p => decide (p.1 = f k)) with
      | some p => ∃ v, (valV (l.zip vs) k) = some v ∧ Rep w g p.2 v
      | none => valV (l.zip vs) k = none)
  | _, [], _, _, _, _, _, rfl, _, _, _, _ => by simp [valV]
  | _, x :: l, [], vs, w, g, k, rfl, _, _, r, hl => by
    rw [r.cases0] at hl; simp at hl
  | _, x :: l, d :: ds, vs, w, g, k, rfl, inj, _, r, hl => by
    obtain ⟨v, vr, rfl, q1, q2⟩ := r.cases
    have ih := find_zip (β := β) (ks := l.map f) (l := l) (ds := ds) (vs := vr) (k := k) rfl inj q2 (by simpa using hl)
    by_cases hx : x = k
    · subst hx
      simp only [List.map_cons, List.zip_cons_cons, List.find?_cons, decide_true]
      exact ⟨v, by rw [valV_pos rfl], q1⟩
    · have hf : ¬ f x = f k := fun z => hx (inj _ _ z)
      simp only [List.map_cons, List.zip_cons_cons, List.find?_cons, decide_eq_false hf]
      rw [valV_neg hx]
      exact ih
theorem KKk_inj (x y : L2.Key) (h : KK.k x = KK.k y) : x = y := by cases h; rfl
theorem KKt_inj (x y : List L2.Key) (h : KK.t x = KK.t y) : x = y := by cases h; rfl

/-- an empty dict, for either kind of keys -/
def DEmp (H : Hp) (a : Addr) (y : V) : Prop := (Rd H a (.dK []) ∧ ∃ (q : List L2.Key) (b : Addr), y = .ref b ∧ H b = some (.tup (q.map kV))) ∨ (Rd H a (.dT []) ∧ ∃ k, y = kV k)
def DGet2 (H : Hp) (a : Addr) (y : V) (r : Option V) : Prop := DGet H a y r ∨ (DEmp H a y ∧ r = none)
theorem dget_of {w : Wd} {g : Gh} {H : Hp} {S : Store} (s : SimS w g H S) {ks : List KK} {ds : List D} {vs : List V} {u : HO} {a : Addr} {y : D} {k : KK} {v : V} (hu : Rd H a u) (hd : DicO ks vs u) (r : RepL w g ds vs) (ey : keyD y = some k) (ry : Rep w g y v)
    (hk : ks.all (sameKind k) = true) : match lookD ks ds k with
      | some d => ∃ x, DGet H a v (some x) ∧ Rep w g d x
      | none => DGet2 H a v none := by
  obtain ⟨hl, hd⟩ := hd
  have kinds : (∃ q, k = .k q ∧ v = kV q) ∨ ∃ q b, k = .t q ∧ v = .ref b ∧ H b = some (.tup (q.map kV)) := by
    cases y <;> simp only [keyD] at ey <;> first | (cases ey; done) | skip
    · cases ey; rw [rep_int] at ry; exact .inl ⟨_, rfl, ry⟩
    · cases ey; rw [rep_str] at ry; exact .inl ⟨_, rfl, ry⟩
    · rw [Option.map_eq_some_iff] at ey
      obtain ⟨q, e1, rfl⟩ := ey
      rw [rep_tup'] at ry
      obtain ⟨b, vs', rfl, hb, l⟩ := ry
      rw [keysL_rep e1 l] at hb
      exact .inr ⟨q, b, rfl, rfl, sub_lst s.sub (fun z => z) hb⟩
  rcases hd with ⟨l, rfl, rfl⟩ | ⟨l, rfl, rfl⟩
  · rcases kinds with ⟨q, rfl, rfl⟩ | ⟨q, b, rfl, rfl, hb⟩
    · have f := find_zip (β := Unit) (k := q) rfl KKk_inj r hl
      unfold lookD
      cases e : ((l.map KK.k).zip ds).find? (fun p => decide (p.1 = KK.k q)) with
      | some p =>
        rw [e] at f
        obtain ⟨x, h1, h2⟩ := f
        exact ⟨x, .inl ⟨_, q, hu, rfl, h1.symm⟩, h2⟩
      | none =>
        rw [e] at f
        exact .inl (.inl ⟨_, q, hu, rfl, f.symm⟩)
    · cases l with
      | nil => exact .inr ⟨.inl ⟨hu, q, b, rfl, hb⟩, rfl⟩
      | cons x l => simp [sameKind] at hk
  · rcases kinds with ⟨q, rfl, rfl⟩ | ⟨q, b, rfl, rfl, hb⟩
    · cases l with
      | nil => exact .inr ⟨.inr ⟨hu, q, rfl⟩, rfl⟩
      | cons x l => simp [sameKind] at hk
    · have f := find_zip (β := Unit) (k := q) rfl KKt_inj r hl
      unfold lookD
      cases e : ((l.map KK.t).zip ds).find? (fun p => decide (p.1 = KK.t q)) with
      | some p =>
        rw [e] at f
        obtain ⟨x, h1, h2⟩ := f
        exact ⟨x, .inr ⟨_, q, b, hu, rfl, hb, h1.symm⟩, h2⟩
      | none =>
        rw [e] at f
        exact .inl (.inr ⟨_, q, b, hu, rfl, hb, f.symm⟩)

def rIxD (w : Wd) (f : D → D → Option D) : R2 := fun x y H Q => ∃ dc di d g S, SimS w g H S ∧ Shown w g H dc x ∧ Rep w g di y ∧ f dc di = some d ∧ ∀ v, Rep w g d v → Q v H
theorem ok_ix (hu : X.A.units + 1 < cLine) : IxR X (rIxD (wd X cl) idxD) := by
  intro value slice pins s σ H x y v u Q I rx ry ⟨dc, di, d, g, S, sim, sh, r, e, q⟩ hs
  unfold idxD at e
  split at e
  · rw [rep_int] at r; subst r
    obtain ⟨a, vs, rfl, h, l⟩ := sh
    obtain ⟨z, h1, h2⟩ := repL_atI l e
    exact ix_list value slice pins s σ H _ _ v u Q I rx ry ⟨a, vs, _, z, rfl, rfl, SqL.of h, h1, q _ h2⟩ hs
  · rw [rep_int] at r; subst r
    have sh := (rep_tup' (w := wd X cl) (g := g)).mp sh
    obtain ⟨a, vs, rfl, h, l⟩ := sh
    obtain ⟨z, h1, h2⟩ := repL_atI l e
    exact ix_tup value slice pins s σ H _ _ v u Q I rx ry ⟨a, vs, _, z, rfl, rfl, SqT.of (sub_lst sim.sub (fun z => z) h), h1, q _ h2⟩ hs
  · rw [rep_int] at r; subst r
    have sh := (rep_frl' (w := wd X cl) (g := g)).mp sh
    obtain ⟨a, vs, rfl, h, l⟩ := sh
    obtain ⟨z, h1, h2⟩ := repL_atI l e
    exact ix_list value slice pins s σ H _ _ v u Q I rx ry ⟨a, vs, _, z, rfl, rfl, sqL_sub sim.sub h, h1, q _ h2⟩ hs
  · rw [rep_int] at r; subst r
    have sh := (rep_ktp' (w := wd X cl) (g := g)).mp sh
    obtain ⟨a, vs, rfl, h, l⟩ := sh
    obtain ⟨z, h1, h2⟩ := repL_atI l e
    exact ix_tup value slice pins s σ H _ _ v u Q I rx ry ⟨a, vs, _, z, rfl, rfl, sqT_sub sim.sub h, h1, q _ h2⟩ hs
  · rw [rep_int] at r; subst r
    have sh := (rep_str (w := wd X cl) (g := g)).mp sh
    subst sh
    split at e
    · rename_i hz
      rw [Option.map_eq_some_iff] at e
      obtain ⟨c, e, rfl⟩ := e
      exact ix_str value slice pins s σ H _ _ v u Q I rx ry ⟨_, _, c, rfl, rfl, hz, e, q _ (rep_str.mpr rfl)⟩ hs
    · cases e
  · rw [Option.bind_eq_some_iff] at e
    obtain ⟨k, e1, e⟩ := e
    split at e
    · rename_i hk
      obtain ⟨a, vs, o, rfl, h1, h2, l⟩ := sh
      have z := dget_of sim h1 h2 l e1 r hk
      rw [e] at z
      obtain ⟨x, hx, rx'⟩ := z
      obtain rfl : v = Value.ref a := rx
      exact tail_any (dict_typeIs I hx) PySem.F.slot_dict_getitem.lookup (d_getItem hu I hx ry fun w' s' I' rw' => ⟨x, H, I', rw', q _ rx'⟩) hs
    · cases e
  · cases e
theorem ge_sub (hu : X.A.units + 1 < cLine) (h1 : GHd cl X a ha) (h2 : GE cl X b db) (hs : PlainIx b) : GE cl X (.Subscript a b pos) (eHB ha db idxD) := fun W tk =>
  PE.weak (pe_ix (ok_ix (cl := cl) hu) (h1 W tk) (h2 W tk) hs) fun σ H Q ⟨ρ, S, g, sim, c⟩ =>
    Con.go sim c fun v H1 hd S1 g1 e1 s1 f1 r1 c1 => Con.go s1 c1 fun u H2 d2 S2 g2 e2 s2 f2 r2 c2 => by
      obtain ⟨d, e, c3⟩ := c2.opt
      rw [Option.bind_eq_some_iff] at e
      obtain ⟨dc, e3, e4⟩ := e
      have r1' : RH (wd X cl) σ g2 H2 hd v := by
        cases hd with
        | d x => exact Rep.mono f2.le r1
        | own i => exact r1
      exact ⟨dc, d2, d, g2, S2, s2.st, shown_of s2 r1' e3, r2, e4, fun z hz => Con.val c3 s2.st hz⟩

/-! ### built-in functions of one content -/
def rS1 (w : Wd) (f : D → Option D) : List V → Hp → VK → Prop := fun xs H Q => ∃ x dc d g S, xs = [x] ∧ SimS w g H S ∧ Shown w g H dc x ∧ f dc = some d ∧ ∀ v g' H', SimS w g' H' S → Fr g H g' H' → Rep w g' d v → Q v H'
theorem rd_b1 {W : WX} {σ : St} {H : Hp} {Q : VK} {f : D → Option D} (h : tX (wd X cl) W (RE (wd X cl)) (eH ha f) σ H Q) :
    tCB (rS1 (wd X cl) f) (tCons (fun σ H Q => tX (wd X cl) W (RH (wd X cl) σ) ha σ H Q) tNil) σ H Q := by
  obtain ⟨ρ, S, g, sim, c⟩ := h
  refine Con.go sim c fun v H1 hd S1 g1 e1 s1 f1 r1 c1 => ?_
  obtain ⟨d, e, c3⟩ := c1.opt
  rw [Option.bind_eq_some_iff] at e
  obtain ⟨dc, e3, e4⟩ := e
  exact ⟨v, dc, d, g1, S1, rfl, s1.st, shown_of s1 r1 e3, e4, fun z g' H' s f r => c3 z g' H' s f r⟩
theorem ge_b1 {x : Str} {p : Pos} {id : String} {f : D → Option D} (hc : CallR X (.builtin id) (rS1 (wd X cl) f)) (hg : Gl X x) (hm : X.mg x = none) (hv : bootBuiltins x = some (.builtin id)) (h : GHd cl X a ha) (hn : x ≠ "__name__") (hdb : (x == ("__debug__" : Str)) = false)
    (hs : starEach [a] X.env = [(false, eval a X.env)]) : GE cl X (.Call (.Name x p) [a] [] pos) (eH ha f) := fun W tk =>
  PE.weak (pe_callB hc hg hm hv (pa_cons (h W tk) pa_nil hs) hn hdb hs rfl) fun σ H Q h => rd_b1 h
theorem ge_t1 {x : Str} {p : Pos} {id : String} {f : D → Option D} (hc : CallR X (.type id) (rS1 (wd X cl) f)) (hg : Gl X x) (hm : X.mg x = none) (hv : bootBuiltins x = some (.type id)) (h : GHd cl X a ha) (hn : x ≠ "__name__") (hdb : (x == ("__debug__" : Str)) = false)
    (hs : starEach [a] X.env = [(false, eval a X.env)]) : GE cl X (.Call (.Name x p) [a] [] pos) (eH ha f) := fun W tk =>
  PE.weak (pe_callTy hc hg hm hv (pa_cons (h W tk) pa_nil hs) hn hdb hs rfl) fun σ H Q h => rd_b1 h

def lenD : D → Option D
  | .lst xs => some (.int xs.length)
  | .frl xs => some (.int xs.length)
  | .tup xs => some (.int xs.length)
  | .ktp xs => some (.int xs.length)
  | .str z => if z.length ≤ sizeLine then some (.int z.length) else none
  | .dic ks vs => some (.int ks.length)
  | _ => none
theorem ok_len : CallR X (.builtin "len") (rS1 (wd X cl) lenD) := by
  intro pins s σ H xs us Q I r h
  obtain ⟨x, dc, d, g, S, rfl, sim, sh, e, q⟩ := h
  have fin : ∀ n : Int, d = .int n → Q (.int n) H := fun n e => by subst e; exact q _ g H sim .refl (rep_int.mpr rfl)
  unfold lenD at e
  split at e
  · obtain ⟨a, vs, rfl, h, l⟩ := sh
    cases e
    exact call_len_seq pins s σ H _ us Q I r ⟨a, vs, rfl, .inl (SqL.of h), by rw [← l.length]; exact fin _ rfl⟩
  · obtain ⟨a, vs, rfl, h, l⟩ := (rep_frl' (w := wd X cl) (g := g)).mp sh
    cases e
    exact call_len_seq pins s σ H _ us Q I r ⟨a, vs, rfl, .inl (sqL_sub sim.sub h), by rw [← l.length]; exact fin _ rfl⟩
  · obtain ⟨a, vs, rfl, h, l⟩ := (rep_tup' (w := wd X cl) (g := g)).mp sh
    cases e
    exact call_len_seq pins s σ H _ us Q I r ⟨a, vs, rfl, .inr (sqT_sub sim.sub (SqT.of h)), by rw [← l.length]; exact fin _ rfl⟩
  · obtain ⟨a, vs, rfl, h, l⟩ := (rep_ktp' (w := wd X cl) (g := g)).mp sh
    cases e
    exact call_len_seq pins s σ H _ us Q I r ⟨a, vs, rfl, .inr (sqT_sub sim.sub h), by rw [← l.length]; exact fin _ rfl⟩
  · have sh := (rep_str (w := wd X cl) (g := g)).mp sh
    subst sh
    split at e
    · rename_i hz
      cases e
      exact call_len_str pins s σ H _ us Q I r ⟨_, rfl, hz, fin _ rfl⟩
    · cases e
  · cases e
    obtain ⟨a, vs, u, rfl, h1, ⟨hl, hd⟩, l⟩ := sh
    obtain ⟨u', rfl, ru⟩ := vals1 r
    obtain rfl : u' = Value.ref a := ru
    rcases hd with ⟨ks, rfl, rfl⟩ | ⟨ks, rfl, rfl⟩
    · refine d_len I h1 fun t s' I' => ⟨.int (ks.zip vs).length, H, I', ⟨_, rfl⟩, ?_⟩
      have e1 : (ks.zip vs).length = (ks.map KK.k).length := by
        simp only [List.length_map] at hl ⊢
        rw [List.length_zip]; omega
      rw [e1]
      exact fin _ rfl
    · obtain ⟨z, hd, xs, rel, dd⟩ := dt_rd I.hok h1
      have hlen : (ks.zip vs).length = xs.length := Paired.length rel
      have hs : sizeLine = 16777216 := sizeLine_eq
      refine call_len_dictH hd dd (by omega) ?_
      have e1 : xs.length = (ks.map KK.t).length := by
        rw [← hlen]
        simp only [List.length_map] at hl ⊢
        rw [List.length_zip, hl, Nat.min_self]
      rw [e1]
      exact ⟨.int (ks.map KK.t).length, H, I.tok _, ⟨_, rfl⟩, fin _ rfl⟩
  · cases e
end GG
end

section
/-! G.F: more built-in functions; in, not in; slices; isinstance. -/
set_option linter.all false
set_option maxRecDepth 100000
namespace GG
open PySem L2
open PyProof.Rows hiding St

def intsOf : List D → Option (List Int)
  | [] => some []
  | .int i :: r => (intsOf r).map fun l => i :: l
  | _ => none
def boolsOf : List D → Option (List Bool)
  | [] => some []
  | .bl i :: r => (boolsOf r).map fun l => i :: l
  | _ => none
def strsOf : List D → Option (List Str)
  | [] => some []
  | .str i :: r => (strsOf r).map fun l => i :: l
  | _ => none
section
variable {w : Wd} {g : Gh}
theorem intsOf_rep : ∀ {ds : List D} {ns : List Int} {vs : List V}, intsOf ds = some ns → RepL w g ds vs → vs = ns.map V.int
  | [], _, _, e, r => by simp only [intsOf] at e; cases e; rw [r.cases0]; rfl
  | d :: ds, _, _, e, r => by
    obtain ⟨v, l, rfl, q1, q2⟩ := r.cases
    cases d <;> simp only [intsOf] at e <;> first | (cases e; done) | skip
    rw [Option.map_eq_some_iff] at e
    obtain ⟨ns, e, rfl⟩ := e
    rw [rep_int] at q1
    rw [q1, intsOf_rep e q2]; rfl
theorem boolsOf_rep : ∀ {ds : List D} {ns : List Bool} {vs : List V}, boolsOf ds = some ns → RepL w g ds vs → vs = ns.map V.bl
  | [], _, _, e, r => by simp only [boolsOf] at e; cases e; rw [r.cases0]; rfl
  | d :: ds, _, _, e, r => by
    obtain ⟨v, l, rfl, q1, q2⟩ := r.cases
    cases d <;> simp only [boolsOf] at e <;> first | (cases e; done) | skip
    rw [Option.map_eq_some_iff] at e
    obtain ⟨ns, e, rfl⟩ := e
    rw [rep_bl] at q1
    rw [q1, boolsOf_rep e q2]; rfl
theorem strsOf_rep : ∀ {ds : List D} {ns : List Str} {vs : List V}, strsOf ds = some ns → RepL w g ds vs → vs = ns.map V.str
  | [], _, _, e, r => by simp only [strsOf] at e; cases e; rw [r.cases0]; rfl
  | d :: ds, _, _, e, r => by
    obtain ⟨v, l, rfl, q1, q2⟩ := r.cases
    cases d <;> simp only [strsOf] at e <;> first | (cases e; done) | skip
    rw [Option.map_eq_some_iff] at e
    obtain ⟨ns, e, rfl⟩ := e
    rw [rep_str] at q1
    rw [q1, strsOf_rep e q2]; rfl
end

/-! ### sum, all, any, max, min, tuple, list, int, abs -/
def sumD : D → Option D
  | .lst xs => (intsOf xs).map fun ns => .int ns.sum
  | _ => none
def allD : D → Option D
  | .lst xs => (boolsOf xs).map fun ns => .bl (ns.all id)
  | _ => none
def anyD : D → Option D
  | .lst xs => (boolsOf xs).map fun ns => .bl (ns.any id)
  | _ => none
def maxL : List Int → Option Int
  | [] => none
  | n :: ns => some (ns.foldl max n)
def minL : List Int → Option Int
  | [] => none
  | n :: ns => some (ns.foldl min n)
def maxLD : D → Option D
  | .lst xs => ((intsOf xs).bind maxL).map .int
  | _ => none
def minLD : D → Option D
  | .lst xs => ((intsOf xs).bind minL).map .int
  | _ => none
def tupleD : D → Option D
  | .lst xs => some (.tup xs)
  | .tup xs => some (.tup xs)
  | _ => none
def listD : D → Option D
  | .lst xs => some (.lst xs)
  | .frl xs => some (.lst xs)
  | .tup xs => some (.lst xs)
  | .ktp xs => some (.lst xs)
  | _ => none
def intD : D → Option D
  | .int i => some (.int i)
  | .bl b => some (.int (if b then 1 else 0))
  | _ => none
def absD : D → Option D
  | .int i => some (.int (if i < 0 then -i else i))
  | _ => none
theorem maxL_le : ∀ (ns : List Int) (n : Int), n ≤ ns.foldl max n ∧ ∀ y ∈ ns, y ≤ ns.foldl max n
  | [], n => ⟨Int.le_refl _, fun y h => by cases h⟩
  | m :: ns, n => by
    obtain ⟨h1, h2⟩ := maxL_le ns (max n m)
    refine ⟨by show n ≤ ns.foldl max (max n m); omega, fun y hy => ?_⟩
    show y ≤ ns.foldl max (max n m)
    rcases List.mem_cons.mp hy with rfl | hy
    · omega
    · exact h2 y hy
theorem maxL_mem : ∀ (ns : List Int) (n : Int), ns.foldl max n = n ∨ ns.foldl max n ∈ ns
  | [], n => .inl rfl
  | m :: ns, n => by
    show ns.foldl max (max n m) = n ∨ ns.foldl max (max n m) ∈ m :: ns
    rcases maxL_mem ns (max n m) with h | h
    · rw [h]
      by_cases q : n ≤ m
      · exact .inr (by rw [show max n m = m by omega]; exact List.mem_cons_self)
      · exact .inl (by omega)
    · exact .inr (List.mem_cons_of_mem _ h)
theorem minL_le : ∀ (ns : List Int) (n : Int), ns.foldl min n ≤ n ∧ ∀ y ∈ ns, ns.foldl min n ≤ y
  | [], n => ⟨Int.le_refl _, fun y h => by cases h⟩
  | m :: ns, n => by
    obtain ⟨h1, h2⟩ := minL_le ns (min n m)
    refine ⟨by show ns.foldl min (min n m) ≤ n; omega, fun y hy => ?_⟩
    show ns.foldl min (min n m) ≤ y
    rcases List.mem_cons.mp hy with rfl | hy
    · omega
    · exact h2 y hy
theorem minL_mem : ∀ (ns : List Int) (n : Int), ns.foldl min n = n ∨ ns.foldl min n ∈ ns
  | [], n => .inl rfl
  | m :: ns, n => by
    show ns.foldl min (min n m) = n ∨ ns.foldl min (min n m) ∈ m :: ns
    rcases minL_mem ns (min n m) with h | h
    · rw [h]
      by_cases q : m ≤ n
      · exact .inr (by rw [show min n m = m by omega]; exact List.mem_cons_self)
      · exact .inl (by omega)
    · exact .inr (List.mem_cons_of_mem _ h)

variable {cl : Wp} {X : Cx} {a b c e : Expr} {es : List Expr} {da db dc : EX} {ha hb : HX} {pos : Pos}
theorem ok_sum (hc : X.calm = true) : CallR X (.builtin "sum") (rS1 (wd X cl) sumD) := by
  intro pins s σ H xs us Q I r h
  obtain ⟨x, dc, d, g, S, rfl, sim, sh, e, q⟩ := h
  unfold sumD at e
  split at e
  · rw [Option.map_eq_some_iff] at e
    obtain ⟨ns, e, rfl⟩ := e
    obtain ⟨a, vs, rfl, h, l⟩ := sh
    rw [intsOf_rep e l] at h
    exact cr_sum hc pins s σ H _ us Q I r ⟨a, ns, rfl, SqL.of h, q _ g H sim .refl (rep_int.mpr rfl)⟩
  · cases e
theorem ok_all (hc : X.calm = true) : CallR X (.builtin "all") (rS1 (wd X cl) allD) := by
  intro pins s σ H xs us Q I r h
  obtain ⟨x, dc, d, g, S, rfl, sim, sh, e, q⟩ := h
  unfold allD at e
  split at e
  · rw [Option.map_eq_some_iff] at e
    obtain ⟨ns, e, rfl⟩ := e
    obtain ⟨a, vs, rfl, h, l⟩ := sh
    rw [boolsOf_rep e l] at h
    exact cr_all hc pins s σ H _ us Q I r ⟨a, ns, rfl, SqL.of h, q _ g H sim .refl (rep_bl.mpr rfl)⟩
  · cases e
theorem ok_any (hc : X.calm = true) : CallR X (.builtin "any") (rS1 (wd X cl) anyD) := by
  intro pins s σ H xs us Q I r h
  obtain ⟨x, dc, d, g, S, rfl, sim, sh, e, q⟩ := h
  unfold anyD at e
  split at e
  · rw [Option.map_eq_some_iff] at e
    obtain ⟨ns, e, rfl⟩ := e
    obtain ⟨a, vs, rfl, h, l⟩ := sh
    rw [boolsOf_rep e l] at h
    exact cr_any hc pins s σ H _ us Q I r ⟨a, ns, rfl, SqL.of h, q _ g H sim .refl (rep_bl.mpr rfl)⟩
  · cases e
theorem ok_maxL (hc : X.calm = true) : CallR X (.builtin "max") (rS1 (wd X cl) maxLD) := by
  intro pins s σ H xs us Q I r h
  obtain ⟨x, dc, d, g, S, rfl, sim, sh, e, q⟩ := h
  unfold maxLD at e
  split at e
  · rw [Option.map_eq_some_iff] at e
    obtain ⟨m, e, rfl⟩ := e
    rw [Option.bind_eq_some_iff] at e
    obtain ⟨ns, e1, e2⟩ := e
    obtain ⟨a, vs, rfl, h, l⟩ := sh
    rw [intsOf_rep e1 l] at h
    cases ns with
    | nil => cases e2
    | cons n ns =>
      have e2 : ns.foldl max n = m := Option.some.inj e2
      refine cr_max hc pins s σ H _ us Q I r ⟨a, n :: ns, rfl, SqL.of h, by simp, fun m' h1 h2 => ?_⟩
      have : m' = m := by
        have q1 := maxL_le ns n
        have q2 := maxL_mem ns n
        rw [e2] at q1 q2
        have z1 : m' ≤ m := by
          rcases List.mem_cons.mp h1 with rfl | h
          · exact q1.1
          · exact q1.2 _ h
        have z2 : m ≤ m' := h2 m (by rcases q2 with rfl | h; exact List.mem_cons_self; exact List.mem_cons_of_mem _ h)
        omega
      subst this
      exact q _ g H sim .refl (rep_int.mpr rfl)
  · cases e
theorem ok_minL (hc : X.calm = true) : CallR X (.builtin "min") (rS1 (wd X cl) minLD) := by
  intro pins s σ H xs us Q I r h
  obtain ⟨x, dc, d, g, S, rfl, sim, sh, e, q⟩ := h
  unfold minLD at e
  split at e
  · rw [Option.map_eq_some_iff] at e
    obtain ⟨m, e, rfl⟩ := e
    rw [Option.bind_eq_some_iff] at e
    obtain ⟨ns, e1, e2⟩ := e
    obtain ⟨a, vs, rfl, h, l⟩ := sh
    rw [intsOf_rep e1 l] at h
    cases ns with
    | nil => cases e2
    | cons n ns =>
      have e2 : ns.foldl min n = m := Option.some.inj e2
      refine cr_min hc pins s σ H _ us Q I r ⟨a, n :: ns, rfl, SqL.of h, by simp, fun m' h1 h2 => ?_⟩
      have : m' = m := by
        have q1 := minL_le ns n
        have q2 := minL_mem ns n
        rw [e2] at q1 q2
        have z1 : m ≤ m' := by
          rcases List.mem_cons.mp h1 with rfl | h
          · exact q1.1
          · exact q1.2 _ h
        have z2 : m' ≤ m := h2 m (by rcases q2 with rfl | h; exact List.mem_cons_self; exact List.mem_cons_of_mem _ h)
        omega
      subst this
      exact q _ g H sim .refl (rep_int.mpr rfl)
  · cases e
theorem ok_tuple : CallR X (.type "tuple") (rS1 (wd X cl) tupleD) := by
  intro pins s σ H xs us Q I r h
  obtain ⟨x, dc, d, g, S, rfl, sim, sh, e, q⟩ := h
  unfold tupleD at e
  split at e
  · cases e
    obtain ⟨a, vs, rfl, h, l⟩ := sh
    refine call_tuple_of pins s σ H _ us Q I r ⟨a, vs, rfl, .inl ⟨SqL.of h, fun p hp => ?_⟩⟩
    obtain ⟨t, f⟩ := sim.put (u := .tup vs) hp
    exact q _ _ _ t f (rep_tup f.le l)
  · cases e
    have sh' : Rep (wd X cl) g (.tup _) x := sh
    obtain ⟨a, vs, rfl, h, l⟩ := (rep_tup' (w := wd X cl) (g := g)).mp sh
    exact call_tuple_of pins s σ H _ us Q I r ⟨a, vs, rfl, .inr ⟨sqT_sub sim.sub (SqT.of h), q _ g H sim .refl sh'⟩⟩
  · cases e
theorem ok_list : CallR X (.type "list") (rS1 (wd X cl) listD) := by
  intro pins s σ H xs us Q I r h
  obtain ⟨x, dc, d, g, S, rfl, sim, sh, e, q⟩ := h
  have fin : ∀ {ds : List D} {a : Addr} {vs : List V}, d = .lst ds → RepL (wd X cl) g ds vs → (SqL X.K H a vs ∨ SqT X.K H a vs) → x = .ref a → wpAny (model X.prog X.w) X.A (call (.type "list") us) (EP X pins σ Q) X.xe s := by
    intro ds a vs ed l h ex
    subst ed ex
    refine call_list_of pins s σ H _ us Q I r ⟨a, vs, rfl, h, fun p hp => ?_⟩
    obtain ⟨t, f⟩ := sim.put (u := .lst vs) hp
    exact q _ _ _ t f (rep_lst f.le l)
  unfold listD at e
  split at e
  · cases e
    obtain ⟨a, vs, rfl, h, l⟩ := sh
    exact fin rfl l (.inl (SqL.of h)) rfl
  · cases e
    obtain ⟨a, vs, rfl, h, l⟩ := (rep_frl' (w := wd X cl) (g := g)).mp sh
    exact fin rfl l (.inl (sqL_sub sim.sub h)) rfl
  · cases e
    obtain ⟨a, vs, rfl, h, l⟩ := (rep_tup' (w := wd X cl) (g := g)).mp sh
    exact fin rfl l (.inr (sqT_sub sim.sub (SqT.of h))) rfl
  · cases e
    obtain ⟨a, vs, rfl, h, l⟩ := (rep_ktp' (w := wd X cl) (g := g)).mp sh
    exact fin rfl l (.inr (sqT_sub sim.sub h)) rfl
  · cases e
theorem ok_int : CallR X (.type "int") (rS1 (wd X cl) intD) := by
  intro pins s σ H xs us Q I r h
  obtain ⟨x, dc, d, g, S, rfl, sim, sh, e, q⟩ := h
  unfold intD at e
  split at e
  · cases e
    have sh := (rep_int (w := wd X cl) (g := g)).mp sh
    subst sh
    exact call_int1 pins s σ H _ us Q I r (.inl ⟨_, rfl, q _ g H sim .refl (rep_int.mpr rfl)⟩)
  · cases e
    have sh := (rep_bl (w := wd X cl) (g := g)).mp sh
    subst sh
    exact call_int1 pins s σ H _ us Q I r (.inr ⟨_, rfl, q _ g H sim .refl (rep_int.mpr rfl)⟩)
  · cases e
theorem ok_abs : CallR X (.builtin "abs") (rS1 (wd X cl) absD) := by
  intro pins s σ H xs us Q I r h
  obtain ⟨x, dc, d, g, S, rfl, sim, sh, e, q⟩ := h
  unfold absD at e
  split at e
  · cases e
    have sh := (rep_int (w := wd X cl) (g := g)).mp sh
    subst sh
    exact call_abs pins s σ H _ us Q I r ⟨_, rfl, q _ g H sim .refl (rep_int.mpr rfl)⟩
  · cases e

/-! ### built-in functions of several values -/
def rSn (w : Wd) (f : List D → Option D) : List V → Hp → VK → Prop := fun xs H Q => ∃ ds d g S, SimS w g H S ∧ RepL w g ds xs ∧ f ds = some d ∧ ∀ v g' H', SimS w g' H' S → Fr g H g' H' → Rep w g' d v → Q v H'
theorem ge_bn {x : Str} {p : Pos} {id : String} {f : List D → Option D} {r : AX} (hc : CallR X (.builtin id) (rSn (wd X cl) f)) (hg : Gl X x) (hm : X.mg x = none) (hv : bootBuiltins x = some (.builtin id)) (h : GA cl X (a :: es) r) (hn : x ≠ "__name__") (hdb : (x == ("__debug__" : Str)) = false)
    (hs : starEach (a :: es) X.env = (false, eval a X.env) :: starEach es X.env) (hpl : (backTo pos (starEach es X.env)).any (·.1) = false) : GE cl X (.Call (.Name x p) (a :: es) [] pos) (eB f r) := fun W tk =>
  PE.weak (pe_callB hc hg hm hv (h W tk) hn hdb hs hpl) fun σ H Q ⟨ρ, S, g, sim, c⟩ =>
    Con.go sim c fun vs H1 ds S1 g1 e1 s1 f1 r1 c1 => by
      obtain ⟨d, e, c3⟩ := c1.opt
      exact ⟨ds, d, g1, S1, s1.st, r1, e, fun z g' H' s f r => c3 z g' H' s f r⟩
def max2D : List D → Option D
  | [.int i, .int j] => some (.int (if j > i then j else i))
  | _ => none
def min2D : List D → Option D
  | [.int i, .int j] => some (.int (if j < i then j else i))
  | _ => none
theorem repL2 {w : Wd} {g : Gh} {a b : D} {vs : List V} (r : RepL w g [a, b] vs) : ∃ x y, vs = [x, y] ∧ Rep w g a x ∧ Rep w g b y := by
  obtain ⟨x, l, rfl, h1, r⟩ := r.cases
  obtain ⟨y, l, rfl, h2, r⟩ := r.cases
  obtain rfl := r.cases0
  exact ⟨x, y, rfl, h1, h2⟩
theorem ok_max2 (hc : X.calm = true) : CallR X (.builtin "max") (rSn (wd X cl) max2D) := by
  intro pins s σ H xs us Q I r h
  obtain ⟨ds, d, g, S, sim, l, e, q⟩ := h
  unfold max2D at e
  split at e
  · cases e
    obtain ⟨x, y, rfl, h1, h2⟩ := repL2 l
    rw [rep_int] at h1 h2
    subst h1 h2
    exact call_max2 hc pins s σ H _ us Q I r ⟨_, _, rfl, q _ g H sim .refl (rep_int.mpr rfl)⟩
  · cases e
theorem ok_min2 (hc : X.calm = true) : CallR X (.builtin "min") (rSn (wd X cl) min2D) := by
  intro pins s σ H xs us Q I r h
  obtain ⟨ds, d, g, S, sim, l, e, q⟩ := h
  unfold min2D at e
  split at e
  · cases e
    obtain ⟨x, y, rfl, h1, h2⟩ := repL2 l
    rw [rep_int] at h1 h2
    subst h1 h2
    exact call_min2 hc pins s σ H _ us Q I r ⟨_, _, rfl, q _ g H sim .refl (rep_int.mpr rfl)⟩
  · cases e
end GG
end

section
/-! G.G: isinstance, in, slices. -/
set_option linter.all false
set_option maxRecDepth 100000
namespace GG
open PySem L2
open PyProof.Rows hiding St

/-! ### isinstance -/
inductive IsT where
  | ty (n : String)
  | cl (c : Str)
  deriving DecidableEq
def biTypes : List String := ["int", "bool", "str", "tuple", "list", "dict"]
def srcTypes : List String := ["NoneType", "int", "bool", "str", "tuple", "list", "dict"]
def typN (S : Store) : D → Option (String ⊕ Str)
  | .non => some (.inl "NoneType")
  | .bl _ => some (.inl "bool")
  | .int _ => some (.inl "int")
  | .str _ => some (.inl "str")
  | .tup _ => some (.inl "tuple")
  | .ktp _ => some (.inl "tuple")
  | .lst _ => some (.inl "list")
  | .frl _ => some (.inl "list")
  | .dic _ _ => some (.inl "dict")
  | .obj c _ _ => some (.inr c)
  | .ptr n => match S[n]? with
    | some (.lst _) => some (.inl "list")
    | some (.ins c _ _) => some (.inr c)
    | _ => none
  | _ => none
abbrev CTab := List (Str × List Str)
def biB (n m : String) : Bool := n == m || (n == "bool" && m == "int")
def isOne (tab : CTab) : String ⊕ Str → IsT → Option Bool
  | .inl n, .ty m => if srcTypes.contains n && biTypes.contains m then some (biB n m) else none
  | .inl n, .cl c => if srcTypes.contains n && (tab.lookup c).isSome then some false else none
  | .inr c, .ty m => if (tab.lookup c).isSome && biTypes.contains m then some false else none
  | .inr c, .cl d => if (tab.lookup d).isSome then (tab.lookup c).map fun l => l.contains d else none
def isAny (tab : CTab) (t : String ⊕ Str) : List IsT → Option Bool
  | [] => some false
  | c :: r => (isOne tab t c).bind fun b => if b then some true else isAny tab t r
def eIsi (tab : CTab) (ts : List IsT) (a : EX) : EX := fun ρ S => (a ρ S).bind fun p => (Out.opt ((typN p.2 p.1).bind fun t => isAny tab t ts)).bind fun b => .ok (.bl b, p.2)
def eIsi1 (tab : CTab) (t : IsT) (a : EX) : EX := fun ρ S => (a ρ S).bind fun p => (Out.opt ((typN p.2 p.1).bind fun u => isOne tab u t)).bind fun b => .ok (.bl b, p.2)

/-- what the text must say of the classes in the table -/
structure CFact (K : PySem.W.Frag) (C : Addr) : Prop where
  cl : Cls K C
  ha : PySem.W.findIn K (.ref C) "__class__" = some (some (.builtin "object.__class__"))
  hn : PySem.W.specialIn K (.builtin "object.__class__") "__get__" = some (some (.builtin "getset_descriptor.__get__"))
  htk : PySem.W.takesIn K (.builtin "object.__class__") = some true
  hm : PySem.W.mroIn K C (.type "object") = some true
  no : ∀ m, biTypes.contains m = true → PySem.W.kitOne K (.ref C) (.type m) = some false
  non : ∀ n, srcTypes.contains n = true → PySem.W.kitOne K (.type n) (.ref C) = some false
structure CTabOk (K : PySem.W.Frag) (mg : Str → Option Value) (tab : CTab) : Prop where
  cls : ∀ c l, tab.lookup c = some l → ∃ C, mg c = some (.ref C) ∧ CFact K C
  two : ∀ c d l l' C D, tab.lookup c = some l → tab.lookup d = some l' → mg c = some (.ref C) → mg d = some (.ref D) → PySem.W.kitOne K (.ref C) (.ref D) = some (l.contains d)
theorem kit_bi {K : PySem.W.Frag} {n m : String} (h1 : srcTypes.contains n = true) (h2 : biTypes.contains m = true) : PySem.W.kitOne K (.type n) (.type m) = some (biB n m) := by
  have h1 : n ∈ srcTypes := by simpa using h1
  have h2 : m ∈ biTypes := by simpa using h2
  simp only [srcTypes, List.mem_cons, List.not_mem_nil, or_false] at h1
  simp only [biTypes, List.mem_cons, List.not_mem_nil, or_false] at h2
  refine kit_ty ?_
  rcases h1 with rfl | rfl | rfl | rfl | rfl | rfl | rfl <;> rcases h2 with rfl | rfl | rfl | rfl | rfl | rfl <;> decide +kernel
section
variable {cl : Wp} {X : Cx} {a b c e : Expr} {es : List Expr} {da db dc : EX} {ha hb : HX} {pos : Pos} {tab : CTab}
def CVal (mg : Str → Option Value) : IsT → Value → Prop
  | .ty m, cv => cv = .type m
  | .cl c, cv => ∃ C, mg c = some (.ref C) ∧ cv = .ref C
/-- the class of a value, as the fragment tells it -/
def TyVal (K : PySem.W.Frag) (mg : Str → Option Value) : String ⊕ Str → Value → Prop
  | .inl n, t => t = .type n
  | .inr c, t => ∃ C, mg c = some (.ref C) ∧ t = .ref C
theorem tyX_of {g : Gh} {H : Hp} {S : Store} {d : D} {v : V} {n : String ⊕ Str} (tb : CTabOk X.K X.mg tab) (s : SimS (wd X cl) g H S) (r : Rep (wd X cl) g d v) (e : typN S d = some n)
    (hc : ∀ c, n = .inr c → (tab.lookup c).isSome = true) : ∃ t, TyX X.K H v t ∧ TyVal X.K X.mg n t := by
  have own : ∀ {a : Addr} {c : Str} {C dx : Addr} {fs : List (Str × V)}, X.mg c = some (.ref C) → (tab.lookup c).isSome = true → H a = some (.ins C dx fs) → ∃ t, TyX X.K H (.ref a) t ∧ TyVal X.K X.mg (.inr c) t := by
    intro a c C dx fs hm hl h
    obtain ⟨l, hl⟩ := Option.isSome_iff_exists.mp hl
    obtain ⟨C', hm', f⟩ := tb.cls c l hl
    rw [hm] at hm'; cases hm'
    exact ⟨_, .base (.ins h f.cl f.ha f.hn f.htk f.hm), C, hm, rfl⟩
  cases d with
  | non => cases e; rw [rep_non] at r; subst r; exact ⟨_, .base .non, rfl⟩
  | bl b => cases e; rw [rep_bl] at r; subst r; exact ⟨_, .base (.bl _), rfl⟩
  | int b => cases e; rw [rep_int] at r; subst r; exact ⟨_, .base (.int _), rfl⟩
  | str b => cases e; rw [rep_str] at r; subst r; exact ⟨_, .base (.str _), rfl⟩
  | tup ds =>
    cases e
    obtain ⟨a, vs, rfl, h, l⟩ := rep_tup'.mp r
    exact ⟨_, .base (.tup (sub_lst s.sub (fun z => z) h)), rfl⟩
  | lst ds =>
    cases e
    obtain ⟨a, vs, rfl, h, l⟩ := rep_lst'.mp r
    exact ⟨_, .base (.lst (sub_lst s.sub (fun z => z) h)), rfl⟩
  | ktp ds =>
    cases e
    obtain ⟨a, vs, rfl, h, l⟩ := rep_ktp'.mp r
    rcases sqT_sub s.sub h with (h | ⟨o, h⟩) | ⟨o, _, _, hk, hc, _⟩
    · exact ⟨_, .base (.tup h), rfl⟩
    · exact ⟨_, .fTuple h, rfl⟩
    · exact ⟨_, .kTuple hk hc, rfl⟩
  | frl ds =>
    cases e
    obtain ⟨a, vs, rfl, h, l⟩ := rep_frl'.mp r
    rcases sqL_sub s.sub h with (h | ⟨o, h⟩) | ⟨o, _, _, hk, hc, _⟩
    · exact ⟨_, .base (.lst h), rfl⟩
    · exact ⟨_, .base (.frz h), rfl⟩
    · exact ⟨_, .kList hk hc, rfl⟩
  | dic ks vs =>
    cases e
    obtain ⟨a, us, u, rfl, h, ⟨_, hd⟩, l⟩ := rep_dic'.mp r
    rcases hd with ⟨q, _, rfl⟩ | ⟨q, _, rfl⟩
    · rcases s.sub _ _ h with h | ⟨_, o, h⟩
      · exact ⟨_, .base (.dK h), rfl⟩
      · exact ⟨_, .fDict h, rfl⟩
    · exact ⟨_, .base (.dT (sub_lst s.sub (fun z => z) h)), rfl⟩
  | obj c fs ds =>
    cases e
    obtain ⟨_, a, C, dx, vs, rfl, hm, h, _⟩ := rep_obj'.mp r
    exact own hm (hc c rfl) (sub_lst s.sub (fun z => z) h)
  | ptr i =>
    obtain ⟨a, hm, rfl⟩ := rep_ptr.mp r
    unfold typN at e
    dsimp only at e
    split at e
    · rename_i xs hx
      cases e
      obtain ⟨_, vs, h, _⟩ := s.at_ i _ a hx hm
      exact ⟨_, .base (.lst h), rfl⟩
    · rename_i c fs vs hx
      cases e
      obtain ⟨_, _, C, dx, us, hm', h, _⟩ := s.at_ i _ a hx hm
      exact own hm' (hc c rfl) h
    · cases e
  | _ => cases e
theorem tyX_one {g : Gh} {H : Hp} {S : Store} {d : D} {v : V} {n : String ⊕ Str} {k : IsT} {b : Bool} {cv : Value} (tb : CTabOk X.K X.mg tab) (s : SimS (wd X cl) g H S) (r : Rep (wd X cl) g d v) (e : typN S d = some n) (e1 : isOne tab n k = some b)
    (hcv : CVal X.mg k cv) : ∃ t, TyX X.K H v t ∧ PySem.W.kitOne X.K t cv = some b := by
  have hc : ∀ c, n = .inr c → (tab.lookup c).isSome = true := by
    rintro c rfl
    cases k with
    | ty m =>
      simp only [isOne] at e1
      split at e1
      · rename_i z; exact (Bool.and_eq_true_iff.mp z).1
      · cases e1
    | cl d =>
      simp only [isOne] at e1
      split at e1
      · rw [Option.map_eq_some_iff] at e1
        obtain ⟨l, e1, _⟩ := e1
        rw [e1]; rfl
      · cases e1
  obtain ⟨t, h1, h2⟩ := tyX_of tb s r e hc
  refine ⟨t, h1, ?_⟩
  cases n with
  | inl n =>
    have h2 : t = .type n := h2
    subst h2
    cases k with
    | ty m =>
      have hcv : cv = .type m := hcv
      subst hcv
      simp only [isOne] at e1
      split at e1
      · rename_i z
        obtain ⟨z1, z2⟩ := Bool.and_eq_true_iff.mp z
        cases e1
        exact kit_bi z1 z2
      · cases e1
    | cl c =>
      obtain ⟨C, hm, rfl⟩ := hcv
      simp only [isOne] at e1
      split at e1
      · rename_i z
        obtain ⟨z1, z2⟩ := Bool.and_eq_true_iff.mp z
        cases e1
        obtain ⟨l, hl⟩ := Option.isSome_iff_exists.mp z2
        obtain ⟨C', hm', f⟩ := tb.cls c l hl
        rw [hm] at hm'; cases hm'
        exact f.non n z1
      · cases e1
  | inr c =>
    obtain ⟨C, hm, rfl⟩ := h2
    cases k with
    | ty m =>
      have hcv : cv = .type m := hcv
      subst hcv
      simp only [isOne] at e1
      split at e1
      · rename_i z
        obtain ⟨z1, z2⟩ := Bool.and_eq_true_iff.mp z
        cases e1
        obtain ⟨l, hl⟩ := Option.isSome_iff_exists.mp z1
        obtain ⟨C', hm', f⟩ := tb.cls c l hl
        rw [hm] at hm'; cases hm'
        exact f.no m z2
      · cases e1
    | cl d =>
      obtain ⟨D', hmd, rfl⟩ := hcv
      simp only [isOne] at e1
      split at e1
      · rename_i z
        rw [Option.map_eq_some_iff] at e1
        obtain ⟨l, e1, rfl⟩ := e1
        obtain ⟨l', hl'⟩ := Option.isSome_iff_exists.mp z
        exact tb.two c d l l' C D' e1 hl' hm hmd
      · cases e1
/-- the expression that names one type -/
def NamesT (X : Cx) (e : Expr) (k : IsT) : Prop := match k with
  | .ty m => PE X e (tC (.ty m))
  | .cl c => ∃ C, X.mg c = some (.ref C) ∧ PE X e (tC (.ref C))
theorem ge_isi1 {t : Expr} {k : IsT} {p : Pos} (tb : CTabOk X.K X.mg tab) (hg : Gl X "isinstance") (hm : X.mg "isinstance" = none) (h : GE cl X a da) (ht : NamesT X t k)
    (hs1 : starEach [a, t] X.env = (false, eval a X.env) :: starEach [t] X.env) (hs2 : starEach [t] X.env = (false, eval t X.env) :: starEach [] X.env) :
    GE cl X (.Call (.Name "isinstance" p) [a, t] [] pos) (eIsi1 tab k da) := fun W tk => by
  have go : ∀ (c : V) (cv : Value), ClsV c cv → PE X t (tC c) → CVal X.mg k cv →
      PE X (.Call (.Name "isinstance" p) [a, t] [] pos) (tX (wd X cl) W (RE (wd X cl)) (eIsi1 tab k da)) := fun c cv hc hp hcv =>
    PE.weak (pe_callB call_isi hg hm (by decide +kernel) (pa_cons (h W tk) (pa_cons hp pa_nil hs2) hs1) (by decide) (by decide) hs1 (by rw [hs2]; rfl)) fun σ H Q ⟨ρ, S, g, sim, c0⟩ =>
      Con.go sim c0 fun v H1 d1 S1 g1 e1 s1 f1 r1 c1 => by
        obtain ⟨b, e, c3⟩ := c1.opt
        rw [Option.bind_eq_some_iff] at e
        obtain ⟨n, e2, e3⟩ := e
        obtain ⟨t', h1, h2⟩ := tyX_one (cv := cv) tb s1.st r1 e2 e3 hcv
        exact ⟨v, c, t', cv, b, rfl, hc, h1, h2, Con.val c3 s1.st (rep_bl.mpr rfl)⟩
  cases k with
  | ty m => exact go _ _ (.ty m) ht rfl
  | cl c =>
    obtain ⟨C, hC, hp⟩ := ht
    exact go _ _ (.own C) hp ⟨C, hC, rfl⟩

/-! ### in, not in -/
def flatD : D → Bool
  | .non => true | .bl _ => true | .int _ => true | .str _ => true
  | _ => false
def eqF : D → D → Bool
  | .non, .non => true
  | .bl a, .bl b => a == b
  | .bl a, .int j => (if a then 1 else 0) == j
  | .int i, .bl b => i == (if b then 1 else 0)
  | .int i, .int j => i == j
  | .str x, .str y => x == y
  | _, _ => false
def inD (x : D) : D → Option Bool
  | .lst xs => if flatD x && xs.all flatD then some (xs.any fun y => eqF y x) else none
  | .tup xs => if flatD x && xs.all flatD then some (xs.any fun y => eqF y x) else none
  | .ktp xs => if flatD x && xs.all flatD then some (xs.any fun y => eqF y x) else none
  | .str z => match x with
    | .str y => some (!(Builtin.Str.occurrences z y 0 z.length 1).isEmpty)
    | _ => none
  | .dic ks vs => (keyD x).bind fun k => if ks.all (sameKind k) then some ((lookD ks vs k).isSome) else none
  | _ => none
def eInH (neg : Bool) (a : EX) (h : HX) : EX := fun ρ S => (a ρ S).bind fun p => (h ρ p.2).bind fun q => (Out.opt ((deref ρ q.2 q.1).bind (inD p.1))).bind fun b => .ok (.bl (if neg then !b else b), q.2)
theorem flatV_of {w : Wd} {g : Gh} {d : D} {v : V} (r : Rep w g d v) (f : flatD d = true) : flatV v = true := by
  cases d <;> first | (exact absurd (show false = true from f) Bool.false_ne_true) | skip
  · rw [rep_non] at r; subst r; rfl
  · rw [rep_bl] at r; subst r; rfl
  · rw [rep_int] at r; subst r; rfl
  · rw [rep_str] at r; subst r; rfl
theorem eqV_of {w : Wd} {g : Gh} {d d' : D} {v v' : V} (r : Rep w g d v) (f : flatD d = true) (r' : Rep w g d' v') (f' : flatD d' = true) : eqV v v' = eqF d d' := by
  cases d <;> first | (exact absurd (show false = true from f) Bool.false_ne_true) | skip
  all_goals (cases d' <;> first | (exact absurd (show false = true from f') Bool.false_ne_true) | skip)
  all_goals (simp only [Rep] at r r'; subst r r'; rfl)
theorem flatL_of {w : Wd} {g : Gh} : ∀ {ds : List D} {vs : List V}, RepL w g ds vs → ds.all flatD = true → vs.all flatV = true
  | [], _, r, _ => by rw [r.cases0]; rfl
  | d :: ds, _, r, h => by
    obtain ⟨v, l, rfl, q1, q2⟩ := r.cases
    rw [List.all_cons, Bool.and_eq_true] at h ⊢
    exact ⟨flatV_of q1 h.1, flatL_of q2 h.2⟩
theorem inL_of {w : Wd} {g : Gh} {x : D} {vx : V} (rx : Rep w g x vx) (fx : flatD x = true) : ∀ {ds : List D} {vs : List V}, RepL w g ds vs → ds.all flatD = true → inV vx vs = ds.any fun y => eqF y x
  | [], _, r, _ => by rw [r.cases0]; rfl
  | d :: ds, _, r, h => by
    obtain ⟨v, l, rfl, q1, q2⟩ := r.cases
    rw [List.all_cons, Bool.and_eq_true] at h
    show (eqV v vx || inV vx l) = (eqF d x || ds.any fun y => eqF y x)
    rw [eqV_of q1 h.1 rx fx, inL_of rx fx q2 h.2]

/-! an empty dict is one of either kind -/
theorem dkT {P : Program} {w : World} {H : Hp} {h : Heap} {a : Addr} (ok : HOk P w H h) (e : Rd H a (.dK [])) : (a == sysModules) = false ∧ h.DictOfH (tupleKind (mixKind P w)) a [] := by
  obtain ⟨_, hd, vs, rel, o, es, ep, h1, h2, h3, _, h5, _⟩ := dk_rd ok e
  cases rel
  refine ⟨hd, o, es, ep, h1, h2, h3, ?_, fun x hx => absurd hx (by simp), by simp⟩
  generalize es.toList = l at h5
  cases h5
  rfl
theorem dtK {P : Program} {w : World} {H : Hp} {h : Heap} {a : Addr} (ok : HOk P w H h) (e : Rd H a (.dT [])) : (a == sysModules) = false ∧ h.DictOf (mixKind P w) a [] := by
  obtain ⟨_, hd, vs, rel, o, es, ep, h1, h2, h3, h4, _⟩ := dt_rd ok e
  cases rel
  have e0 : es.toList = [] := h4
  refine ⟨hd, o, es, ep, h1, h2, h3, fun x hx => ?_, ?_, by simp⟩
  · have : x ∈ es.toList := by simpa using hx
    rw [e0] at this; cases this
  · rw [e0]; exact .nil
theorem d_in2 {pins : List (Addr × Obj)} {σ : St} {H : Hp} {s : Shared} {a : Addr} {y : V} {u : Value} {o : Option V} {A : Around} {E : Value → Shared → Prop} {Q : Value → Shared → Prop} (hu : A.units + 1 < cLine) (I : Inv X pins σ H s) (g : DGet2 H a y o) (ry : RelV y u)
    (h : ∀ s', Inv X pins σ H s' → Q (.bool o.isSome) s') : wpAny (model X.prog X.w) A (compareOp .In u (.ref a)) Q E s := by
  rcases g with g | ⟨⟨e, q, b, rfl, hb⟩ | ⟨e, k, rfl⟩, rfl⟩
  · exact d_in hu I g ry h
  · cases (show u = Value.ref b from ry)
    obtain ⟨hd, dd⟩ := dkT I.hok e
    exact wpAny_in_heap (tupleKind_room_in1 hu) (key_of I.hok hb) hd dd (h _ (I.tok _))
  · obtain ⟨hd, dd⟩ := dtK I.hok e
    exact wpAny_in_of (kV_is ry) hd dd.mapOf (h _ (I.tok _))
theorem d_notIn2 {pins : List (Addr × Obj)} {σ : St} {H : Hp} {s : Shared} {a : Addr} {y : V} {u : Value} {o : Option V} {A : Around} {E : Value → Shared → Prop} {Q : Value → Shared → Prop} (hu : A.units + 1 < cLine) (I : Inv X pins σ H s) (g : DGet2 H a y o) (ry : RelV y u)
    (h : ∀ s', Inv X pins σ H s' → Q (.bool (!o.isSome)) s') : wpAny (model X.prog X.w) A (compareOp .NotIn u (.ref a)) Q E s := by
  rcases g with g | ⟨⟨e, q, b, rfl, hb⟩ | ⟨e, k, rfl⟩, rfl⟩
  · exact d_notIn hu I g ry h
  · cases (show u = Value.ref b from ry)
    obtain ⟨hd, dd⟩ := dkT I.hok e
    exact wpAny_notIn_heap (tupleKind_room_in1 hu) (key_of I.hok hb) hd dd (h _ (I.tok _))
  · obtain ⟨hd, dd⟩ := dtK I.hok e
    exact wpAny_notIn_of (kV_is ry) hd dd.mapOf (h _ (I.tok _))
def inOp (neg : Bool) : CmpOp := if neg then .NotIn else .In
def rInD (w : Wd) (neg : Bool) : R2 := fun x y H Q => ∃ d dc b g S, SimS w g H S ∧ Rep w g d x ∧ Shown w g H dc y ∧ inD d dc = some b ∧ Q (.bl (if neg then !b else b)) H
theorem ok_in (hu : X.A.units + 1 < cLine) (neg : Bool) : OpR X (compareOp (inOp neg)) (rInD (wd X cl) neg) := by
  intro pins s σ H x y v u Q I rx ry h
  obtain ⟨d, dc, b, g, S, sim, r, sh, e, q⟩ := h
  have seq : ∀ {xs : List D} {p : Addr} {vs : List V}, y = .ref p → (SqL X.K H p vs ∨ SqT X.K H p vs) → RepL (wd X cl) g xs vs → (if (flatD d && xs.all flatD) = true then some (xs.any fun y => eqF y d) else none) = some b →
      wpAny (model X.prog X.w) X.A (compareOp (inOp neg) v u) (EP X pins σ Q) X.xe s := by
    intro xs p vs ey h l e
    subst ey
    split at e
    · rename_i z
      obtain ⟨z1, z2⟩ := Bool.and_eq_true_iff.mp z
      have e := Option.some.inj e
      have e2 := inL_of r z1 l z2
      cases neg with
      | true => exact op_notIn_seq pins s σ H _ _ v u Q I rx ry ⟨p, vs, rfl, h, flatV_of r z1, flatL_of l z2, by rw [if_pos rfl, e2, e]; exact q⟩
      | false => exact op_in_seq pins s σ H _ _ v u Q I rx ry ⟨p, vs, rfl, h, flatV_of r z1, flatL_of l z2, by rw [if_neg Bool.false_ne_true, e2, e]; exact q⟩
    · cases e
  unfold inD at e
  split at e
  · obtain ⟨a, vs, ey, h, l⟩ := sh
    exact seq ey (.inl (SqL.of h)) l e
  · obtain ⟨a, vs, ey, h, l⟩ := (rep_tup' (w := wd X cl) (g := g)).mp sh
    exact seq ey (.inr (sqT_sub sim.sub (SqT.of h))) l e
  · obtain ⟨a, vs, ey, h, l⟩ := (rep_ktp' (w := wd X cl) (g := g)).mp sh
    exact seq ey (.inr (sqT_sub sim.sub h)) l e
  · have sh := (rep_str (w := wd X cl) (g := g)).mp sh
    subst sh
    split at e
    · cases e
      rw [rep_str] at r
      subst r
      cases neg with
      | true => exact op_notin_str pins s σ H _ _ v u Q I rx ry ⟨_, _, rfl, rfl, q⟩
      | false => exact op_in_str pins s σ H _ _ v u Q I rx ry ⟨_, _, rfl, rfl, q⟩
    · cases e
  · rw [Option.bind_eq_some_iff] at e
    obtain ⟨k, e1, e⟩ := e
    split at e
    · rename_i hk
      cases e
      obtain ⟨a, vs, o, rfl, h1, h2, l⟩ := sh
      obtain rfl : u = Value.ref a := ry
      have z := dget_of sim h1 h2 l e1 r hk
      have fin : ∀ o : Option V, DGet2 H a x o → o.isSome = (lookD _ _ k).isSome → wpAny (model X.prog X.w) X.A (compareOp (inOp neg) v (.ref a)) (EP X pins σ Q) X.xe s := fun o g2 eo => by
        cases neg with
        | true => exact d_notIn2 hu I g2 rx fun s' I' => ⟨.bl (!o.isSome), H, I', rfl, by rw [eo]; exact q⟩
        | false => exact d_in2 hu I g2 rx fun s' I' => ⟨.bl o.isSome, H, I', rfl, by rw [eo]; exact q⟩
      split at z
      · rename_i d' ed
        obtain ⟨x', hx, _⟩ := z
        exact fin _ (.inl hx) (by rw [ed]; rfl)
      · rename_i ed
        exact fin _ z (by rw [ed]; rfl)
    · cases e
  · cases e
theorem rd_in {neg : Bool} {W : WX} {σ : St} {H : Hp} {Q : VK} (h : tX (wd X cl) W (RE (wd X cl)) (eInH neg da hb) σ H Q) :
    tOp (rInD (wd X cl) neg) (tX (wd X cl) W (RE (wd X cl)) da) (fun σ H Q => tX (wd X cl) W (RH (wd X cl) σ) hb σ H Q) σ H Q := by
  obtain ⟨ρ, S, g, sim, c⟩ := h
  exact Con.go sim c fun v H1 d1 S1 g1 e1 s1 f1 r1 c1 => Con.go s1 c1 fun u H2 hd S2 g2 e2 s2 f2 r2 c2 => by
    obtain ⟨k, e, c3⟩ := c2.opt
    rw [Option.bind_eq_some_iff] at e
    obtain ⟨dc, e3, e4⟩ := e
    exact ⟨d1, dc, k, g2, S2, s2.st, Rep.mono f2.le r1, shown_of s2 r2 e3, e4, Con.val c3 s2.st (rep_bl.mpr rfl)⟩
theorem ge_in (hu : X.A.units + 1 < cLine) (neg : Bool) (h1 : GE cl X a da) (h2 : GHd cl X b hb) (hm : behindInMarks (inOp neg) b = false) : GE cl X (.Compare a [inOp neg] [b] pos) (eInH neg da hb) := fun W tk =>
  PE.weak (pe_cmpR (ok_in (cl := cl) hu neg) (h1 W tk) (h2 W tk) hm) fun σ H Q h => rd_in h
theorem gt_in (hu : X.A.units + 1 < cLine) (neg : Bool) (h1 : GE cl X a da) (h2 : GHd cl X b hb) (hm : behindInMarks (inOp neg) b = false) : GT cl X (.Compare a [inOp neg] [b] pos) (bV (eInH neg da hb)) := fun W tk =>
  PT.weak (pt_cmpR (ok_in (cl := cl) hu neg) (h1 W tk) (h2 W tk) hm) fun σ H Q h => rd_in (rd_bV h)

/-! ### slices -/
def cutD (xs : List D) (lo hi : Option Int) : List D := (xs.drop (HT.sIx xs.length 0 lo)).take (HT.sIx xs.length xs.length hi - HT.sIx xs.length 0 lo)
def sliceD (lo hi : Option Int) : D → Option D
  | .lst xs => some (.lst (cutD xs lo hi))
  | .frl xs => some (.lst (cutD xs lo hi))
  | .tup xs => some (.tup (cutD xs lo hi))
  | _ => none
def oX (o : Option EX) : LEnv → Store → Out (Option Int × Store) := fun ρ S => match o with
  | none => .ok (none, S)
  | some e => (e ρ S).bind fun q => match q.1 with
    | .int i => Out.ok (some i, q.2)
    | _ => Out.stuck
def eSl (h : HX) (lo hi : Option EX) : EX := fun ρ S => (h ρ S).bind fun p => (oX lo ρ p.2).bind fun l => (oX hi ρ l.2).bind fun u =>
  (Out.opt ((deref ρ u.2 p.1).bind (sliceD l.1 u.1))).bind fun d => .ok (d, u.2)
def RO : Gh → Hp → Option Int → Option Int → Prop := fun _ _ a b => a = b
def GO (X : Cx) (e : Option Expr) (den : LEnv → Store → Out (Option Int × Store)) : Prop := ∀ W, Takes X W → PO X e (tX (wd X cl) W RO den)
theorem PO.weak {X : Cx} {e : Option Expr} {t t' : TO} (h : PO X e t) (k : ∀ σ H Q, t' σ H Q → t σ H Q) : PO X e t' := ⟨fun pins s σ H Q I q => h.run pins s σ H Q I (k _ _ _ q)⟩
theorem go_none : GO (cl := cl) X none (oX none) := fun W tk => PO.weak po_none fun σ H Q ⟨ρ, S, g, sim, c⟩ => Con.val c sim.st rfl
theorem go_some (h : GE cl X e da) : GO (cl := cl) X (some e) (oX (some da)) := fun W tk => PO.weak (po_some (h W tk)) fun σ H Q ⟨ρ, S, g, sim, c⟩ =>
  Con.go sim c fun v H1 d1 S1 g1 e1 s1 f1 r1 c1 => by
    cases d1 with
    | int i => exact ⟨i, rep_int.mp r1, Con.val c1 s1.st rfl⟩
    | _ => exact c1.elim
theorem cut_rep {w : Wd} {g : Gh} {ds : List D} {vs : List V} (r : RepL w g ds vs) (lo hi : Option Int) : RepL w g (cutD ds lo hi) (cutV vs lo hi) := by
  unfold cutD cutV
  rw [r.length]
  exact (r.drop _).take _
def rSlD (w : Wd) : V → Option Int → Option Int → Hp → VK → Prop := fun x lo hi H Q => ∃ dc d g S, SimS w g H S ∧ Shown w g H dc x ∧ sliceD lo hi dc = some d ∧ ∀ v g' H', SimS w g' H' S → Fr g H g' H' → Rep w g' d v → Q v H'
theorem ok_sl : SlR X (rSlD (wd X cl)) := by
  intro pins s σ H x v vl vu lo hi sl Q I rx hs pl pu h
  obtain ⟨dc, d, g, S, sim, sh, e, q⟩ := h
  unfold sliceD at e
  split at e
  · cases e
    obtain ⟨a, vs, rfl, h, l⟩ := sh
    refine sl_list pins s σ H _ v vl vu lo hi sl Q I rx hs pl pu ⟨a, vs, rfl, SqL.of h, fun p hp => ?_⟩
    obtain ⟨t, f⟩ := sim.put (u := .lst (cutV vs lo hi)) hp
    exact q _ _ _ t f (rep_lst f.le (cut_rep l lo hi))
  · cases e
    obtain ⟨a, vs, rfl, h, l⟩ := (rep_frl' (w := wd X cl) (g := g)).mp sh
    refine sl_list pins s σ H _ v vl vu lo hi sl Q I rx hs pl pu ⟨a, vs, rfl, sqL_sub sim.sub h, fun p hp => ?_⟩
    obtain ⟨t, f⟩ := sim.put (u := .lst (cutV vs lo hi)) hp
    exact q _ _ _ t f (rep_lst f.le (cut_rep l lo hi))
  · cases e
    have sh' : Rep (wd X cl) g (.tup _) x := sh
    obtain ⟨a, vs, rfl, h, l⟩ := (rep_tup' (w := wd X cl) (g := g)).mp sh
    refine sl_tupA pins s σ H _ v vl vu lo hi sl Q I rx hs pl pu ⟨a, vs, rfl, sqT_sub sim.sub (SqT.of h), fun z => ?_, fun _ p hp => ?_⟩
    · refine q _ g H sim .refl ?_
      have e : ∀ xs : List D, HT.sIx xs.length 0 lo = 0 ∧ HT.sIx xs.length xs.length hi = xs.length → cutD xs lo hi = xs := fun xs ⟨z1, z2⟩ => by
        unfold cutD; rw [z1, z2, List.drop_zero, Nat.sub_zero, List.take_length]
      rw [e _ (by rw [l.length]; exact z)]
      exact sh'
    · obtain ⟨t, f⟩ := sim.put (u := .tup (cutV vs lo hi)) hp
      exact q _ _ _ t f (rep_tup f.le (cut_rep l lo hi))
  · cases e
theorem ge_slice {lo hi : Option Expr} {dl dh : Option EX} {p2 : Pos} (h : GHd cl X a ha) (hl : GO (cl := cl) X lo (oX dl)) (hh : GO (cl := cl) X hi (oX dh)) : GE cl X (.Subscript a (.Slice lo hi none p2) pos) (eSl ha dl dh) := fun W tk =>
  PE.weak (pe_slice (ok_sl (cl := cl)) (h W tk) (hl W tk) (hh W tk)) fun σ H Q ⟨ρ, S, g, sim, c⟩ =>
    Con.go sim c fun v H1 hd S1 g1 e1 s1 f1 r1 c1 => Con.go s1 (den := oX dl) c1 fun u H2 l S2 g2 e2 s2 f2 r2 c2 => Con.go s2 (den := oX dh) c2 fun u' H3 l' S3 g3 e3 s3 f3 r3 c3 => by
      obtain ⟨d, e, c4⟩ := c3.opt
      rw [Option.bind_eq_some_iff] at e
      obtain ⟨dc, e4, e5⟩ := e
      have r2 : l = u := r2
      have r3 : l' = u' := r3
      subst r2 r3
      have r1' : RH (wd X cl) σ g3 H3 hd v := by
        cases hd with
        | d x => exact Rep.mono (f2.trans f3).le r1
        | own i => exact r1
      exact ⟨dc, d, g3, S3, s3.st, shown_of s3 r1' e4, e5, fun z g' H' s f r => c4 z g' H' s f r⟩
end
end GG
end

section
/-! G.H: statements: outcomes, the frame of a def, names set, if, while, return, expressions. -/
set_option linter.all false
set_option maxRecDepth 100000
namespace GG
open PySem L2

/-- a statement's outcome -/
inductive SOut where
  | nx (ρ : LEnv) (S : Store)
  | rt (d : D) (S : Store)
  | bk (ρ : LEnv) (S : Store)
  | ct (ρ : LEnv) (S : Store)
  | ex (c : Str) (fs : List (Str × D)) (ρ : LEnv) (S : Store)
  | stuck
abbrev SX := LEnv → Store → SOut
def SOut.seq (o : SOut) (k : SX) : SOut := match o with
  | .nx ρ S => k ρ S
  | o => o
@[simp] theorem SOut.seq_nx (ρ : LEnv) (S : Store) (k : SX) : (SOut.nx ρ S).seq k = k ρ S := rfl
@[simp] theorem SOut.seq_rt (d : D) (S : Store) (k : SX) : (SOut.rt d S).seq k = .rt d S := rfl
@[simp] theorem SOut.seq_bk (ρ : LEnv) (S : Store) (k : SX) : (SOut.bk ρ S).seq k = .bk ρ S := rfl
@[simp] theorem SOut.seq_ct (ρ : LEnv) (S : Store) (k : SX) : (SOut.ct ρ S).seq k = .ct ρ S := rfl
@[simp] theorem SOut.seq_ex (c : Str) (fs : List (Str × D)) (ρ : LEnv) (S : Store) (k : SX) : (SOut.ex c fs ρ S).seq k = .ex c fs ρ S := rfl
@[simp] theorem SOut.seq_stuck (k : SX) : (SOut.stuck).seq k = .stuck := rfl
/-- an expression within a statement -/
def Out.st {α : Type} (ρ : LEnv) (o : Out (α × Store)) (k : α → Store → SOut) : SOut := match o with
  | .ok p => k p.1 p.2
  | .exc c fs S => .ex c fs ρ S
  | .stuck => .stuck
@[simp] theorem Out.st_ok {α : Type} (ρ : LEnv) (p : α × Store) (k : α → Store → SOut) : (Out.ok p).st ρ k = k p.1 p.2 := rfl
@[simp] theorem Out.st_exc {α : Type} (ρ : LEnv) (c : Str) (fs : List (Str × D)) (S : Store) (k : α → Store → SOut) : (Out.exc c fs S).st ρ k = .ex c fs ρ S := rfl
@[simp] theorem Out.st_stuck {α : Type} (ρ : LEnv) (k : α → Store → SOut) : (Out.stuck).st ρ k = .stuck := rfl

/-- the entry of a def: its ghost, its heap, what was given to it -/
structure Bs where
  g : Gh
  H : Hp
  O : Addr → Prop
  /-- what the slot 0 owns all along -/
  fix : Option Addr
structure Out0 (B : Bs) (g : Gh) (H : Hp) : Prop where
  le : Le B.g g
  out : ∀ a u, B.H a = some u → B.g.F a = none → (∀ j, B.g.m j ≠ some a) → ¬ B.O a → H a = some u ∧ g.F a = none ∧ ∀ j, g.m j ≠ some a
  th : ∀ a u, B.H a = some u → ∃ u', H a = some u'
structure Outr (B : Bs) (g : Gh) (H : Hp) (ρ : LEnv) (σ : St) : Prop where
  o : Out0 B g H
  ow : ∀ (i : Nat) o a, ρ[i]? = some (Slot.own o) → σ[i]? = some (some (V.ref a)) → B.H a = none ∨ B.O a
  fx : ∀ p o, B.fix = some p → ρ[0]? = some (Slot.own o) → σ[0]? = some (some (V.ref p))
theorem Out0.fr {B : Bs} {g g' : Gh} {H H' : Hp} (o : Out0 B g H) (f : Fr g H g' H') : Out0 B g' H' := ⟨o.le.trans f.le, fun a u e1 e2 e3 e4 => by
  obtain ⟨h1, h2, h3⟩ := o.out a u e1 e2 e3 e4
  exact f.out a u h1 h2 h3, fun a u e => by
  obtain ⟨_, h⟩ := o.th a u e
  exact f.th a _ h⟩
theorem Outr.fr {B : Bs} {g g' : Gh} {H H' : Hp} {ρ : LEnv} {σ : St} (o : Outr B g H ρ σ) (f : Fr g H g' H') : Outr B g' H' ρ σ := ⟨o.o.fr f, o.ow, o.fx⟩
theorem Out0.toFr {g g' : Gh} {H H' : Hp} (o : Out0 ⟨g, H, fun _ => False, none⟩ g' H') : Fr g H g' H' := ⟨o.le, fun a u h f m => o.out a u h f m (fun z => z), o.th⟩
theorem Outr.set {B : Bs} {g : Gh} {H : Hp} {ρ : LEnv} {σ : St} (o : Outr B g H ρ σ) (i : Nat) (d : D) (v : Option V) : Outr B g H (ρ.set i (.val d)) (σ.set i v) := ⟨o.o, fun j u a e1 e2 => by
  by_cases hj : i = j
  · subst hj
    by_cases hl : i < ρ.length
    · rw [List.getElem?_set_self hl] at e1; cases e1
    · rw [List.getElem?_eq_none (by simpa using hl)] at e1; cases e1
  · rw [List.getElem?_set_ne hj] at e1 e2
    exact o.ow j u a e1 e2, fun p u e1 e2 => by
  by_cases hj : i = 0
  · subst hj
    by_cases hl : 0 < ρ.length
    · rw [List.getElem?_set_self hl] at e2; cases e2
    · rw [List.getElem?_eq_none (by simpa using hl)] at e2; cases e2
  · rw [List.getElem?_set_ne hj] at e2 ⊢
    exact o.fx p u e1 e2⟩
theorem Sim.set {w : Wd} {g : Gh} {H : Hp} {ρ : LEnv} {σ : St} {S : Store} (s : Sim w g H ρ σ S) (i : Nat) {d : D} {v : V} (r : Rep w g d v) : Sim w g H (ρ.set i (.val d)) (σ.set i (some v)) S where
  st := s.st
  len := by rw [List.length_set, List.length_set]; exact s.len
  val := fun j x e => by
    by_cases hj : i = j
    · subst hj
      by_cases hl : i < ρ.length
      · rw [List.getElem?_set_self hl] at e; cases e
        exact ⟨v, List.getElem?_set_self (by rw [← s.len]; exact hl), r⟩
      · rw [List.getElem?_eq_none (by simpa using hl)] at e; cases e
    · rw [List.getElem?_set_ne hj] at e ⊢
      exact s.val j x e
  own := fun j x e => by
    by_cases hj : i = j
    · subst hj
      by_cases hl : i < ρ.length
      · rw [List.getElem?_set_self hl] at e; cases e
      · rw [List.getElem?_eq_none (by simpa using hl)] at e; cases e
    · rw [List.getElem?_set_ne hj] at e ⊢
      exact s.own j x e
  apart := fun j k o u a e1 e2 e3 e4 => by
    have h1 : i ≠ j := fun z => by
      subst z
      by_cases hl : i < ρ.length
      · rw [List.getElem?_set_self hl] at e1; cases e1
      · rw [List.getElem?_eq_none (by simpa using hl)] at e1; cases e1
    have h2 : i ≠ k := fun z => by
      subst z
      by_cases hl : i < ρ.length
      · rw [List.getElem?_set_self hl] at e2; cases e2
      · rw [List.getElem?_eq_none (by simpa using hl)] at e2; cases e2
    rw [List.getElem?_set_ne h1] at e1 e3
    rw [List.getElem?_set_ne h2] at e2 e4
    exact s.apart j k o u a e1 e2 e3 e4
  xc := fun j e => by
    have h1 : i ≠ j := fun z => by
      subst z
      by_cases hl : i < ρ.length
      · rw [List.getElem?_set_self hl] at e; cases e
      · rw [List.getElem?_eq_none (by simpa using hl)] at e; cases e
    rw [List.getElem?_set_ne h1] at e ⊢
    exact s.xc j e

/-- what is wanted of a statement's outcome -/
def ConS (w : Wd) (W : WX) (B : Bs) (D : Ends) : SOut → Prop
  | .nx ρ S => ∀ σ g H, Sim w g H ρ σ S → Outr B g H ρ σ → D.nx σ H
  | .bk ρ S => ∀ σ g H, Sim w g H ρ σ S → Outr B g H ρ σ → D.bk σ H
  | .ct ρ S => ∀ σ g H, Sim w g H ρ σ S → Outr B g H ρ σ → D.ct σ H
  | .rt d S => ∀ v g H, SimS w g H S → Out0 B g H → Rep w g d v → D.rt v H
  | .ex c fs ρ S => ∀ C d σ g H, Sim w g H ρ σ S → Outr B g H ρ σ → w.mg c = some (.ref C) → XRep w g H d fs → W (.ref C) d σ H
  | .stuck => False
def tS (w : Wd) (W : WX) (den : SX) : TS := fun D σ H => ∃ ρ S g B, Sim w g H ρ σ S ∧ Outr B g H ρ σ ∧ ConS w W B D (den ρ S)
/-- what an expression's outcome wants, from what the statement wants -/
theorem ConS.go {w : Wd} {W : WX} {B : Bs} {D : Ends} {α β : Type} {R : Gh → Hp → α → β → Prop} {ρ : LEnv} {σ : St} {S : Store} {g : Gh} {H : Hp} {den : LEnv → Store → Out (α × Store)} {k : α → Store → SOut} {T : β → Hp → Prop}
    (sim : Sim w g H ρ σ S) (o : Outr B g H ρ σ) (c : ConS w W B D ((den ρ S).st ρ k))
    (h : ∀ b H1 a S1 g1, den ρ S = .ok (a, S1) → Sim w g1 H1 ρ σ S1 → Outr B g1 H1 ρ σ → Fr g H g1 H1 → R g1 H1 a b → ConS w W B D (k a S1) → T b H1) : tX w W R den σ H T := by
  refine ⟨ρ, S, g, sim, ?_⟩
  cases e : den ρ S with
  | ok p =>
    rw [e] at c
    exact fun b g' H' s f r => h b H' p.1 p.2 g' e (sim.fr f s) (o.fr f) f r c
  | exc x fs S' =>
    rw [e] at c
    exact fun C d g' H' s f m x => c C d σ g' H' (sim.fr f s) (o.fr f) m x
  | stuck => rw [e] at c; exact c
theorem Con.opt' {w : Wd} {W : WX} {B : Bs} {D : Ends} {α : Type} {o : Option α} {k : α → SOut} (c : ConS w W B D (match o with | some x => k x | none => .stuck)) : ∃ x, o = some x ∧ ConS w W B D (k x) := by
  cases o with
  | none => exact c.elim
  | some x => exact ⟨x, rfl, c⟩

variable (cl : Wp)
def GS (X : Cx) (s : Stmt) (den : SX) : Prop := ∀ W, Takes X W → PassesOwn (model X.prog X.w) X.A X.env X.xe → PS X s (tS (wd X cl) W den)
def GSs (X : Cx) (s : List Stmt) (den : SX) : Prop := ∀ W, Takes X W → PassesOwn (model X.prog X.w) X.A X.env X.xe → PSs X s (tS (wd X cl) W den)
theorem PS.weak {X : Cx} {e : Stmt} {t t' : TS} (h : PS X e t) (k : ∀ D σ H, t' D σ H → t D σ H) : PS X e t' := ⟨fun pins s σ H Q I q => h.run pins s σ H Q I (k _ _ _ q)⟩
theorem PSs.weak {X : Cx} {e : List Stmt} {t t' : TS} (h : PSs X e t) (k : ∀ D σ H, t' D σ H → t D σ H) : PSs X e t' := ⟨fun pins s σ H Q I q => h.run pins s σ H Q I (k _ _ _ q)⟩
def sNo : SX := fun _ _ => .stuck
def sNil : SX := fun ρ S => .nx ρ S
def sSeq (a b : SX) : SX := fun ρ S => (a ρ S).seq b
def sExpr (e : EX) : SX := fun ρ S => (e ρ S).st ρ fun _ S => .nx ρ S
def sRet (e : EX) : SX := fun ρ S => (e ρ S).st ρ fun d S => .rt d S
def sRetN : SX := fun _ S => .rt .non S
def sIf (c : BX) (a b : SX) : SX := fun ρ S => (c ρ S).st ρ fun k S => if k then a ρ S else b ρ S
def sBrk : SX := fun ρ S => .bk ρ S
def sCnt : SX := fun ρ S => .ct ρ S
def sSet (i : Nat) (e : EX) : SX := fun ρ S => (e ρ S).st ρ fun d S => .nx (ρ.set i (.val d)) S
section
variable {cl} {X : Cx} {a b c e : Expr} {es : List Expr} {da db dc : EX} {ta tb : BX} {pos : Pos} {st : Stmt} {ss ss' : List Stmt} {p q : SX}
theorem gs_no : GS cl X st sNo := fun W tk hp => PS.weak ps_never fun D σ H ⟨ρ, S, g, B, sim, o, c⟩ => c.elim
theorem gss_no : GSs cl X ss sNo := fun W tk hp => PSs.weak pss_never fun D σ H ⟨ρ, S, g, B, sim, o, c⟩ => c.elim
theorem gss_nil : GSs cl X [] sNil := fun W tk hp => PSs.weak pss_nil fun D σ H ⟨ρ, S, g, B, sim, o, c⟩ => c σ g H sim o
theorem gss_one (h : GS cl X st p) : GSs cl X [st] p := fun W tk hp => pss_one (h W tk hp)
theorem gss_cons (h : GS cl X st p) (hr : GSs cl X ss q) : GSs cl X (st :: ss) (sSeq p q) := fun W tk hp => PSs.weak (pss_cons (h W tk hp) (hr W tk hp)) fun D σ H ⟨ρ, S, g, B, sim, o, c⟩ => by
  refine ⟨ρ, S, g, B, sim, o, ?_⟩
  unfold sSeq at c
  cases e : p ρ S with
  | nx ρ' S' => rw [e] at c; exact fun σ g H s o => ⟨ρ', S', g, B, s, o, c⟩
  | _ => rw [e] at c; exact c
theorem gs_expr (h : GE cl X e da) (hs : swapsWith e none pos.line X.env = pure false) : GS cl X (.Expr e pos) (sExpr da) := fun W tk hp =>
  PS.weak (ps_expr (h W tk) hs) fun D σ H ⟨ρ, S, g, B, sim, o, c⟩ => ConS.go sim o c fun v H1 d S1 g1 e1 s1 o1 f1 r1 c1 => c1 σ g1 H1 s1 o1
theorem gs_doc {x : Str} {j : Nat} {p' : Pos} : GS cl X (.Expr (.Constant (.str x) j p') pos) sNil := fun W tk hp => PS.weak ps_doc fun D σ H ⟨ρ, S, g, B, sim, o, c⟩ => c σ g H sim o
theorem gs_pass : GS cl X (.Pass pos) sNil := fun W tk hp => PS.weak ps_pass fun D σ H ⟨ρ, S, g, B, sim, o, c⟩ => c σ g H sim o
theorem gs_brk : GS cl X (.Break pos) sBrk := fun W tk hp => PS.weak ps_break fun D σ H ⟨ρ, S, g, B, sim, o, c⟩ => c σ g H sim o
theorem gs_cnt : GS cl X (.Continue pos) sCnt := fun W tk hp => PS.weak ps_continue fun D σ H ⟨ρ, S, g, B, sim, o, c⟩ => c σ g H sim o
theorem gs_ret (h : GE cl X e da) : GS cl X (.Return (some e) pos) (sRet da) := fun W tk hp =>
  PS.weak (ps_ret (h W tk)) fun D σ H ⟨ρ, S, g, B, sim, o, c⟩ => ConS.go sim o c fun v H1 d S1 g1 e1 s1 o1 f1 r1 c1 => c1 v g1 H1 s1.st o1.o r1
theorem gs_retN : GS cl X (.Return none pos) sRetN := fun W tk hp => PS.weak ps_retN fun D σ H ⟨ρ, S, g, B, sim, o, c⟩ => c .non g H sim.st o.o (rep_non.mpr rfl)
theorem gs_if (hc : GT cl X c ta) (ha : GSs cl X ss p) (hb : GSs cl X ss' q) : GS cl X (.If c ss ss' pos) (sIf ta p q) := fun W tk hp =>
  PS.weak (ps_if (hc W tk) (ha W tk hp) (hb W tk hp)) fun D σ H ⟨ρ, S, g, B, sim, o, c⟩ => ConS.go sim o c fun k H1 k' S1 g1 e1 s1 o1 f1 r1 c1 => by
    have r1 : k' = k := r1
    subst r1
    cases k' with
    | true => exact ⟨ρ, S1, g1, B, s1, o1, c1⟩
    | false => exact ⟨ρ, S1, g1, B, s1, o1, c1⟩
theorem gs_set {i : Nat} {x : Str} {p' : Pos} (hN : X.N.Nodup) (hi : X.N[i]? = some x) (hx : Loc X.env.scope x) (h : GE cl X e da) (hs : swapsWith e (some (.Name x p')) pos.line X.env = pure false)
    (hf : X.fn x = true ∨ X.env.scope.names.lookup x = some .local) : GS cl X (.Assign [.Name x p'] e pos) (sSet i da) := fun W tk hp =>
  PS.weak (ps_set hN hi hx (h W tk) hs hf) fun D σ H ⟨ρ, S, g, B, sim, o, c⟩ => ConS.go sim o c fun v H1 d S1 g1 e1 s1 o1 f1 r1 c1 => c1 _ g1 H1 (s1.set i r1) (o1.set i d (some v))
end

/-! ### while -/
def SOut.loop (o : SOut) (k : SX) : SOut := match o with
  | .nx ρ S => k ρ S
  | .ct ρ S => k ρ S
  | .bk ρ S => .nx ρ S
  | o => o
@[simp] theorem SOut.loop_nx (ρ : LEnv) (S : Store) (k : SX) : (SOut.nx ρ S).loop k = k ρ S := rfl
@[simp] theorem SOut.loop_ct (ρ : LEnv) (S : Store) (k : SX) : (SOut.ct ρ S).loop k = k ρ S := rfl
@[simp] theorem SOut.loop_bk (ρ : LEnv) (S : Store) (k : SX) : (SOut.bk ρ S).loop k = .nx ρ S := rfl
@[simp] theorem SOut.loop_rt (d : D) (S : Store) (k : SX) : (SOut.rt d S).loop k = .rt d S := rfl
@[simp] theorem SOut.loop_ex (c : Str) (fs : List (Str × D)) (ρ : LEnv) (S : Store) (k : SX) : (SOut.ex c fs ρ S).loop k = .ex c fs ρ S := rfl
@[simp] theorem SOut.loop_stuck (k : SX) : (SOut.stuck).loop k = .stuck := rfl
def whileN (c : BX) (body : SX) : Nat → SX
  | 0 => fun _ _ => .stuck
  | n + 1 => fun ρ S => (c ρ S).st ρ fun k S => if k then (body ρ S).loop (whileN c body n) else .nx ρ S
theorem whileN_s {c : BX} {body : SX} {n : Nat} {ρ : LEnv} {S : Store} : whileN c body (n + 1) ρ S = (c ρ S).st ρ fun k S => if k then (body ρ S).loop (whileN c body n) else .nx ρ S := rfl
theorem whileN_up {c : BX} {body : SX} : ∀ {n : Nat} {ρ : LEnv} {S : Store}, whileN c body n ρ S ≠ .stuck → whileN c body (n + 1) ρ S = whileN c body n ρ S
  | 0, _, _, h => absurd rfl h
  | n + 1, ρ, S, h => by
    show (c ρ S).st ρ (fun k S => if k then (body ρ S).loop (whileN c body (n + 1)) else .nx ρ S) = (c ρ S).st ρ (fun k S => if k then (body ρ S).loop (whileN c body n) else .nx ρ S)
    have h : (c ρ S).st ρ (fun k S => if k then (body ρ S).loop (whileN c body n) else .nx ρ S) ≠ .stuck := h
    cases e : c ρ S with
    | ok p =>
      rw [e] at h
      simp only [Out.st_ok] at h ⊢
      split
      · rename_i hk
        rw [if_pos hk] at h
        cases e2 : body ρ p.2 with
        | nx ρ' S' => rw [e2] at h; exact whileN_up h
        | ct ρ' S' => rw [e2] at h; exact whileN_up h
        | _ => rfl
      · rfl
    | _ => rfl
theorem whileN_le {c : BX} {body : SX} {n m : Nat} {ρ : LEnv} {S : Store} (h : whileN c body n ρ S ≠ .stuck) (l : n ≤ m) : whileN c body m ρ S = whileN c body n ρ S := by
  induction l with
  | refl => rfl
  | step _ ih => rw [whileN_up (by rw [ih]; exact h), ih]
open Classical in
noncomputable def sWhile (c : BX) (body : SX) : SX := fun ρ S => if h : ∃ n, whileN c body n ρ S ≠ .stuck then whileN c body (choose h) ρ S else .stuck
theorem sWhile_of {c : BX} {body : SX} {n : Nat} {ρ : LEnv} {S : Store} (h : whileN c body n ρ S ≠ .stuck) : sWhile c body ρ S = whileN c body n ρ S := by
  have hh : ∃ n, whileN c body n ρ S ≠ .stuck := ⟨n, h⟩
  unfold sWhile
  rw [dif_pos hh]
  have h1 := Classical.choose_spec hh
  rcases Nat.le_total n (Classical.choose hh) with l | l
  · exact whileN_le h l
  · exact (whileN_le h1 l).symm
theorem sWhile_ex {c : BX} {body : SX} {ρ : LEnv} {S : Store} (h : sWhile c body ρ S ≠ .stuck) : ∃ n, sWhile c body ρ S = whileN c body n ρ S := by
  unfold sWhile at h ⊢
  split at h
  · rename_i hh
    rw [dif_pos hh]
    exact ⟨_, rfl⟩
  · exact absurd rfl h
/-- the loop's one turn -/
theorem sWhile_eq (c : BX) (body : SX) (ρ : LEnv) (S : Store) : sWhile c body ρ S = (c ρ S).st ρ fun k S => if k then (body ρ S).loop (sWhile c body) else .nx ρ S := by
  have key : ∀ r : SOut, r ≠ .stuck → ((∃ n, whileN c body n ρ S = r) ↔ ((c ρ S).st ρ fun k S => if k then (body ρ S).loop (sWhile c body) else .nx ρ S) = r) := by
    intro r hr
    have one : ∀ ρ' S', (∃ n, whileN c body n ρ' S' = r) ↔ sWhile c body ρ' S' = r := fun ρ' S' => ⟨fun ⟨n, e⟩ => by rw [sWhile_of (n := n) (by rw [e]; exact hr), e], fun e => by
      obtain ⟨n, h⟩ := sWhile_ex (c := c) (body := body) (ρ := ρ') (S := S') (by rw [e]; exact hr)
      exact ⟨n, h.symm.trans e⟩⟩
    cases e : c ρ S with
    | ok p =>
      simp only [Out.st_ok]
      by_cases hk : p.1 = true
      · have step : ∀ n, whileN c body (n + 1) ρ S = (body ρ p.2).loop (whileN c body n) := fun n => by
          rw [whileN_s, e]; simp only [Out.st_ok]; rw [if_pos hk]
        rw [if_pos hk]
        have pre : (∃ n, whileN c body n ρ S = r) ↔ ∃ n, (body ρ p.2).loop (whileN c body n) = r := ⟨fun ⟨n, h⟩ => by
          cases n with
          | zero => exact absurd h.symm hr
          | succ n => exact ⟨n, by rw [← step]; exact h⟩, fun ⟨n, h⟩ => ⟨n + 1, by rw [step]; exact h⟩⟩
        rw [pre]
        cases e2 : body ρ p.2 with
        | nx ρ' S' => exact one ρ' S'
        | ct ρ' S' => exact one ρ' S'
        | bk ρ' S' => exact ⟨fun ⟨_, h⟩ => h, fun h => ⟨0, h⟩⟩
        | rt d S' => exact ⟨fun ⟨_, h⟩ => h, fun h => ⟨0, h⟩⟩
        | ex x fs ρ' S' => exact ⟨fun ⟨_, h⟩ => h, fun h => ⟨0, h⟩⟩
        | stuck => exact ⟨fun ⟨_, h⟩ => h, fun h => ⟨0, h⟩⟩
      · rw [if_neg hk]
        refine ⟨fun ⟨n, h⟩ => ?_, fun h => ⟨1, ?_⟩⟩
        · cases n with
          | zero => exact absurd h.symm hr
          | succ n =>
            have h : (c ρ S).st ρ (fun k S => if k then (body ρ S).loop (whileN c body n) else .nx ρ S) = r := h
            rw [e] at h; simp only [Out.st_ok] at h; rw [if_neg hk] at h; exact h
        · show (c ρ S).st ρ (fun k S => if k then (body ρ S).loop (whileN c body 0) else .nx ρ S) = r
          rw [e]; simp only [Out.st_ok]; rw [if_neg hk]; exact h
    | exc x fs S' =>
      refine ⟨fun ⟨n, h⟩ => ?_, fun h => ⟨1, ?_⟩⟩
      · cases n with
        | zero => exact absurd h.symm hr
        | succ n =>
          have h : (c ρ S).st ρ (fun k S => if k then (body ρ S).loop (whileN c body n) else .nx ρ S) = r := h
          rw [e] at h; exact h
      · show (c ρ S).st ρ (fun k S => if k then (body ρ S).loop (whileN c body 0) else .nx ρ S) = r
        rw [e]; exact h
    | stuck =>
      refine ⟨fun ⟨n, h⟩ => ?_, fun h => absurd h.symm hr⟩
      cases n with
      | zero => exact absurd h.symm hr
      | succ n =>
        have h : (c ρ S).st ρ (fun k S => if k then (body ρ S).loop (whileN c body n) else .nx ρ S) = r := h
        rw [e] at h; exact absurd h.symm hr
  by_cases h1 : ((c ρ S).st ρ fun k S => if k then (body ρ S).loop (sWhile c body) else .nx ρ S) = .stuck
  · rw [h1]
    by_cases h2 : sWhile c body ρ S = .stuck
    · exact h2
    · obtain ⟨n, h3⟩ := sWhile_ex h2
      have := (key _ h2).mp ⟨n, h3.symm⟩
      rw [h1] at this; exact this.symm
  · obtain ⟨n, h⟩ := (key _ h1).mpr rfl
    rw [sWhile_of (n := n) (by rw [h]; exact h1), h]
theorem gs_while {cl : Wp} {X : Cx} {c : Expr} {ss : List Stmt} {pos : Pos} {tc : BX} {p : SX} (hc : GT cl X c tc) (hb : GSs cl X ss p) : GS cl X (.While c ss [] pos) (sWhile tc p) := fun W tk hp =>
  PS.weak (ps_while hp (hc W tk) (hb W tk hp)) fun D σ H ⟨ρ, S, g, B, sim, o, cs⟩ => by
    refine ⟨fun m σ H => ∃ ρ S g, Sim (wd X cl) g H ρ σ S ∧ Outr B g H ρ σ ∧ ConS (wd X cl) W B D (whileN tc p m ρ S), ?_, ?_⟩
    · have ns : sWhile tc p ρ S ≠ .stuck := fun z => by rw [z] at cs; exact cs
      obtain ⟨n, e⟩ := sWhile_ex ns
      rw [e] at cs
      exact ⟨n, ρ, S, g, sim, o, cs⟩
    · rintro m σ H ⟨ρ, S, g, sim, o, cs⟩
      cases m with
      | zero => exact cs.elim
      | succ m =>
        rw [whileN_s] at cs
        refine ConS.go sim o cs fun k H1 k' S1 g1 e1 s1 o1 f1 r1 c1 => ?_
        have r1 : k' = k := r1
        subst r1
        cases k' with
        | true =>
          rw [if_pos rfl] at c1 ⊢
          refine ⟨fun σ H => ∃ ρ S g, Sim (wd X cl) g H ρ σ S ∧ Outr B g H ρ σ ∧ ConS (wd X cl) W B D (whileN tc p m ρ S), fun σ' H' h => ⟨m, Nat.lt_succ_self m, h⟩, ρ, S1, g1, B, s1, o1, ?_⟩
          cases e2 : p ρ S1 with
          | nx ρ' S' => rw [e2] at c1; exact fun σ g H s o => ⟨ρ', S', g, s, o, c1⟩
          | ct ρ' S' => rw [e2] at c1; exact fun σ g H s o => ⟨ρ', S', g, s, o, c1⟩
          | _ => rw [e2] at c1; exact c1
        | false =>
          rw [if_neg Bool.false_ne_true] at c1 ⊢
          exact c1 σ g1 H1 s1 o1
end GG
end

section
/-! G.I: targets, what a loop walks, for. -/
set_option linter.all false
set_option maxRecDepth 100000
namespace GG
open PySem L2
open PyProof.Rows hiding St

/-! ### targets -/
abbrev NX := D → LEnv → Option LEnv
def gN (i : Nat) : NX := fun d ρ => some (ρ.set i (.val d))
def gAll : List NX → List D → LEnv → Option LEnv
  | [], [], ρ => some ρ
  | n :: ns, d :: ds, ρ => (n d ρ).bind (gAll ns ds)
  | _, _, _ => none
def gT (ns : List NX) : NX := fun d ρ => match d with
  | .tup ds => gAll ns ds ρ
  | .ktp ds => gAll ns ds ρ
  | _ => none
def gL (ns : List NX) : NX := fun d ρ => match d with
  | .lst ds => gAll ns ds ρ
  | .frl ds => gAll ns ds ρ
  | _ => none
/-- what a target's store keeps -/
structure Kept (vs : List Nat) (ρ ρ' : LEnv) (σ σ' : St) : Prop where
  len : σ'.length = σ.length
  out : ∀ i, i ∉ vs → σ'[i]? = σ[i]?
  own : ∀ (i : Nat) o, ρ'[i]? = some (Slot.own o) → ρ[i]? = some (Slot.own o) ∧ σ'[i]? = σ[i]?
theorem Kept.refl {vs : List Nat} {ρ : LEnv} {σ : St} : Kept vs ρ ρ σ σ := ⟨rfl, fun _ _ => rfl, fun _ _ h => ⟨h, rfl⟩⟩
theorem Kept.trans {vs us : List Nat} {ρ ρ1 ρ2 : LEnv} {σ σ1 σ2 : St} (a : Kept vs ρ ρ1 σ σ1) (b : Kept us ρ1 ρ2 σ1 σ2) : Kept (vs ++ us) ρ ρ2 σ σ2 :=
  ⟨b.len.trans a.len, fun i h => by
    rw [List.mem_append, not_or] at h
    exact (b.out i h.2).trans (a.out i h.1), fun i o h => by
    obtain ⟨h1, h2⟩ := b.own i o h
    obtain ⟨h3, h4⟩ := a.own i o h1
    exact ⟨h3, h2.trans h4⟩⟩
theorem Kept.outr {B : Bs} {g : Gh} {H : Hp} {vs : List Nat} {ρ ρ' : LEnv} {σ σ' : St} (k : Kept vs ρ ρ' σ σ') (o : Outr B g H ρ σ) : Outr B g H ρ' σ' := ⟨o.o, fun i u a e1 e2 => by
  obtain ⟨h1, h2⟩ := k.own i u e1
  exact o.ow i u a h1 (h2 ▸ e2), fun p u e1 e2 => by
  obtain ⟨h1, h2⟩ := k.own 0 u e2
  rw [h2]; exact o.fx p u e1 h1⟩
theorem wipe_get {σ : St} {i : Nat} : ∀ {vs : List Nat}, (wipe σ vs)[i]? = if i ∈ vs ∧ i < σ.length then some none else σ[i]?
  | [] => by simp [wipe]
  | v :: vs => by
    unfold wipe
    by_cases h : v = i
    · subst h
      by_cases hl : v < σ.length
      · rw [List.getElem?_set_self (by rw [wipe_length]; exact hl), if_pos ⟨List.mem_cons_self, hl⟩]
      · rw [List.getElem?_eq_none (by rw [List.length_set, wipe_length]; omega), if_neg (fun z => hl z.2), List.getElem?_eq_none (by omega)]
    · rw [List.getElem?_set_ne h, wipe_get (vs := vs)]
      by_cases hm : i ∈ vs ∧ i < σ.length
      · rw [if_pos hm, if_pos ⟨List.mem_cons_of_mem _ hm.1, hm.2⟩]
      · rw [if_neg hm, if_neg (fun z => hm ⟨(List.mem_cons.mp z.1).resolve_left (fun q => h q.symm), z.2⟩)]
theorem Kept.wipe {vs ws : List Nat} {ρ ρ' : LEnv} {σ σ' : St} (k : Kept vs ρ ρ' σ σ') (h : ∀ i ∈ vs, i ∈ ws) : L2.wipe σ' ws = L2.wipe σ ws := by
  apply List.ext_getElem?
  intro i
  rw [wipe_get, wipe_get, k.len]
  by_cases hm : i ∈ ws ∧ i < σ.length
  · rw [if_pos hm, if_pos hm]
  · rw [if_neg hm, if_neg hm]
    by_cases hl : i < σ.length
    · exact k.out i fun z => hm ⟨h i z, hl⟩
    · rw [List.getElem?_eq_none (by rw [k.len]; omega), List.getElem?_eq_none (by omega)]
def rN (w : Wd) (vs : List Nat) (den : NX) : TG := fun v σ H Q => ∃ d ρ S g ρ', Sim w g H ρ σ S ∧ Rep w g d v ∧ den d ρ = some ρ' ∧ ∀ σ', Sim w g H ρ' σ' S → Kept vs ρ ρ' σ σ' → Q σ' H
def rNs (w : Wd) (vs : List Nat) (dens : List NX) : TGs := fun us σ H Q => ∃ ds ρ S g ρ', Sim w g H ρ σ S ∧ RepL w g ds us ∧ gAll dens ds ρ = some ρ' ∧ ∀ σ', Sim w g H ρ' σ' S → Kept vs ρ ρ' σ σ' → Q σ' H
variable (cl : Wp)
def GN (X : Cx) (vs : List Nat) (tg : Expr) (den : NX) : Prop := PG X tg (rN (wd X cl) vs den)
def GNs (X : Cx) (vs : List Nat) (tg : List Expr) (dens : List NX) : Prop := PGs X tg (rNs (wd X cl) vs dens)
theorem PG.weak {X : Cx} {e : Expr} {t t' : TG} (h : PG X e t) (k : ∀ v σ H Q, t' v σ H Q → t v σ H Q) : PG X e t' := ⟨fun pins s σ H v u Q I r q => h.run pins s σ H v u Q I r (k _ _ _ _ q)⟩
theorem PGs.weak {X : Cx} {e : List Expr} {t t' : TGs} (h : PGs X e t) (k : ∀ v σ H Q, t' v σ H Q → t v σ H Q) : PGs X e t' := ⟨fun pins s σ H v u Q I r q => h.run pins s σ H v u Q I r (k _ _ _ _ q)⟩
section
variable {cl} {X : Cx} {pos : Pos} {e : Expr} {es : List Expr} {vs us : List Nat} {n : NX} {ns : List NX}
theorem gn_name {i : Nat} {x : Str} (hN : X.N.Nodup) (hi : X.N[i]? = some x) (hx : Loc X.env.scope x) (hf : X.fn x = true ∨ X.env.scope.names.lookup x = some .local) : GN cl X [i] (.Name x pos) (gN i) :=
  PG.weak (pg_name hN hi hx hf) fun v σ H Q ⟨d, ρ, S, g, ρ', sim, r, e, k⟩ => by
    cases e
    refine k _ (sim.set i r) ⟨by simp, fun j h => List.getElem?_set_ne fun z => h (by simp [z]), fun j o e => ?_⟩
    have hj : i ≠ j := fun z => by
      subst z
      by_cases hl : i < ρ.length
      · rw [List.getElem?_set_self hl] at e; cases e
      · rw [List.getElem?_eq_none (by simpa using hl)] at e; cases e
    rw [List.getElem?_set_ne hj] at e ⊢
    exact ⟨e, rfl⟩
theorem gns_nil : GNs cl X [] [] [] := PGs.weak pgs_nil fun v σ H Q ⟨ds, ρ, S, g, ρ', sim, r, e, k⟩ => by
  cases ds with
  | nil => cases e; exact ⟨r.cases0, k σ sim .refl⟩
  | cons d ds => cases e
theorem gns_cons (h : GN cl X vs e n) (hr : GNs cl X us es ns) (hs : (assignEach (e :: es) X.env).map (·.2) = assign e X.env :: (assignEach es X.env).map (·.2)) : GNs cl X (vs ++ us) (e :: es) (n :: ns) :=
  PGs.weak (pgs_cons h hr hs) fun v σ H Q ⟨ds, ρ, S, g, ρ', sim, r, e, k⟩ => by
    cases ds with
    | nil => cases e
    | cons d ds =>
      obtain ⟨v1, vr, rfl, q1, q2⟩ := r.cases
      have e : (n d ρ).bind (gAll ns ds) = some ρ' := e
      rw [Option.bind_eq_some_iff] at e
      obtain ⟨ρ1, e1, e2⟩ := e
      exact ⟨v1, vr, rfl, d, ρ, S, g, ρ1, sim, q1, e1, fun σ1 s1 k1 => ⟨ds, ρ1, S, g, ρ', s1, q2, e2, fun σ2 s2 k2 => k σ2 s2 (k1.trans k2)⟩⟩
theorem gAll_len : ∀ {ns : List NX} {ds : List D} {ρ ρ' : LEnv}, gAll ns ds ρ = some ρ' → ds.length = ns.length
  | [], [], _, _, _ => rfl
  | [], _ :: _, _, _, e => by cases e
  | _ :: _, [], _, _, e => by cases e
  | n :: ns, d :: ds, ρ, ρ', e => by
    have e : (n d ρ).bind (gAll ns ds) = some ρ' := e
    rw [Option.bind_eq_some_iff] at e
    obtain ⟨ρ1, _, e2⟩ := e
    simp [gAll_len e2]
theorem gn_tup {k : Nat} (hc : X.calm = true) (h : GNs cl X vs es ns) (hn : (assignEach es X.env).length = ns.length) (hst : (assignEach es X.env).findIdx? (·.1) = none) : GN cl X vs (.Tuple es k pos) (gT ns) :=
  PG.weak (pg_tup hc h hn hst) fun v σ H Q ⟨d, ρ, S, g, ρ', sim, r, e, k⟩ => by
    have key : ∀ ds, (∃ a vs, v = .ref a ∧ SqT X.K g.F a vs ∧ RepL (wd X cl) g ds vs) → gAll ns ds ρ = some ρ' → L2.gTup X.K ns.length (rNs (wd X cl) vs ns) v σ H Q := fun ds ⟨a, vs, ev, q, l⟩ e =>
      ⟨a, vs, ev, sqT_sub sim.st.sub q, by rw [← l.length]; exact gAll_len e, ds, ρ, S, g, ρ', sim, l, e, k⟩
    cases d with
    | tup ds =>
      rw [rep_tup'] at r
      obtain ⟨a, vs, ev, q, l⟩ := r
      exact key ds ⟨a, vs, ev, SqT.of q, l⟩ e
    | ktp ds =>
      rw [rep_ktp'] at r
      exact key ds r e
    | _ => cases e
theorem gn_lst {k : Nat} (hc : X.calm = true) (h : GNs cl X vs es ns) (hn : (assignEach es X.env).length = ns.length) (hst : (assignEach es X.env).findIdx? (·.1) = none) : GN cl X vs (.Tuple es k pos) (gL ns) :=
  PG.weak (pg_lst hc h hn hst) fun v σ H Q ⟨d, ρ, S, g, ρ', sim, r, e, k⟩ => by
    have key : ∀ ds, (∃ a vs, v = .ref a ∧ SqL X.K g.F a vs ∧ RepL (wd X cl) g ds vs) → gAll ns ds ρ = some ρ' → L2.gLst X.K ns.length (rNs (wd X cl) vs ns) v σ H Q := fun ds ⟨a, vs, ev, q, l⟩ e =>
      ⟨a, vs, ev, sqL_sub sim.st.sub q, by rw [← l.length]; exact gAll_len e, ds, ρ, S, g, ρ', sim, l, e, k⟩
    cases d with
    | lst ds =>
      rw [rep_lst'] at r
      obtain ⟨a, vs, ev, q, l⟩ := r
      exact key ds ⟨a, vs, ev, SqL.of q, l⟩ e
    | frl ds =>
      rw [rep_frl'] at r
      exact key ds r e
    | _ => cases e
end

/-! ### what is walked -/
abbrev IX := LEnv → Store → Out (List D × Store)
structure ItD (w : Wd) (g : Gh) (items : List D) (J : It) : Prop where
  sz : items.length ≤ sizeLine
  go : ∀ (g1 : Gh) (H1 : Hp) (S1 : Store), Le g g1 → SimS w g1 H1 S1 → ∀ i, i < items.length → J.go i H1 ∧ ∀ x H', J.yld i H1 x H' → ∃ g2 d, items[i]? = some d ∧ Rep w g2 d x ∧ SimS w g2 H' S1 ∧ GG.Fr g1 H1 g2 H'
  done : ∀ (g1 : Gh) (H1 : Hp) (S1 : Store), Le g g1 → SimS w g1 H1 S1 → J.stop items.length H1
def RI (w : Wd) : Gh → Hp → List D → It → Prop := fun g _ items J => ItD w g items J
def GI (X : Cx) (tg iter : Expr) (den : IX) : Prop := ∀ W, Takes X W → PI X tg iter (tX (wd X cl) W (RI (wd X cl)) den)
theorem PI.weak {X : Cx} {tg e : Expr} {t t' : TI} (h : PI X tg e t) (k : ∀ σ H Q, t' σ H Q → t σ H Q) : PI X tg e t' := ⟨fun pins s σ H Q I q => h.run pins s σ H Q I (k _ _ _ q)⟩

/-- a list or a tuple in the heap -/
inductive Sq where
  | L (a : Addr)
  | T (a : Addr)
def Sq.is (K : PySem.W.Frag) (H : Hp) : Sq → List V → Prop
  | .L a, xs => SqL K H a xs
  | .T a, xs => SqT K H a xs
def Sq.v : Sq → Value
  | .L a => .ref a
  | .T a => .ref a
def Sq.a : Sq → Addr
  | .L a => a
  | .T a => a
def Sq.arr (h : Heap) : Sq → Array Value → Prop
  | .L a, xs => h.IsList a xs
  | .T a, xs => h.IsTuple a xs
def Sq.it (h : Heap) (b : Addr) (i : Nat) : Sq → Prop
  | .L a => h.IsListIter b a i
  | .T a => h.IsTupleIter b a i
def Sq.o : Sq → Obj
  | .L a => { cls := .type "list_iterator", data := .fields #[.ref a, .int 0 0] }
  | .T a => { cls := .type "tuple_iterator", data := .fields #[.ref a, .int 0 0] }
theorem Sq.begins : ∀ (q : Sq) (xs : Array Value), PySem.Begins q.v q.o fun h => q.arr h xs
  | .L a, xs => PySem.begins_list a xs
  | .T a, xs => PySem.begins_tuple a xs
theorem Sq.draws {prog : Program} {w : World} {A : Around} (hh : A.handled = none) (b : Addr) : ∀ (q : Sq) (_ : q.a ≠ b) (xs : Array Value), Draws prog w A b [b, q.a] xs.size (fun i v => xs[i]? = some v) (fun i h => q.it h b i ∧ q.arr h xs)
  | .L a, n, xs => Draws.list hh b a n xs
  | .T a, n, xs => PySem.Draws.tuple hh b a n xs
theorem Sq.it_at {h h' : Heap} {b : Addr} {i : Nat} : ∀ {q : Sq}, q.it h b i → (∀ o, h.get? b = some o → h'.get? b = some o) → q.it h' b i
  | .L _, x, e => x.at e
  | .T _, x, e => x.at e
theorem Sq.it_obj {h : Heap} {b : Addr} {i : Nat} : ∀ {q : Sq}, q.it h b i → ∃ o vs, h.get? b = some o ∧ o.data = .fields vs
  | .L _, ⟨o, e, _, d⟩ => ⟨o, _, e, d⟩
  | .T _, ⟨o, e, _, d⟩ => ⟨o, _, e, d⟩
theorem Sq.it_new {h : Heap} {b : Addr} : ∀ {q : Sq}, h.get? b = some q.o → q.it h b 0
  | .L _, e => ⟨_, e, rfl, rfl⟩
  | .T _, e => ⟨_, e, rfl, rfl⟩
theorem Sq.get {X : Cx} {pins : List (Addr × Obj)} {σ : St} {H : Hp} {s : Shared} (I : Inv X pins σ H s) : ∀ {q : Sq} {xs : List V}, q.is X.K H xs → ∃ its : List Value, Vals xs its ∧ q.arr s.heap its.toArray ∧ xs.length ≤ sizeLine ∧ q.a < s.heap.objs.size
  | .L a, xs, h => by
    obtain ⟨its, rv, p, z⟩ := I.list h
    exact ⟨its, rv, p.isList, z, p.lt⟩
  | .T a, xs, h => by
    obtain ⟨its, rv, p, z⟩ := I.tuple h
    exact ⟨its, rv, p, z, p.lt⟩
def seqD : D → Option (List D)
  | .lst xs => some xs
  | .frl xs => some xs
  | .tup xs => some xs
  | .ktp xs => some xs
  | _ => none
theorem Sq.rep {w : Wd} {g : Gh} {d : D} {v : V} {ds : List D} (r : Rep w g d v) (e : seqD d = some ds) : ∃ q : Sq, ∃ vs, (∀ u, RelV v u → u = q.v) ∧ RepL w g ds vs ∧ ∀ g1 H1 S1, Le g g1 → SimS w g1 H1 S1 → q.is w.K H1 vs := by
  cases d <;> first | (cases e; done) | skip
  · cases e
    rw [rep_tup'] at r
    obtain ⟨a, vs, rfl, q, l⟩ := r
    exact ⟨.T a, vs, fun u h => h, l, fun g1 H1 S1 le s => sqT_sub s.sub (SqT.of (le.F _ _ q))⟩
  · cases e
    rw [rep_lst'] at r
    obtain ⟨a, vs, rfl, q, l⟩ := r
    exact ⟨.L a, vs, fun u h => h, l, fun g1 H1 S1 le s => sqL_sub s.sub (SqL.of (le.F _ _ q))⟩
  · cases e
    rw [rep_ktp'] at r
    obtain ⟨a, vs, rfl, q, l⟩ := r
    exact ⟨.T a, vs, fun u h => h, l, fun g1 H1 S1 le s => sqT_sub s.sub (sqT_mono le.F q)⟩
  · cases e
    rw [rep_frl'] at r
    obtain ⟨a, vs, rfl, q, l⟩ := r
    exact ⟨.L a, vs, fun u h => h, l, fun g1 H1 S1 le s => sqL_sub s.sub (sqL_mono le.F q)⟩
end GG
end

section
/-! G.I2: the walks: lists, tuples, texts, ranges, enumerate, zip. -/
set_option linter.all false
set_option maxRecDepth 100000
namespace GG
open PySem L2
open PyProof.Rows hiding St

/-! ### tuples that a walk makes -/
def ItT (K : PySem.W.Frag) (srcs : List (Sq × List V)) (n : Nat) (row : Nat → List V) : It :=
  ⟨fun i H => (∀ p ∈ srcs, p.1.is K H p.2) ∧ i < n, fun i H x H' => ∃ T, x = .ref T ∧ H T = none ∧ H' = upd H T (.tup (row i)), fun i H => (∀ p ∈ srcs, p.1.is K H p.2) ∧ i = n⟩
theorem turn_T {P : Program} {w : World} {K : PySem.W.Frag} {tg : Expr} {srcs : List (Sq × List V)} {n : Nat} {row : Nat → List V} {fp : List Addr} {it : Addr} {tn : Nat → Heap → Prop} (mem : it ∈ fp)
    (obj : ∀ i h, tn i h → ∀ b ∈ fp, ∃ o, h.get? b = some o ∧ ∀ v, o.data ≠ .cell v) (keep : ∀ i h h', tn i h → (∀ b ∈ fp, ∀ o, h.get? b = some o → h'.get? b = some o) → tn i h') (len : ∀ i, (row i).length ≤ sizeLine)
    (self : ∀ (A : Around) (i : Nat) (s : Shared) (Q : Value → Shared → Prop) (E : Value → Shared → Prop), tn i s.heap → Q (.ref it) s → wpAny (model P w) A (pyIter (.ref it)) Q E s)
    (core : ∀ (X : Cx) (pins : List (Addr × Obj)) (σ : L2.St) (H : Hp) (s : Shared) (i : Nat), X.prog = P → X.w = w → X.K = K → X.A.handled = none → Inv X pins σ H s → (∀ p ∈ srcs, p.1.is K H p.2) → tn i s.heap →
      ∃ (fp' wr : List Addr) (Y : Nat → Heap → Value → Heap → Prop) (Z : Nat → Heap → Prop), GoesN P w X.A tg it fp' wr n Y Z ∧ Z i s.heap ∧ (∀ b ∈ wr, b ∈ fp) ∧ (∀ j h, Z j h → tn j h) ∧
        ∀ h0 v h, i < n → Y i h0 v h → ∃ T vals, v = .ref T ∧ h0.objs.size ≤ T ∧ Vals (row i) vals ∧ h.IsTuple T vals.toArray) : Turn P w K tg (ItT K srcs n row) fp it tn where
  mem := mem
  obj := obj
  keep := keep
  self := self
  item := by
    intro X hP hw hK hc i pins s σ H E I hf st ⟨hs, hi⟩
    obtain ⟨fp', wr, Y, Z, W, z, sub, back, yy⟩ := core X pins σ H s i hP hw hK (I.ok.hd hc) I hs st
    subst hP hw hK
    refine W.goes i s _ E hi z fun v h' tk hY z' hk _ => ?_
    obtain ⟨T, vals, rfl, hT, rv, tup⟩ := yy _ _ _ hi hY
    have I1 : Inv X pins σ (upd H T (.tup (row i))) { s with heap := h', toks := tk } := I.turnedNew (ch := fp) (fun b o hb e => hk b o (fun q => hb (sub b q)) e) hf hT ⟨len i, vals, rv, tup⟩
    refine ⟨.ref T, _, I1, rfl, ⟨T, rfl, I.hok.fresh hT, rfl⟩, back _ _ z', fun b hb => ?_⟩
    obtain ⟨o, e, _⟩ := obj _ _ st b hb
    rw [upd_ne (Nat.ne_of_lt (Nat.lt_of_lt_of_le (Heap.lt_size e) hT))]
    exact (hf b hb).1
  done := by
    intro X hP hw hK hc i pins s σ H E I hf st ⟨hs, hi⟩
    obtain ⟨fp', wr, Y, Z, W, z, sub, back, yy⟩ := core X pins σ H s i hP hw hK (I.ok.hd hc) I hs st
    subst hP hw hK hi
    exact W.stops s _ E z fun h' tk hk _ => I.turnedL (ch := fp) (fun b o hb e => hk b o (fun q => hb (sub b q)) e) hf

/-! enumerate -/
theorem vals_getD {xs : List V} {its : List Value} {i : Nat} {u : Value} (r : Vals xs its) (e : its.toArray[i]? = some u) : RelV (xs.getD i .non) u := by
  have e : its[i]? = some u := by simpa using e
  have hi : i < xs.length := by rw [r.length]; exact (List.getElem?_eq_some_iff.mp e).1
  obtain ⟨u', h1, h2⟩ := r.get (List.getElem?_eq_getElem hi)
  rw [e] at h1; cases h1
  rw [List.getD_eq_getElem?_getD, List.getElem?_eq_getElem hi]
  exact h2
theorem two_line : 2 ≤ sizeLine := by rw [sizeLine_eq]; decide
theorem three_line : 3 ≤ sizeLine := by rw [sizeLine_eq]; decide
def rowE (xs : List V) (i : Nat) : List V := [.int (i : Nat), xs.getD i .non]
theorem turn_E {P : Program} {w : World} {K : PySem.W.Frag} {elts : List Expr} {kk : Nat} {tpos : Pos} {q : Sq} {xs : List V} {e it : Addr} (hne : e ≠ it) (h1 : q.a ≠ it) (h2 : q.a ≠ e) :
    Turn P w K (.Tuple elts kk tpos) (ItT K [(q, xs)] xs.length (rowE xs)) [e, it] e (fun i h => (∃ old, IsEnum h e it ((i : Nat) : Int) old) ∧ q.it h it i) :=
  turn_T (by simp) (fun i h ⟨⟨old, he⟩, hi⟩ b hb => by
      obtain ⟨o, vs, e1, e2⟩ := Sq.it_obj hi
      have e' : b = e ∨ b = it := by simpa using hb
      rcases e' with z | z
      · rw [z]; exact ⟨_, he, fun v q => nomatch q⟩
      · rw [z]; exact ⟨o, e1, fun v q => by rw [e2] at q; cases q⟩)
    (fun i h h' ⟨⟨old, he⟩, hi⟩ k => ⟨⟨old, k e (by simp) _ he⟩, Sq.it_at hi fun o q => k it (by simp) o q⟩) (fun _ => two_line)
    (fun A i s Q E ⟨⟨_, he⟩, _⟩ h => wpAny_pyIter_enum he h)
    fun X pins σ H s i hP hw hK hh I hs ⟨⟨old, he⟩, hi⟩ => by
      subst hP hw hK
      obtain ⟨its, rv, ar, _, _⟩ := Sq.get I (hs (q, xs) (by simp))
      have W := GoesN.enumFrom (elts := elts) (x1 := kk) (pos := tpos) 0 (Sq.draws (prog := X.prog) (w := X.w) (A := X.A.in1) hh it q h1 its.toArray) e hne (by simp [hne, Ne.symm h2]) (by simp)
      have hl : its.toArray.size = xs.length := by rw [rv.length]; simp
      rw [hl] at W
      refine ⟨_, _, _, _, W, ⟨⟨old, by rw [Int.zero_add]; exact he⟩, hi, ar⟩, fun b hb => hb, fun j h ⟨⟨o', z⟩, y, _⟩ => ⟨⟨o', by rw [Int.zero_add] at z; exact z⟩, y⟩, ?_⟩
      rintro h0 v h hi ⟨T, t, x, ev, hT, hx, tp⟩
      exact ⟨T, [_, x], ev, hT, .cons ⟨t, by rw [Int.zero_add]⟩ (.cons (vals_getD rv hx) .nil), tp⟩
theorem enum_new1 {v : Value} {o : Obj} {H : Heap → Prop} (B : PySem.Begins v o H) :
    Meets (Builtin.«enumerate.__new__» ⟨[.type "enumerate", v], []⟩) (fun _ R s => H s.heap ∧
      R (.ok (.ret (.ref (s.heap.push o).objs.size))) { s with heap := (s.heap.push o).push { cls := .type "enumerate", data := .fields #[.none, .bool false, .ref s.heap.objs.size, rawInt 0, .none, .none] } }) :=
  .of_wp fun prog w A R s h => by
    obtain ⟨hp, g, d, tk, os⟩ := s
    obtain ⟨h1, h⟩ := h
    have hsub := sub_enumerate
    have begun : ∀ {A' : Around} {E : Value → Shared → Prop} {Q : Value → Shared → Prop}, Q (.ref hp.objs.size) ⟨hp.push o, g, d, tk, os⟩ → wpAny (model prog w) A' (pyIter v) Q E ⟨hp, g, d, tk, os⟩ :=
      fun z => B.iter prog w _ _ ⟨hp, g, d, tk, os⟩ _ h1 z
    wp_walk using begun
    refine wpAny_stack_any fun st => wpAny_pure ?_
    split
    · rename_i c _ _ _ _ _
      cases (c == Value.type "enumerate") <;> (wp_walk using begun; exact ⟨_, rfl, h⟩)
    · wp_walk using begun
      exact ⟨_, rfl, h⟩
theorem enum_call1 {prog : Program} {w : World} {A : Around} {E : Value → Shared → Prop} {s : Shared} {v : Value} {o : Obj} {H : Heap → Prop} {Q : Value → Shared → Prop} (B : PySem.Begins v o H) (h1 : H s.heap)
    (h : ∀ h', IsEnum h' (s.heap.objs.size + 1) s.heap.objs.size 0 .none → h'.get? s.heap.objs.size = some o → (∀ b u, s.heap.get? b = some u → h'.get? b = some u) → Q (.ref (s.heap.objs.size + 1)) { s with heap := h' }) :
    wpAny (model prog w) A (call (.type "enumerate") [v]) Q E s := by
  refine callType_new F.called_enumerate (by decide) (F.typeCall_enumerate_1 v) (F.newCall_enumerate_1 v) (fun ob => F.args_object_init_2 ob v) F.entry_enumerate_new (enum_new1 B) ⟨h1, ?_⟩
  have hz : (s.heap.push o).objs.size = s.heap.objs.size + 1 := Heap.size_push ..
  show _ ∧ _
  rw [hz]
  have he : ((s.heap.push o).push { cls := .type "enumerate", data := .fields #[.none, .bool false, .ref s.heap.objs.size, rawInt 0, .none, .none] }).get? (s.heap.objs.size + 1) = some { cls := .type "enumerate", data := .fields #[.none, .bool false, .ref s.heap.objs.size, rawInt 0, .none, .none] } := by
    rw [← hz]; exact Heap.get?_push_size (s.heap.push o) rfl
  exact ⟨⟨_, he, rfl⟩, h _ he (Heap.get?_push_of_some _ (Heap.get?_push_size _ B.free)) fun b u x => Heap.get?_push_of_some _ (Heap.get?_push_of_some _ x)⟩

/-! zip -/
def rowZ (xs ys : List V) (i : Nat) : List V := [xs.getD i .non, ys.getD i .non]
theorem turn_Z {P : Program} {w : World} {K : PySem.W.Frag} {elts : List Expr} {kk : Nat} {tpos : Pos} {q1 q2 : Sq} {xs ys : List V} {N : Addr} (h1 : q1.a < N) (h2 : q2.a < N) :
    Turn P w K (.Tuple elts kk tpos) (ItT K [(q1, xs), (q2, ys)] (min xs.length ys.length) (rowZ xs ys)) [N + 4, N + 2, N + 3, N, N + 1] (N + 4)
      (fun i h => IsZip h (N + 4) (N + 2) (N + 3) .none ∧ IsTupOf2 h (N + 2) (.ref N) (.ref (N + 1)) ∧ (∃ a1 a2, IsTupOf2 h (N + 3) a1 a2) ∧ q1.it h N i ∧ q2.it h (N + 1) i) :=
  turn_T (by simp) (fun i h ⟨hz, hT, ⟨a1, a2, hO⟩, i1, i2⟩ b hb => by
      obtain ⟨o1, vs1, e1, d1⟩ := Sq.it_obj i1
      obtain ⟨o2, vs2, e2, d2⟩ := Sq.it_obj i2
      have e' : b = N + 4 ∨ b = N + 2 ∨ b = N + 3 ∨ b = N ∨ b = N + 1 := by simpa using hb
      rcases e' with z | z | z | z | z
      · rw [z]; exact ⟨_, hz, fun v q => nomatch q⟩
      · rw [z]; exact ⟨_, hT, fun v q => nomatch q⟩
      · rw [z]; exact ⟨_, hO, fun v q => nomatch q⟩
      · rw [z]; exact ⟨o1, e1, fun v q => by rw [d1] at q; cases q⟩
      · rw [z]; exact ⟨o2, e2, fun v q => by rw [d2] at q; cases q⟩)
    (fun i h h' ⟨hz, hT, ⟨a1, a2, hO⟩, i1, i2⟩ k => ⟨k _ (by simp) _ hz, k _ (by simp) _ hT, ⟨a1, a2, k _ (by simp) _ hO⟩, Sq.it_at i1 fun o q => k N (by simp) o q, Sq.it_at i2 fun o q => k (N + 1) (by simp) o q⟩) (fun _ => two_line)
    (fun A i s Q E st h => wpAny_pyIter_zip st.1 h)
    fun X pins σ H s i hP hw hK hh I hs ⟨hz, hT, hO, i1, i2⟩ => by
      subst hP hw hK
      obtain ⟨its, rv, ar, _, _⟩ := Sq.get I (hs (q1, xs) (by simp))
      obtain ⟨its2, rv2, ar2, _, _⟩ := Sq.get I (hs (q2, ys) (by simp))
      have b1 : ∀ b ∈ [q1.a], b < N := fun b hb => by have e : b = q1.a := by simpa using hb
                                                      rw [e]; exact h1
      have b2 : ∀ b ∈ [q2.a], b < N := fun b hb => by have e : b = q2.a := by simpa using hb
                                                      rw [e]; exact h2
      have W := GoesN.zip2 (elts := elts) (x1 := kk) (pos := tpos) (zip_sep2 (N := N) b1 b2) (Sq.draws (prog := X.prog) (w := X.w) (A := X.A.in1) hh N q1 (Nat.ne_of_lt h1) its.toArray)
        (Sq.draws (prog := X.prog) (w := X.w) (A := X.A.in1) hh (N + 1) q2 (Nat.ne_of_lt (Nat.lt_succ_of_lt h2)) its2.toArray)
      have hl : its.toArray.size = xs.length := by rw [rv.length]; simp
      have hl2 : its2.toArray.size = ys.length := by rw [rv2.length]; simp
      rw [hl, hl2] at W
      refine ⟨_, _, _, _, W, ⟨hz, hT, hO, ⟨i1, ar⟩, ⟨i2, ar2⟩⟩, fun b hb => ?_, fun j h ⟨z1, z2, z3, z4, z5⟩ => ⟨z1, z2, z3, z4.1, z5.1⟩, ?_⟩
      · have e' : b = N + 4 ∨ b = N + 3 ∨ b = N ∨ b = N + 1 := by simpa using hb
        rcases e' with z | z | z | z <;> simp [z]
      rintro h0 v h hi ⟨T, x, y, ev, hT, hx, hy, tp⟩
      exact ⟨T, [x, y], ev, hT, .cons (vals_getD rv hx) (.cons (vals_getD rv2 hy) .nil), tp⟩
def rowZ3 (xs ys zs : List V) (i : Nat) : List V := [xs.getD i .non, ys.getD i .non, zs.getD i .non]
theorem turn_Z3 {P : Program} {w : World} {K : PySem.W.Frag} {elts : List Expr} {kk : Nat} {tpos : Pos} {q1 q2 q3 : Sq} {xs ys zs : List V} {N : Addr} (h1 : q1.a < N) (h2 : q2.a < N) (h3 : q3.a < N) :
    Turn P w K (.Tuple elts kk tpos) (ItT K [(q1, xs), (q2, ys), (q3, zs)] (min (min xs.length ys.length) zs.length) (rowZ3 xs ys zs)) [N + 5, N + 3, N + 4, N, N + 1, N + 2] (N + 5)
      (fun i h => IsZip h (N + 5) (N + 3) (N + 4) .none ∧ IsTupOf3 h (N + 3) (.ref N) (.ref (N + 1)) (.ref (N + 2)) ∧ (∃ a1 a2 a3, IsTupOf3 h (N + 4) a1 a2 a3) ∧ q1.it h N i ∧ q2.it h (N + 1) i ∧ q3.it h (N + 2) i) :=
  turn_T (by simp) (fun i h ⟨hz, hT, ⟨a1, a2, a3, hO⟩, i1, i2, i3⟩ b hb => by
      obtain ⟨o1, vs1, e1, d1⟩ := Sq.it_obj i1
      obtain ⟨o2, vs2, e2, d2⟩ := Sq.it_obj i2
      obtain ⟨o3, vs3, e3, d3⟩ := Sq.it_obj i3
      have e' : b = N + 5 ∨ b = N + 3 ∨ b = N + 4 ∨ b = N ∨ b = N + 1 ∨ b = N + 2 := by simpa using hb
      rcases e' with z | z | z | z | z | z
      · rw [z]; exact ⟨_, hz, fun v q => nomatch q⟩
      · rw [z]; exact ⟨_, hT, fun v q => nomatch q⟩
      · rw [z]; exact ⟨_, hO, fun v q => nomatch q⟩
      · rw [z]; exact ⟨o1, e1, fun v q => by rw [d1] at q; cases q⟩
      · rw [z]; exact ⟨o2, e2, fun v q => by rw [d2] at q; cases q⟩
      · rw [z]; exact ⟨o3, e3, fun v q => by rw [d3] at q; cases q⟩)
    (fun i h h' ⟨hz, hT, ⟨a1, a2, a3, hO⟩, i1, i2, i3⟩ k => ⟨k _ (by simp) _ hz, k _ (by simp) _ hT, ⟨a1, a2, a3, k _ (by simp) _ hO⟩, Sq.it_at i1 fun o q => k N (by simp) o q, Sq.it_at i2 fun o q => k (N + 1) (by simp) o q, Sq.it_at i3 fun o q => k (N + 2) (by simp) o q⟩) (fun _ => three_line)
    (fun A i s Q E st h => wpAny_pyIter_zip st.1 h)
    fun X pins σ H s i hP hw hK hh I hs ⟨hz, hT, hO, i1, i2, i3⟩ => by
      subst hP hw hK
      obtain ⟨its, rv, ar, _, _⟩ := Sq.get I (hs (q1, xs) (by simp))
      obtain ⟨its2, rv2, ar2, _, _⟩ := Sq.get I (hs (q2, ys) (by simp))
      obtain ⟨its3, rv3, ar3, _, _⟩ := Sq.get I (hs (q3, zs) (by simp))
      have b1 : ∀ b ∈ [q1.a], b < N := fun b hb => by have e : b = q1.a := by simpa using hb
                                                      rw [e]; exact h1
      have b2 : ∀ b ∈ [q2.a], b < N := fun b hb => by have e : b = q2.a := by simpa using hb
                                                      rw [e]; exact h2
      have b3 : ∀ b ∈ [q3.a], b < N := fun b hb => by have e : b = q3.a := by simpa using hb
                                                      rw [e]; exact h3
      have W := GoesN.zip3 (elts := elts) (x1 := kk) (pos := tpos) (zip_sep3 (N := N) b1 b2 b3) (Sq.draws (prog := X.prog) (w := X.w) (A := X.A.in1) hh N q1 (Nat.ne_of_lt h1) its.toArray)
        (Sq.draws (prog := X.prog) (w := X.w) (A := X.A.in1) hh (N + 1) q2 (Nat.ne_of_lt (Nat.lt_succ_of_lt h2)) its2.toArray)
        (Sq.draws (prog := X.prog) (w := X.w) (A := X.A.in1) hh (N + 2) q3 (Nat.ne_of_lt (Nat.lt_succ_of_lt (Nat.lt_succ_of_lt h3))) its3.toArray)
      have hl : its.toArray.size = xs.length := by rw [rv.length]; simp
      have hl2 : its2.toArray.size = ys.length := by rw [rv2.length]; simp
      have hl3 : its3.toArray.size = zs.length := by rw [rv3.length]; simp
      rw [hl, hl2, hl3] at W
      refine ⟨_, _, _, _, W, ⟨hz, hT, hO, ⟨i1, ar⟩, ⟨i2, ar2⟩, ⟨i3, ar3⟩⟩, fun b hb => ?_, fun j h ⟨z1, z2, z3, z4, z5, z6⟩ => ⟨z1, z2, z3, z4.1, z5.1, z6.1⟩, ?_⟩
      · have e' : b = N + 5 ∨ b = N + 4 ∨ b = N ∨ b = N + 1 ∨ b = N + 2 := by simpa using hb
        rcases e' with z | z | z | z | z <;> simp [z]
      rintro h0 v h hi ⟨T, x, y, u, ev, hT, hx, hy, hu, tp⟩
      exact ⟨T, [x, y, u], ev, hT, .cons (vals_getD rv hx) (.cons (vals_getD rv2 hy) (.cons (vals_getD rv3 hu) .nil)), tp⟩
end GG
end

section
/-! G.I3: what is walked, by data; for. -/
set_option linter.all false
set_option maxRecDepth 100000
namespace GG
open PySem L2
open PyProof.Rows hiding St

def charsD (z : Str) : List D := z.cps.toList.map fun c => .str ⟨#[c]⟩
def walkD : D → Option (List D)
  | .str z => if z.cps.size ≤ sizeLine then some (charsD z) else none
  | d => seqD d
def iS (e : EX) : IX := fun ρ S => (e ρ S).bind fun p => (Out.opt (walkD p.1)).bind fun xs => .ok (xs, p.2)
def iEn (e : EX) : IX := fun ρ S => (e ρ S).bind fun p => (Out.opt (seqD p.1)).bind fun xs => .ok (xs.zipIdx.map fun q => .tup [.int (q.2 : Nat), q.1], p.2)
def iZ (a b : EX) : IX := fun ρ S => (a ρ S).bind fun p => (b ρ p.2).bind fun q => (Out.opt (seqD p.1)).bind fun xs => (Out.opt (seqD q.1)).bind fun ys => .ok ((xs.zip ys).map fun q => .tup [q.1, q.2], q.2)
def iZ3 (a b c : EX) : IX := fun ρ S => (a ρ S).bind fun p => (b ρ p.2).bind fun q => (c ρ q.2).bind fun r => (Out.opt (seqD p.1)).bind fun xs => (Out.opt (seqD q.1)).bind fun ys => (Out.opt (seqD r.1)).bind fun zs =>
  .ok ((xs.zip (ys.zip zs)).map fun q => .tup [q.1, q.2.1, q.2.2], r.2)
def fitI (i : Int) : Bool := decide (-(2 ^ 62) ≤ i) && decide (i < 2 ^ 62)
def rngL (lo c : Int) (n : Nat) : List D := (List.range n).map fun i => .int (lo + (i : Nat) * c)
def rngD1 : List D → Option (List D)
  | [.int j] => if fitI j && szOk j.toNat then some (rngL 0 1 j.toNat) else none
  | _ => none
def rngD2 : List D → Option (List D)
  | [.int i, .int j] => if fitI i && fitI j && szOk (j - i).toNat then some (rngL i 1 (j - i).toNat) else none
  | _ => none
def rngD3 : List D → Option (List D)
  | [.int i, .int j, .int c] => if c == -1 && fitI i && fitI j && szOk (i - j).toNat then some (rngL i (-1) (i - j).toNat) else none
  | _ => none
def iR1 (a : AX) : IX := fun ρ S => (a ρ S).bind fun p => (Out.opt (rngD1 p.1)).bind fun xs => .ok (xs, p.2)
def iR2 (a : AX) : IX := fun ρ S => (a ρ S).bind fun p => (Out.opt (rngD2 p.1)).bind fun xs => .ok (xs, p.2)
def iR3 (a : AX) : IX := fun ρ S => (a ρ S).bind fun p => (Out.opt (rngD3 p.1)).bind fun xs => .ok (xs, p.2)

section
variable {cl : Wp} {X : Cx} {tg a b c e : Expr} {da db dc : EX} {pos : Pos}
/-- the source's own walk -/
def Sq.J (K : PySem.W.Frag) : Sq → It
  | .L a => Itl K a
  | .T a => Itt K a
theorem Sq.itD {w : Wd} {g : Gh} {ds : List D} {vs : List V} {q : Sq} (l : RepL w g ds vs) (h : ∀ g1 H1 S1, Le g g1 → SimS w g1 H1 S1 → q.is w.K H1 vs) (z : vs.length ≤ sizeLine) : ItD w g ds (q.J w.K) := by
  refine ⟨by rw [l.length]; exact z, fun g1 H1 S1 le s i hi => ?_, fun g1 H1 S1 le s => ?_⟩
  · obtain ⟨v, e1, r1⟩ := l.get (List.getElem?_eq_getElem hi)
    cases q with
    | L a => exact ⟨⟨vs, v, h _ _ _ le s, e1⟩, fun x H' ⟨eH, hx⟩ => by
        have e2 := hx vs (h _ _ _ le s)
        rw [e1] at e2; cases e2
        rw [eH]
        exact ⟨g1, _, List.getElem?_eq_getElem hi, r1.mono le, s, .refl⟩⟩
    | T a => exact ⟨⟨vs, v, h _ _ _ le s, e1⟩, fun x H' ⟨eH, hx⟩ => by
        have e2 := hx vs (h _ _ _ le s)
        rw [e1] at e2; cases e2
        rw [eH]
        exact ⟨g1, _, List.getElem?_eq_getElem hi, r1.mono le, s, .refl⟩⟩
  · cases q with
    | L a => exact ⟨vs, h _ _ _ le s, by rw [l.length]; exact Nat.le_refl _⟩
    | T a => exact ⟨vs, h _ _ _ le s, by rw [l.length]; exact Nat.le_refl _⟩
theorem str_itD {w : Wd} {g : Gh} {z : Str} (hz : z.cps.size ≤ sizeLine) : ItD w g (charsD z) (Its z) := by
  have hl : (charsD z).length = z.cps.size := by simp [charsD]
  refine ⟨by rw [hl]; exact hz, fun g1 H1 S1 le s i hi => ⟨by rw [hl] at hi; exact hi, fun x H' ⟨eH, c, e1, e2⟩ => ?_⟩, fun g1 H1 S1 le s => by rw [hl]; exact Nat.le_refl _⟩
  rw [eH]
  refine ⟨g1, .str ⟨#[c]⟩, ?_, rep_str.mpr e2, s, .refl⟩
  unfold charsD
  rw [List.getElem?_map, Array.getElem?_toList, e1]; rfl
/-- a list, a tuple, a text -/
def iAny (K : PySem.W.Frag) (tl : TE) : TI := fun σ H R => tl σ H fun x H1 => (∃ (q : Sq) (xs : List V), (∀ u, RelV x u → u = q.v) ∧ q.is K H1 xs ∧ (xs.length ≤ sizeLine → R (q.J K) H1)) ∨ ∃ z, x = .str z ∧ R (Its z) H1
theorem pi_any {l : Expr} {tl : TE} (hl : PE X l tl) : PI X tg l (iAny X.K tl) := by
  refine ⟨fun pins s σ H R I h => ?_⟩
  refine thn (hl.run pins s σ H _ I h) fun v s1 ⟨x, H1, I1, r1, q1⟩ => ?_
  rcases q1 with ⟨q, xs, ev, hq, hR⟩ | ⟨z, rfl, hR⟩
  · obtain rfl := ev v r1
    obtain ⟨its, rv, ar, hz, _⟩ := Sq.get I1 hq
    cases q with
    | L a => exact wpAny_pyIter_list ar (pi_one (tk := s1.toks) I1 _ (turn_list a _) (Sq.it_new (q := .L a) (Heap.get?_push_size _ rfl)) (hR hz))
    | T a => exact wpAny_pyIter_tuple ar (pi_one (tk := s1.toks) I1 _ (turn_tuple a _) (Sq.it_new (q := .T a) (Heap.get?_push_size _ rfl)) (hR hz))
  · obtain ⟨t, rfl⟩ := r1
    cases hc : z.cps.all (· < 128)
    · exact wpAny_pyIter_wide hc (pi_one (tk := s1.toks) I1 _ (turn_str _ z t "str_iterator" (.inr rfl)) ⟨_, Heap.get?_push_size _ rfl, rfl, rfl⟩ hR)
    · exact wpAny_pyIter_ascii hc (pi_one (tk := s1.toks) I1 _ (turn_str _ z t "str_ascii_iterator" (.inl rfl)) ⟨_, Heap.get?_push_size _ rfl, rfl, rfl⟩ hR)
theorem gi_any (h : GE cl X e da) : GI cl X tg e (iS da) := fun W tk => PI.weak (pi_any (h W tk)) fun σ H Q ⟨ρ, S, g, sim, c⟩ =>
  Con.go sim c fun v H1 d1 S1 g1 e1 s1 f1 r1 c1 => by
    obtain ⟨xs, e, c2⟩ := c1.opt
    cases d1 with
    | str z =>
      unfold walkD at e
      dsimp only at e
      split at e
      · rename_i hz
        cases e
        exact .inr ⟨z, rep_str.mp r1, c2 _ g1 H1 s1.st .refl (str_itD hz)⟩
      · cases e
    | _ =>
      obtain ⟨q, vs, ev, l, hq⟩ := Sq.rep r1 e
      exact .inl ⟨q, vs, ev, hq _ _ _ .refl s1.st, fun hz => c2 _ g1 H1 s1.st .refl (Sq.itD l hq hz)⟩

/-! ranges -/
theorem rngL_len {lo c : Int} {n : Nat} : (rngL lo c n).length = n := by simp [rngL]
theorem rngL_get {lo c : Int} {n i : Nat} (h : i < n) : (rngL lo c n)[i]? = some (.int (lo + (i : Nat) * c)) := by simp [rngL, h]
theorem rng_itD {w : Wd} {g : Gh} {lo c : Int} {n : Nat} (hz : n ≤ sizeLine) : ItD w g (rngL lo c n) (Itc lo c n) := by
  refine ⟨by rw [rngL_len]; exact hz, fun g1 H1 S1 le s i hi => ?_, fun g1 H1 S1 le s => by rw [rngL_len]; exact Nat.le_refl _⟩
  rw [rngL_len] at hi
  refine ⟨hi, fun x H' ⟨eH, ex⟩ => ?_⟩
  rw [eH]
  exact ⟨g1, _, rngL_get hi, rep_int.mpr ex, s, .refl⟩
theorem rng_itD1 {w : Wd} {g : Gh} {lo : Int} {n : Nat} (hz : n ≤ sizeLine) : ItD w g (rngL lo 1 n) (Itr lo n) := by
  refine ⟨by rw [rngL_len]; exact hz, fun g1 H1 S1 le s i hi => ?_, fun g1 H1 S1 le s => by rw [rngL_len]; exact Nat.le_refl _⟩
  rw [rngL_len] at hi
  refine ⟨hi, fun x H' ⟨eH, ex⟩ => ?_⟩
  rw [eH]
  exact ⟨g1, _, rngL_get hi, rep_int.mpr (by rw [ex, Int.mul_one]), s, .refl⟩
theorem fitI_iff {i : Int} (h : fitI i = true) : -(2 ^ 62) ≤ i ∧ i < 2 ^ 62 := by
  obtain ⟨h1, h2⟩ := Bool.and_eq_true_iff.mp h
  exact ⟨of_decide_eq_true h1, of_decide_eq_true h2⟩
theorem rngD1_inv {ds xs : List D} (e : rngD1 ds = some xs) : ∃ j, ds = [.int j] ∧ fitI j = true ∧ j.toNat ≤ sizeLine ∧ xs = rngL 0 1 j.toNat := by
  unfold rngD1 at e
  split at e
  · split at e
    · rename_i hz
      cases e
      obtain ⟨z1, z2⟩ := Bool.and_eq_true_iff.mp hz
      exact ⟨_, rfl, z1, of_decide_eq_true z2, rfl⟩
    · cases e
  · cases e
theorem rngD2_inv {ds xs : List D} (e : rngD2 ds = some xs) : ∃ i j, ds = [.int i, .int j] ∧ fitI i = true ∧ fitI j = true ∧ (j - i).toNat ≤ sizeLine ∧ xs = rngL i 1 (j - i).toNat := by
  unfold rngD2 at e
  split at e
  · split at e
    · rename_i hz
      cases e
      obtain ⟨z1, z2⟩ := Bool.and_eq_true_iff.mp hz
      obtain ⟨z0, z1⟩ := Bool.and_eq_true_iff.mp z1
      exact ⟨_, _, rfl, z0, z1, of_decide_eq_true z2, rfl⟩
    · cases e
  · cases e
theorem rngD3_inv {ds xs : List D} (e : rngD3 ds = some xs) : ∃ i j, ds = [.int i, .int j, .int (-1)] ∧ fitI i = true ∧ fitI j = true ∧ (i - j).toNat ≤ sizeLine ∧ xs = rngL i (-1) (i - j).toNat := by
  unfold rngD3 at e
  split at e
  · split at e
    · rename_i hz
      cases e
      obtain ⟨y1, y2⟩ := Bool.and_eq_true_iff.mp hz
      obtain ⟨y3, y4⟩ := Bool.and_eq_true_iff.mp y1
      obtain ⟨y5, y6⟩ := Bool.and_eq_true_iff.mp y3
      have zc := eq_of_beq y5
      subst zc
      exact ⟨_, _, rfl, y6, y4, of_decide_eq_true y2, rfl⟩
    · cases e
  · cases e
theorem gi_r1 {t : AX} {p : Pos} (hg : Gl X "range") (hm : X.mg "range" = none) (ha : GA cl X [a] t) (hs : starEach [a] X.env = [(false, eval a X.env)]) : GI cl X tg (.Call (.Name "range" p) [a] [] pos) (iR1 t) := fun W tk =>
  PI.weak (pi_range1 hg hm (ha W tk) hs) fun σ H Q ⟨ρ, S, g, sim, c⟩ => by
    refine (show tX (wd X cl) W (RA (wd X cl)) t σ H _ from Con.go sim c fun vs H1 ds S1 g1 e1 s1 f1 r1 c1 => ?_)
    obtain ⟨xs, e, c2⟩ := c1.opt
    obtain ⟨j, rfl, z1, z2, rfl⟩ := rngD1_inv e
    obtain ⟨v, r, rfl, q1, q2⟩ := RepL.cases r1
    rw [q2.cases0, rep_int.mp q1]
    obtain ⟨k1, k2⟩ := fitI_iff z1
    exact ⟨j, rfl, k1, k2, c2 _ g1 H1 s1.st .refl (rng_itD1 z2)⟩
theorem gi_r2 {t : AX} {p : Pos} (hg : Gl X "range") (hm : X.mg "range" = none) (ha : GA cl X [a, b] t) (hs : starEach [a, b] X.env = [(false, eval a X.env), (false, eval b X.env)]) (hs2 : starEach [b] X.env = [(false, eval b X.env)]) :
    GI cl X tg (.Call (.Name "range" p) [a, b] [] pos) (iR2 t) := fun W tk =>
  PI.weak (pi_range2 hg hm (ha W tk) hs hs2) fun σ H Q ⟨ρ, S, g, sim, c⟩ => by
    refine (show tX (wd X cl) W (RA (wd X cl)) t σ H _ from Con.go sim c fun vs H1 ds S1 g1 e1 s1 f1 r1 c1 => ?_)
    obtain ⟨xs, e, c2⟩ := c1.opt
    obtain ⟨i, j, rfl, z0, z1, z2, rfl⟩ := rngD2_inv e
    obtain ⟨v, r, rfl, q1, q2⟩ := RepL.cases r1
    obtain ⟨v', r', rfl, q3, q4⟩ := q2.cases
    rw [q4.cases0, rep_int.mp q1, rep_int.mp q3]
    obtain ⟨k1, k2⟩ := fitI_iff z0
    obtain ⟨k3, k4⟩ := fitI_iff z1
    exact ⟨i, j, rfl, ⟨k1, k2, k3, k4⟩, c2 _ g1 H1 s1.st .refl (rng_itD1 z2)⟩
theorem gi_r3 {t : AX} {p : Pos} (hg : Gl X "range") (hm : X.mg "range" = none) (ha : GA cl X [a, b, c] t) (hs : starEach [a, b, c] X.env = (false, eval a X.env) :: starEach [b, c] X.env) (hpl : (backTo pos (starEach [b, c] X.env)).any (·.1) = false) :
    GI cl X tg (.Call (.Name "range" p) [a, b, c] [] pos) (iR3 t) := fun W tk =>
  PI.weak (pi_range3 hg hm (ha W tk) hs hpl) fun σ H Q ⟨ρ, S, g, sim, c⟩ => by
    refine (show tX (wd X cl) W (RA (wd X cl)) t σ H _ from Con.go sim c fun vs H1 ds S1 g1 e1 s1 f1 r1 c1 => ?_)
    obtain ⟨xs, e, c2⟩ := c1.opt
    obtain ⟨i, j, rfl, z0, z1, z2, rfl⟩ := rngD3_inv e
    obtain ⟨v, r, rfl, q1, q2⟩ := RepL.cases r1
    obtain ⟨v', r', rfl, q3, q4⟩ := q2.cases
    obtain ⟨v'', r'', rfl, q5, q6⟩ := q4.cases
    rw [q6.cases0, rep_int.mp q1, rep_int.mp q3, rep_int.mp q5]
    obtain ⟨k1, k2⟩ := fitI_iff z0
    obtain ⟨k3, k4⟩ := fitI_iff z1
    exact ⟨i, j, -1, (i - j).toNat, rfl, RgC.neg k1 k2 k3 k4, c2 _ g1 H1 s1.st .refl (rng_itD z2)⟩

/-! enumerate, zip -/
theorem tup_itD {w : Wd} {g : Gh} {srcs : List (Sq × List V)} {n : Nat} {row : Nat → List V} {items : List (List D)} (hl : items.length = n) (hz : n ≤ sizeLine) (hs : ∀ g1 H1 S1, Le g g1 → SimS w g1 H1 S1 → ∀ p ∈ srcs, p.1.is w.K H1 p.2)
    (hr : ∀ i ds, items[i]? = some ds → RepL w g ds (row i)) : ItD w g (items.map .tup) (ItT w.K srcs n row) := by
  refine ⟨by rw [List.length_map, hl]; exact hz, fun g1 H1 S1 le s i hi => ?_, fun g1 H1 S1 le s => by rw [List.length_map]; exact ⟨hs _ _ _ le s, hl⟩⟩
  rw [List.length_map] at hi
  refine ⟨⟨hs _ _ _ le s, by rw [← hl]; exact hi⟩, fun x H' ⟨T, ex, hT, eH⟩ => ?_⟩
  subst ex eH
  obtain ⟨t, f⟩ := s.put (u := .tup (row i)) hT
  refine ⟨_, .tup items[i], by rw [List.getElem?_map, List.getElem?_eq_getElem hi]; rfl, ?_, t, f⟩
  exact rep_tup f.le ((hr i _ (List.getElem?_eq_getElem hi)).mono le)
theorem repL_getD {w : Wd} {g : Gh} {ds : List D} {vs : List V} {i : Nat} {d : D} (l : RepL w g ds vs) (e : ds[i]? = some d) : Rep w g d (vs.getD i .non) := by
  obtain ⟨v, h1, h2⟩ := l.get e
  rw [List.getD_eq_getElem?_getD, h1]
  exact h2
theorem zipIdx_get {α : Type} {xs : List α} {i : Nat} : xs.zipIdx[i]? = (xs[i]?).map fun x => (x, i) := by simp
def iEnA (K : PySem.W.Frag) (ta : TA) : TI := fun σ H R => ta σ H fun us H1 => ∃ (v : V) (q : Sq) (xs : List V), us = [v] ∧ (∀ u, RelV v u → u = q.v) ∧ q.is K H1 xs ∧ (xs.length ≤ sizeLine → R (ItT K [(q, xs)] xs.length (rowE xs)) H1)
theorem pi_enA {ta : TA} {p tpos : Pos} {elts : List Expr} {kk : Nat} (hg : Gl X "enumerate") (hm : X.mg "enumerate" = none) (ha : PA X [e] ta) (hs : starEach [e] X.env = [(false, eval e X.env)]) : PI X (.Tuple elts kk tpos) (.Call (.Name "enumerate" p) [e] [] pos) (iEnA X.K ta) := by
  refine ⟨fun pins s σ H R I h => ?_⟩
  refine Call_ (ld_blt I hg hm boot_enumerate (PyProof.Rows.callWith_type1 (thn (ha.run pos pins s σ H _ I h) fun us s1 ⟨vs, H1, I1, r1, v, q, xs, ex, ev, hq, hR⟩ => ?_) hs rfl))
  subst ex
  obtain ⟨u, rfl, ru⟩ := vals1 r1
  obtain rfl := ev u ru
  obtain ⟨its, rv, ar, hz, hlt⟩ := Sq.get I1 hq
  refine enum_call1 (q.begins its.toArray) ar fun h' he hi hk => wpAny_pyIter_enum he ?_
  have hne : s1.heap.objs.size + 1 ≠ s1.heap.objs.size := Nat.succ_ne_self _
  refine ⟨s1.heap.objs.size + 1, [s1.heap.objs.size + 1, s1.heap.objs.size], _, _, H1, rfl, I1.kept (t' := s1.toks) hk, turn_E (q := q) (xs := xs) hne (Nat.ne_of_lt hlt) (Nat.ne_of_lt (Nat.lt_succ_of_lt hlt)), ⟨⟨.none, he⟩, Sq.it_new hi⟩, fun b hb => ?_, hR hz⟩
  have hle : s1.heap.objs.size ≤ b := by
    have e' : b = s1.heap.objs.size + 1 ∨ b = s1.heap.objs.size := by simpa using hb
    rcases e' with z | z
    · rw [z]; exact Nat.le_succ _
    · rw [z]; exact Nat.le_refl _
  exact I1.fpOk hle (I1.hok.fresh hle)
theorem gi_en {p tpos : Pos} {elts : List Expr} {kk : Nat} (hg : Gl X "enumerate") (hm : X.mg "enumerate" = none) (h : GE cl X e da) (hs : starEach [e] X.env = [(false, eval e X.env)]) : GI cl X (.Tuple elts kk tpos) (.Call (.Name "enumerate" p) [e] [] pos) (iEn da) := fun W tk =>
  PI.weak (pi_enA hg hm (pa_cons (h W tk) pa_nil hs) hs) fun σ H Q ⟨ρ, S, g, sim, c⟩ =>
    Con.go sim c fun v H1 d1 S1 g1 e1 s1 f1 r1 c1 => by
      obtain ⟨xs, e, c2⟩ := c1.opt
      obtain ⟨q, vs, ev, l, hq⟩ := Sq.rep r1 e
      refine ⟨v, q, vs, rfl, ev, hq _ _ _ .refl s1.st, fun hz => c2 _ g1 H1 s1.st .refl ?_⟩
      have z := tup_itD (w := wd X cl) (g := g1) (srcs := [(q, vs)]) (n := vs.length) (row := rowE vs) (items := xs.zipIdx.map fun q => [.int (q.2 : Nat), q.1]) (by rw [List.length_map, List.length_zipIdx, l.length]) hz
        (fun g2 H2 S2 le s p hp => by
          have hp : p = (q, vs) := by simpa using hp
          rw [hp]; exact hq _ _ _ le s) (fun i ds e => by
          rw [List.getElem?_map, zipIdx_get] at e
          cases e2 : xs[i]? with
          | none => rw [e2] at e; cases e
          | some x =>
            rw [e2] at e
            cases e
            exact .cons (rep_int.mpr rfl) (.cons (repL_getD l e2) .nil))
      rw [List.map_map] at z
      exact z
def iZA (K : PySem.W.Frag) (ta : TA) : TI := fun σ H R => ta σ H fun us H1 => ∃ (v1 v2 : V) (q1 q2 : Sq) (xs ys : List V), us = [v1, v2] ∧ (∀ u, RelV v1 u → u = q1.v) ∧ (∀ u, RelV v2 u → u = q2.v) ∧ q1.is K H1 xs ∧ q2.is K H1 ys ∧
  (xs.length ≤ sizeLine → R (ItT K [(q1, xs), (q2, ys)] (min xs.length ys.length) (rowZ xs ys)) H1)
theorem pi_ZA {e2 : Expr} {ta : TA} {p tpos : Pos} {elts : List Expr} {kk : Nat} (hg : Gl X "zip") (hm : X.mg "zip" = none) (ha : PA X [e, e2] ta)
    (hs : starEach [e, e2] X.env = (false, eval e X.env) :: starEach [e2] X.env) (hpl : (backTo pos (starEach [e2] X.env)).any (·.1) = false) : PI X (.Tuple elts kk tpos) (.Call (.Name "zip" p) [e, e2] [] pos) (iZA X.K ta) := by
  refine ⟨fun pins s σ H R I h => ?_⟩
  refine Call_ (ld_blt I hg hm PyProof.Rows.boot_zip (PyProof.Rows.callWith_type1 (thn (ha.run pos pins s σ H _ I h) fun us s1 ⟨vs, H1, I1, r1, v1, v2, q1, q2, xs, ys, ex, ev1, ev2, hq1, hq2, hR⟩ => ?_) hs hpl))
  subst ex
  obtain ⟨u1, u2, rfl, ru1, ru2⟩ := vals2 r1
  obtain rfl := ev1 u1 ru1
  obtain rfl := ev2 u2 ru2
  obtain ⟨its, rv, ar, hz, hlt⟩ := Sq.get I1 hq1
  obtain ⟨its2, rv2, ar2, hz2, hlt2⟩ := Sq.get I1 hq2
  refine PySem.zip_begins2 (q1.begins its.toArray) (q2.begins its2.toArray) ar ar2 fun h' hz' hT hO h1 h2 _ hk => wpAny_pyIter_zip hz' ?_
  refine ⟨_, _, _, _, H1, rfl, I1.kept (t' := s1.toks) hk, turn_Z (q1 := q1) (q2 := q2) (xs := xs) (ys := ys) hlt hlt2, ⟨hz', hT, ⟨_, _, hO⟩, Sq.it_new h1, Sq.it_new h2⟩, fun b hb => ?_, hR hz⟩
  have hle : s1.heap.objs.size ≤ b := by
    have e' : b = s1.heap.objs.size + 4 ∨ b = s1.heap.objs.size + 2 ∨ b = s1.heap.objs.size + 3 ∨ b = s1.heap.objs.size ∨ b = s1.heap.objs.size + 1 := by simpa using hb
    rcases e' with z | z | z | z | z
    all_goals (rw [z]; first | exact Nat.le_refl _ | exact Nat.le_add_right _ _)
  exact I1.fpOk hle (I1.hok.fresh hle)
theorem gi_zip {p tpos : Pos} {elts : List Expr} {kk : Nat} (hg : Gl X "zip") (hm : X.mg "zip" = none) (h1 : GE cl X a da) (h2 : GE cl X b db) (hs : starEach [a, b] X.env = (false, eval a X.env) :: starEach [b] X.env)
    (hs2 : starEach [b] X.env = (false, eval b X.env) :: starEach [] X.env) (hpl : (backTo pos (starEach [b] X.env)).any (·.1) = false) : GI cl X (.Tuple elts kk tpos) (.Call (.Name "zip" p) [a, b] [] pos) (iZ da db) := fun W tk =>
  PI.weak (pi_ZA hg hm (pa_cons (h1 W tk) (pa_cons (h2 W tk) pa_nil hs2) hs) hs hpl) fun σ H Q ⟨ρ, S, g, sim, c⟩ =>
    Con.go sim c fun v H1 d1 S1 g1 e1 s1 f1 r1 c1 => Con.go s1 c1 fun v2 H2 d2 S2 g2 e2 s2 f2 r2 c2 => by
      obtain ⟨xs, ex, c3⟩ := c2.opt
      obtain ⟨ys, ey, c4⟩ := c3.opt
      obtain ⟨q1, vs1, ev1, l1, hq1⟩ := Sq.rep (Rep.mono f2.le r1) ex
      obtain ⟨q2, vs2, ev2, l2, hq2⟩ := Sq.rep r2 ey
      refine ⟨v, v2, q1, q2, vs1, vs2, rfl, ev1, ev2, hq1 _ _ _ .refl s2.st, hq2 _ _ _ .refl s2.st, fun hz => c4 _ g2 H2 s2.st .refl ?_⟩
      have z := tup_itD (w := wd X cl) (g := g2) (srcs := [(q1, vs1), (q2, vs2)]) (n := min vs1.length vs2.length) (row := rowZ vs1 vs2) (items := (xs.zip ys).map fun q => [q.1, q.2]) (by rw [List.length_map, List.length_zip, l1.length, l2.length]) (Nat.le_trans (Nat.min_le_left _ _) hz)
        (fun g2 H2 S2 le s p hp => by
          have hp : p = (q1, vs1) ∨ p = (q2, vs2) := by simpa using hp
          rcases hp with hp | hp
          · rw [hp]; exact hq1 _ _ _ le s
          · rw [hp]; exact hq2 _ _ _ le s) (fun i ds e => by
          rw [List.getElem?_map] at e
          cases e2 : (xs.zip ys)[i]? with
          | none => rw [e2] at e; cases e
          | some x =>
            rw [e2] at e
            cases e
            obtain ⟨k1, k2⟩ := List.getElem?_zip_eq_some.mp e2
            exact .cons (repL_getD l1 k1) (.cons (repL_getD l2 k2) .nil))
      rw [List.map_map] at z
      exact z
def iZA3 (K : PySem.W.Frag) (ta : TA) : TI := fun σ H R => ta σ H fun us H1 => ∃ (v1 v2 v3 : V) (q1 q2 q3 : Sq) (xs ys zs : List V), us = [v1, v2, v3] ∧ (∀ u, RelV v1 u → u = q1.v) ∧ (∀ u, RelV v2 u → u = q2.v) ∧ (∀ u, RelV v3 u → u = q3.v) ∧ q1.is K H1 xs ∧ q2.is K H1 ys ∧ q3.is K H1 zs ∧
  (xs.length ≤ sizeLine → R (ItT K [(q1, xs), (q2, ys), (q3, zs)] (min (min xs.length ys.length) zs.length) (rowZ3 xs ys zs)) H1)
theorem pi_ZA3 {e2 e3 : Expr} {ta : TA} {p tpos : Pos} {elts : List Expr} {kk : Nat} (hg : Gl X "zip") (hm : X.mg "zip" = none) (ha : PA X [e, e2, e3] ta)
    (hs : starEach [e, e2, e3] X.env = (false, eval e X.env) :: starEach [e2, e3] X.env) (hpl : (backTo pos (starEach [e2, e3] X.env)).any (·.1) = false) : PI X (.Tuple elts kk tpos) (.Call (.Name "zip" p) [e, e2, e3] [] pos) (iZA3 X.K ta) := by
  refine ⟨fun pins s σ H R I h => ?_⟩
  refine Call_ (ld_blt I hg hm PyProof.Rows.boot_zip (PyProof.Rows.callWith_type1 (thn (ha.run pos pins s σ H _ I h) fun us s1 ⟨vs, H1, I1, r1, v1, v2, v3, q1, q2, q3, xs, ys, zs, ex, ev1, ev2, ev3, hq1, hq2, hq3, hR⟩ => ?_) hs hpl))
  subst ex
  obtain ⟨u1, u2, u3, rfl, ru1, ru2, ru3⟩ : ∃ u1 u2 u3, us = [u1, u2, u3] ∧ RelV v1 u1 ∧ RelV v2 u2 ∧ RelV v3 u3 := by
    cases r1 with
    | cons r1 t1 => cases t1 with
      | cons r2 t2 => cases t2 with
        | cons r3 t3 => cases t3; exact ⟨_, _, _, rfl, r1, r2, r3⟩
  obtain rfl := ev1 u1 ru1
  obtain rfl := ev2 u2 ru2
  obtain rfl := ev3 u3 ru3
  obtain ⟨its, rv, ar, hz, hlt⟩ := Sq.get I1 hq1
  obtain ⟨its2, rv2, ar2, hz2, hlt2⟩ := Sq.get I1 hq2
  obtain ⟨its3, rv3, ar3, hz3, hlt3⟩ := Sq.get I1 hq3
  refine PySem.zip_begins3 (q1.begins its.toArray) (q2.begins its2.toArray) (q3.begins its3.toArray) ar ar2 ar3 fun h' hz' hT hO h1 h2 h3 _ hk => wpAny_pyIter_zip hz' ?_
  refine ⟨_, _, _, _, H1, rfl, I1.kept (t' := s1.toks) hk, turn_Z3 (q1 := q1) (q2 := q2) (q3 := q3) (xs := xs) (ys := ys) (zs := zs) hlt hlt2 hlt3, ⟨hz', hT, ⟨_, _, _, hO⟩, Sq.it_new h1, Sq.it_new h2, Sq.it_new h3⟩, fun b hb => ?_, hR hz⟩
  have hle : s1.heap.objs.size ≤ b := by
    have e' : b = s1.heap.objs.size + 5 ∨ b = s1.heap.objs.size + 3 ∨ b = s1.heap.objs.size + 4 ∨ b = s1.heap.objs.size ∨ b = s1.heap.objs.size + 1 ∨ b = s1.heap.objs.size + 2 := by simpa using hb
    rcases e' with z | z | z | z | z | z
    all_goals (rw [z]; first | exact Nat.le_refl _ | exact Nat.le_add_right _ _)
  exact I1.fpOk hle (I1.hok.fresh hle)
theorem gi_zip3 {p tpos : Pos} {elts : List Expr} {kk : Nat} (hg : Gl X "zip") (hm : X.mg "zip" = none) (h1 : GE cl X a da) (h2 : GE cl X b db) (h3 : GE cl X c dc) (hs : starEach [a, b, c] X.env = (false, eval a X.env) :: starEach [b, c] X.env)
    (hs2 : starEach [b, c] X.env = (false, eval b X.env) :: starEach [c] X.env) (hs3 : starEach [c] X.env = (false, eval c X.env) :: starEach [] X.env) (hpl : (backTo pos (starEach [b, c] X.env)).any (·.1) = false) : GI cl X (.Tuple elts kk tpos) (.Call (.Name "zip" p) [a, b, c] [] pos) (iZ3 da db dc) := fun W tk =>
  PI.weak (pi_ZA3 hg hm (pa_cons (h1 W tk) (pa_cons (h2 W tk) (pa_cons (h3 W tk) pa_nil hs3) hs2) hs) hs hpl) fun σ H Q ⟨ρ, S, g, sim, cc⟩ =>
    Con.go sim cc fun v H1 d1 S1 g1 e1 s1 f1 r1 c1 => Con.go s1 c1 fun v2 H2 d2 S2 g2 e2 s2 f2 r2 c2 => Con.go s2 c2 fun v3 H3 d3 S3 g3 e3 s3 f3 r3 c3 => by
      obtain ⟨xs, ex, c3⟩ := c3.opt
      obtain ⟨ys, ey, c3⟩ := c3.opt
      obtain ⟨zs, ez, c4⟩ := c3.opt
      obtain ⟨q1, vs1, ev1, l1, hq1⟩ := Sq.rep (Rep.mono (f2.trans f3).le r1) ex
      obtain ⟨q2, vs2, ev2, l2, hq2⟩ := Sq.rep (Rep.mono f3.le r2) ey
      obtain ⟨q3, vs3, ev3, l3, hq3⟩ := Sq.rep r3 ez
      refine ⟨v, v2, v3, q1, q2, q3, vs1, vs2, vs3, rfl, ev1, ev2, ev3, hq1 _ _ _ .refl s3.st, hq2 _ _ _ .refl s3.st, hq3 _ _ _ .refl s3.st, fun hz => c4 _ g3 H3 s3.st .refl ?_⟩
      have z := tup_itD (w := wd X cl) (g := g3) (srcs := [(q1, vs1), (q2, vs2), (q3, vs3)]) (n := min (min vs1.length vs2.length) vs3.length) (row := rowZ3 vs1 vs2 vs3) (items := (xs.zip (ys.zip zs)).map fun q => [q.1, q.2.1, q.2.2])
        (by rw [List.length_map, List.length_zip, List.length_zip, l1.length, l2.length, l3.length, Nat.min_assoc]) (Nat.le_trans (Nat.min_le_left _ _) (Nat.le_trans (Nat.min_le_left _ _) hz))
        (fun g2 H2 S2 le s p hp => by
          have hp : p = (q1, vs1) ∨ p = (q2, vs2) ∨ p = (q3, vs3) := by simpa using hp
          rcases hp with hp | hp | hp
          · rw [hp]; exact hq1 _ _ _ le s
          · rw [hp]; exact hq2 _ _ _ le s
          · rw [hp]; exact hq3 _ _ _ le s) (fun i ds e => by
          rw [List.getElem?_map] at e
          cases e2 : (xs.zip (ys.zip zs))[i]? with
          | none => rw [e2] at e; cases e
          | some x =>
            rw [e2] at e
            cases e
            obtain ⟨k1, k2⟩ := List.getElem?_zip_eq_some.mp e2
            obtain ⟨k2, k3⟩ := List.getElem?_zip_eq_some.mp k2
            exact .cons (repL_getD l1 k1) (.cons (repL_getD l2 k2) (.cons (repL_getD l3 k3) .nil)))
      rw [List.map_map] at z
      exact z

/-! ### for -/
/-- the entry of a part: what stands here -/
def Bs.here (B : Bs) (g : Gh) (H : Hp) (ρ : LEnv) (σ : St) : Bs := ⟨g, H, fun a => ∃ (i : Nat) (o : MO), ρ[i]? = some (Slot.own o) ∧ σ[i]? = some (some (V.ref a)), B.fix⟩
theorem Outr.self {B : Bs} {g : Gh} {H : Hp} {ρ : LEnv} {σ : St} (o : Outr B g H ρ σ) : Outr (B.here g H ρ σ) g H ρ σ := ⟨⟨.refl, fun _ _ h f m _ => ⟨h, f, m⟩, fun _ _ h => ⟨_, h⟩⟩, fun i o a e1 e2 => .inr ⟨i, o, e1, e2⟩, o.fx⟩
theorem Out0.back {B : Bs} {g g' : Gh} {H H' : Hp} {ρ : LEnv} {σ : St} (o : Outr B g H ρ σ) (p : Out0 (B.here g H ρ σ) g' H') : Out0 B g' H' := ⟨o.o.le.trans p.le, fun a u e1 e2 e3 e4 => by
  obtain ⟨h1, h2, h3⟩ := o.o.out a u e1 e2 e3 e4
  refine p.out a u h1 h2 h3 fun ⟨i, x, q1, q2⟩ => ?_
  rcases o.ow i x a q1 q2 with z | z
  · rw [e1] at z; cases z
  · exact e4 z, fun a u e => by
  obtain ⟨_, h⟩ := o.o.th a u e
  exact p.th a _ h⟩
theorem Outr.back {B : Bs} {g g' : Gh} {H H' : Hp} {ρ ρ' : LEnv} {σ σ' : St} (o : Outr B g H ρ σ) (p : Outr (B.here g H ρ σ) g' H' ρ' σ') : Outr B g' H' ρ' σ' := ⟨.back o p.o, fun i x a e1 e2 => by
  rcases p.ow i x a e1 e2 with z | ⟨j, y, q1, q2⟩
  · left
    cases e : B.H a with
    | none => rfl
    | some u =>
      obtain ⟨_, h⟩ := o.o.th a u e
      have z : H a = none := z
      rw [z] at h; cases h
  · exact o.ow j y a q1 q2, p.fx⟩
/-- an outcome, seen from here -/
theorem ConS.here {w : Wd} {W : WX} {B : Bs} {D D' : Ends} {g : Gh} {H : Hp} {ρ : LEnv} {σ : St} {o : SOut} (ou : Outr B g H ρ σ)
    (h : match o with
      | .nx ρ' S' => ∀ σ' g' H', Sim w g' H' ρ' σ' S' → Outr B g' H' ρ' σ' → Le g g' → D'.nx σ' H'
      | .ct ρ' S' => ∀ σ' g' H', Sim w g' H' ρ' σ' S' → Outr B g' H' ρ' σ' → Le g g' → D'.ct σ' H'
      | .bk ρ' S' => ∀ σ' g' H', Sim w g' H' ρ' σ' S' → Outr B g' H' ρ' σ' → Le g g' → D'.bk σ' H'
      | o => ConS w W B D o) (hr : D'.rt = D.rt) : ConS w W (B.here g H ρ σ) D' o := by
  cases o with
  | nx ρ' S' => exact fun σ' g' H' s p => h σ' g' H' s (ou.back p) p.o.le
  | ct ρ' S' => exact fun σ' g' H' s p => h σ' g' H' s (ou.back p) p.o.le
  | bk ρ' S' => exact fun σ' g' H' s p => h σ' g' H' s (ou.back p) p.o.le
  | rt d S' => exact fun v g' H' s p r => by rw [hr]; exact h v g' H' s (.back ou p) r
  | ex c fs ρ' S' => exact fun C d σ' g' H' s p => h C d σ' g' H' s (ou.back p)
  | stuck => exact h.elim
def forL (n : NX) (body : SX) : List D → SX
  | [], ρ, S => .nx ρ S
  | d :: ds, ρ, S => match n d ρ with
    | some ρ' => (body ρ' S).loop (forL n body ds)
    | none => .stuck
def sFor (it : IX) (n : NX) (body : SX) : SX := fun ρ S => (it ρ S).st ρ fun items S => forL n body items ρ S
theorem gs_for {it : Expr} {ss : List Stmt} {di : IX} {n : NX} {p : SX} {vs : List Nat} (hc : X.calm = true) (hi : GI cl X tg it di) (hn : GN cl X vs tg n) (hb : GSs cl X ss p) (hs : ∀ x, foldedSetIterable it X.env x = pure x) : GS cl X (.For tg it ss [] pos) (sFor di n p) := fun W tk hp =>
  PS.weak (ps_for hp hc (hi W tk) hn (hb W tk hp) hs) fun D σ H ⟨ρ, S, g, B, sim, o, c⟩ => ConS.go sim o c fun J H1 items S1 g1 e1 s1 o1 f1 r1 c1 => by
    have r1 : ItD (wd X cl) g1 items J := r1
    refine ⟨fun i m σ H => m = items.length - i ∧ i ≤ items.length ∧ ∃ ρ S g, Sim (wd X cl) g H ρ σ S ∧ Outr B g H ρ σ ∧ Le g1 g ∧ ConS (wd X cl) W B D (forL n p (items.drop i) ρ S), ⟨_, rfl, Nat.zero_le _, ρ, S1, g1, s1, o1, .refl, c1⟩, ?_⟩
    rintro i m σ H ⟨rfl, hi, ρ, S, g, sim, o, le, c⟩
    by_cases hlt : i < items.length
    · right
      rw [List.drop_eq_getElem_cons hlt] at c
      obtain ⟨hgo, hy⟩ := r1.go g H S le sim.st i hlt
      refine ⟨hgo, fun σ H => ∃ ρ S g, Sim (wd X cl) g H ρ σ S ∧ Outr B g H ρ σ ∧ Le g1 g ∧ ConS (wd X cl) W B D (forL n p (items.drop (i + 1)) ρ S), fun σ' H' h => ⟨items.length - (i + 1), by omega, rfl, hlt, h⟩, fun x H' y => ?_⟩
      obtain ⟨g2, d, ed, rd, s2, f2⟩ := hy x H' y
      rw [List.getElem?_eq_getElem hlt] at ed
      cases ed
      unfold forL at c
      cases en : n items[i] ρ with
      | none => rw [en] at c; exact c.elim
      | some ρ' =>
        rw [en] at c
        dsimp only at c
        refine ⟨_, ρ, S, g2, ρ', sim.fr f2 s2, rd, en, fun σ' s' k => ⟨ρ', S, g2, _, s', .self (k.outr (o.fr f2)), ?_⟩⟩
        refine ConS.here (D := D) (B := B) (k.outr (o.fr f2)) ?_ rfl
        cases e2 : p ρ' S with
        | nx ρ3 S3 => rw [e2] at c; exact fun σ3 g3 H3 s3 o3 l3 => ⟨ρ3, S3, g3, s3, o3, (le.trans f2.le).trans l3, c⟩
        | ct ρ3 S3 => rw [e2] at c; exact fun σ3 g3 H3 s3 o3 l3 => ⟨ρ3, S3, g3, s3, o3, (le.trans f2.le).trans l3, c⟩
        | bk ρ3 S3 => rw [e2] at c; exact fun σ3 g3 H3 s3 o3 l3 => c σ3 g3 H3 s3 o3
        | rt d3 S3 => rw [e2] at c; exact c
        | ex x3 fs ρ3 S3 => rw [e2] at c; exact c
        | stuck => rw [e2] at c; exact c
    · left
      have e : i = items.length := by omega
      subst e
      rw [List.drop_length] at c
      exact ⟨r1.done g H S le sim.st, c σ g H sim o⟩
end
end GG
end

section
/-! G.J: new lists and dicts: frozen, kept by a slot, or laid into the store; comprehensions. -/
set_option linter.all false
set_option maxRecDepth 100000
namespace GG
open PySem L2
open PyProof.Rows hiding St

abbrev MX := LEnv → Store → Out (MO × Store)
def MO.frz : MO → D
  | .lst xs => .lst xs
  | .dic ks vs => .dic ks vs
  | .ins c fs vs => .obj c fs vs
/-- a new thing, nobody else's -/
def RN (w : Wd) (H0 : Hp) : Gh → Hp → MO → V → Prop := fun g H mo v => ∃ a, v = .ref a ∧ H0 a = none ∧ g.F a = none ∧ (∀ j, g.m j ≠ some a) ∧ MOk w g H a mo
section
variable {w : Wd} {g g1 : Gh} {H H1 : Hp} {S : Store} {a : Addr} {mo : MO}
theorem not_lockable {u : HO} (h : ∀ l, u ≠ .dK l) : ¬ lockable u := fun z => by cases u <;> first | exact h _ rfl | exact z
theorem MOk.lay (m : MOk w g1 H1 a mo) : ∃ u, H1 a = some u ∧ ∀ g2, Le g1 g2 → g2.F a = some u → Rep w g2 mo.frz (.ref a) := by
  cases mo with
  | lst xs =>
    obtain ⟨vs, e, r⟩ := m
    exact ⟨_, e, fun g2 l q => rep_lst'.mpr ⟨a, vs, rfl, q, r.mono l⟩⟩
  | dic ks xs =>
    obtain ⟨vs, u, e, d, r⟩ := m
    exact ⟨_, e, fun g2 l q => rep_dic'.mpr ⟨a, vs, u, rfl, q, d, r.mono l⟩⟩
  | ins c fs xs =>
    obtain ⟨kc, C, dx, vs, hc, e, z, r⟩ := m
    exact ⟨_, e, fun g2 l q => rep_obj'.mpr ⟨kc, a, C, dx, vs, rfl, hc, q, z, r.mono l⟩⟩
/-- it stays as it is from here on -/
theorem freeze (s : SimS w g1 H1 S) (h2 : g1.F a = none) (h3 : ∀ j, g1.m j ≠ some a) (m : MOk w g1 H1 a mo) : ∃ g2, SimS w g2 H1 S ∧ Le g1 g2 ∧ Rep w g2 mo.frz (.ref a) ∧ g2.m = g1.m ∧ ∀ b, b ≠ a → g2.F b = g1.F b := by
  obtain ⟨u, e, r⟩ := m.lay
  have l : Le g1 (g1.put a u) := ⟨fun b o q => by
    have : b ≠ a := fun z => by rw [z, h2] at q; cases q
    show upd g1.F a u b = some o
    rw [upd_ne this]; exact q, fun _ _ q => q⟩
  refine ⟨g1.put a u, ⟨fun b o q => ?_, s.dom, s.inj, fun i o b e1 e2 => ?_⟩, l, r _ l upd_same, rfl, fun b hb => upd_ne hb⟩
  · have q : upd g1.F a u b = some o := q
    by_cases z : b = a
    · subst z; rw [upd_same] at q; cases q; exact .inl e
    · rw [upd_ne z] at q; exact s.sub b o q
  · obtain ⟨k1, k2⟩ := s.at_ i o b e1 e2
    have hb : b ≠ a := fun z => h3 i (by rw [← z]; exact e2)
    exact ⟨by show upd g1.F a u b = none; rw [upd_ne hb]; exact k1, k2.mono l fun _ q => q⟩
theorem Fr.more {g2 : Gh} (f : GG.Fr g H g1 H1) (h0 : H a = none) (l : Le g1 g2) (hm : g2.m = g1.m) (hF : ∀ b, b ≠ a → g2.F b = g1.F b) : GG.Fr g H g2 H1 := ⟨f.le.trans l, fun b u e k1 k2 => by
  obtain ⟨z1, z2, z3⟩ := f.out b u e k1 k2
  exact ⟨z1, by rw [hF b (ne_of_none e h0)]; exact z2, by rw [hm]; exact z3⟩, f.th⟩
def Gh.ptr (g : Gh) (n : Nat) (a : Addr) : Gh := ⟨g.F, fun j => if j = n then some a else g.m j⟩
theorem SimS.nom (s : SimS w g1 H1 S) : g1.m S.length = Option.none := by
  cases e : g1.m S.length with
  | none => rfl
  | some b => exact absurd ((s.dom S.length).mpr ⟨b, e⟩) (Nat.lt_irrefl _)
theorem le_ptr (s : SimS w g1 H1 S) : Le g1 (g1.ptr S.length a) := ⟨fun _ _ q => q, fun i b q => by
  show (if i = S.length then some a else g1.m i) = some b
  rw [if_neg fun z => by rw [z, s.nom] at q; cases q]; exact q⟩
/-- it is laid into the store -/
theorem lay_ptr (s : SimS w g1 H1 S) (h2 : g1.F a = none) (h3 : ∀ j, g1.m j ≠ some a) (m : MOk w g1 H1 a mo) : SimS w (g1.ptr S.length a) H1 (S ++ [mo]) := by
  have l := le_ptr (a := a) s
  refine ⟨s.sub, fun i => ?_, fun i j b e1 e2 => ?_, fun i o b e1 e2 => ?_⟩
  · rw [List.length_append, List.length_singleton]
    show i < S.length + 1 ↔ ∃ b, (if i = S.length then some a else g1.m i) = some b
    by_cases z : i = S.length
    · rw [if_pos z]; exact ⟨fun _ => ⟨a, rfl⟩, fun _ => by omega⟩
    · rw [if_neg z, ← s.dom i]; omega
  · have e1 : (if i = S.length then some a else g1.m i) = some b := e1
    have e2 : (if j = S.length then some a else g1.m j) = some b := e2
    by_cases z1 : i = S.length
    · by_cases z2 : j = S.length
      · rw [z1, z2]
      · rw [if_pos z1] at e1; rw [if_neg z2] at e2; cases e1; exact absurd e2 (h3 j)
    · by_cases z2 : j = S.length
      · rw [if_neg z1] at e1; rw [if_pos z2] at e2; cases e2; exact absurd e1 (h3 i)
      · rw [if_neg z1] at e1; rw [if_neg z2] at e2; exact s.inj i j b e1 e2
  · have e2 : (if i = S.length then some a else g1.m i) = some b := e2
    by_cases z : i = S.length
    · subst z
      rw [if_pos rfl] at e2; cases e2
      rw [List.getElem?_append_right (Nat.le_refl _), Nat.sub_self] at e1
      cases e1
      exact ⟨h2, m.mono l fun _ q => q⟩
    · rw [if_neg z] at e2
      have hi : i < S.length := (s.dom i).mpr ⟨b, e2⟩
      rw [List.getElem?_append_left hi] at e1
      obtain ⟨k1, k2⟩ := s.at_ i o b e1 e2
      exact ⟨k1, k2.mono l fun _ q => q⟩
theorem Fr.ptr {n : Nat} (f : GG.Fr g H g1 H1) (h0 : H a = none) (l : Le g1 (g1.ptr n a)) : GG.Fr g H (g1.ptr n a) H1 := ⟨f.le.trans l, fun b u e k1 k2 => by
  obtain ⟨z1, z2, z3⟩ := f.out b u e k1 k2
  refine ⟨z1, z2, fun j => ?_⟩
  show ¬ (if j = n then some a else g1.m j) = some b
  by_cases z : j = n
  · rw [if_pos z]; intro q; cases q; rw [e] at h0; cases h0
  · rw [if_neg z]; exact z3 j, f.th⟩
end
/-- the outcome's value told otherwise -/
theorem Con.map {w : Wd} {W : WX} {σ : L2.St} {α β γ : Type} {R : Gh → Hp → α → β → Prop} {R' : Gh → Hp → γ → β → Prop} {g : Gh} {H : Hp} {Q : β → Hp → Prop} {o : Out (α × Store)} {f : α × Store → γ × Store} (c : GG.Con w W σ R' g H Q (o.bind fun p => .ok (f p)))
    (h : ∀ b g1 H1 a S1, SimS w g1 H1 S1 → GG.Fr g H g1 H1 → R g1 H1 a b → ∃ g2, SimS w g2 H1 (f (a, S1)).2 ∧ GG.Fr g H g2 H1 ∧ R' g2 H1 (f (a, S1)).1 b) : GG.Con w W σ R g H Q o := by
  cases o with
  | ok p =>
    exact fun b g1 H1 s f1 r => by
      obtain ⟨g2, s2, f2, r2⟩ := h b g1 H1 p.1 p.2 s f1 r
      exact c b g2 H1 s2 f2 r2
  | exc x fs S' => exact c
  | stuck => exact c

variable (cl : Wp)
def GM (X : Cx) (e : Expr) (den : MX) : Prop := ∀ W, Takes X W → PE X e (fun σ H Q => tX (wd X cl) W (RN (wd X cl) H) den σ H Q)
def GMs (X : Cx) (st : Stmt) (i : Nat) (den : MX) : Prop := ∀ W, Takes X W → PS X st (tAsg (fun σ H Q => tX (wd X cl) W (RN (wd X cl) H) den σ H Q) (gName i))
def eFz (n : MX) : EX := fun ρ S => (n ρ S).bind fun p => .ok (p.1.frz, p.2)
def eAl (n : MX) : EX := fun ρ S => (n ρ S).bind fun p => .ok (.ptr p.2.length, p.2 ++ [p.1])
def sOwn (i : Nat) (n : MX) : SX := fun ρ S => (n ρ S).st ρ fun mo S => .nx (ρ.set i (.own mo)) S
section
variable {cl} {X : Cx} {e : Expr} {st : Stmt} {n : MX} {pos : Pos} {i : Nat}
theorem rd_fz {w : Wd} {W : WX} {σ : L2.St} {H : Hp} {Q : VK} (h : tX w W (RE w) (eFz n) σ H Q) : tX w W (RN w H) n σ H Q := by
  obtain ⟨ρ, S, g, sim, c⟩ := h
  refine ⟨ρ, S, g, sim, Con.map (f := fun p => (p.1.frz, p.2)) c fun b g1 H1 a S1 s1 f1 ⟨x, eb, h0, h2, h3, m⟩ => ?_⟩
  obtain ⟨g2, s2, l, r, hm, hF⟩ := freeze s1 h2 h3 m
  exact ⟨g2, s2, f1.more h0 l hm hF, by rw [eb]; exact r⟩
theorem rd_al {w : Wd} {W : WX} {σ : L2.St} {H : Hp} {Q : VK} (h : tX w W (RE w) (eAl n) σ H Q) : tX w W (RN w H) n σ H Q := by
  obtain ⟨ρ, S, g, sim, c⟩ := h
  refine ⟨ρ, S, g, sim, Con.map (f := fun p => (GG.D.ptr p.2.length, p.2 ++ [p.1])) c fun b g1 H1 a S1 s1 f1 ⟨x, eb, h0, h2, h3, m⟩ => ?_⟩
  have l := le_ptr (a := x) s1
  exact ⟨_, lay_ptr s1 h2 h3 m, f1.ptr h0 l, by rw [eb]; exact rep_ptr.mpr ⟨x, if_pos rfl, rfl⟩⟩
theorem ge_fz (h : GM cl X e n) : GE cl X e (eFz n) := fun W tk => PE.weak (h W tk) fun σ H Q => rd_fz
theorem ge_al (h : GM cl X e n) : GE cl X e (eAl n) := fun W tk => PE.weak (h W tk) fun σ H Q => rd_al
theorem gms_of {x : Str} {p' : Pos} (hN : X.N.Nodup) (hi : X.N[i]? = some x) (hx : Loc X.env.scope x) (h : GM cl X e n) (hs : swapsWith e (some (.Name x p')) pos.line X.env = pure false)
    (hf : X.fn x = true ∨ X.env.scope.names.lookup x = some .local) : GMs cl X (.Assign [.Name x p'] e pos) i n := fun W tk => ps_set hN hi hx (h W tk) hs hf
/-- from what the statement wants, what the new thing wants -/
theorem rd_st {w : Wd} {W : WX} {B : Bs} {D : Ends} {σ : L2.St} {H : Hp} {ρ : LEnv} {S : Store} {g : Gh} {k : MO → Store → SOut} {T : V → Hp → Prop} (sim : Sim w g H ρ σ S) (o : Outr B g H ρ σ) (c : ConS w W B D ((n ρ S).st ρ k))
    (h : ∀ b H1 mo S1 g1, Sim w g1 H1 ρ σ S1 → Outr B g1 H1 ρ σ → GG.Fr g H g1 H1 → RN w H g1 H1 mo b → ConS w W B D (k mo S1) → T b H1) : tX w W (RN w H) n σ H T :=
  ConS.go sim o c fun b H1 mo S1 g1 _ s1 o1 f1 r1 c1 => h b H1 mo S1 g1 s1 o1 f1 r1 c1
theorem Sim.setOwn {w : Wd} {g g1 : Gh} {H H1 : Hp} {ρ : LEnv} {σ : L2.St} {S S1 : Store} {mo : MO} {b : V} (s0 : Sim w g H ρ σ S) (s : Sim w g1 H1 ρ σ S1) (r : RN w H g1 H1 mo b) (i : Nat) : Sim w g1 H1 (ρ.set i (.own mo)) (σ.set i (some b)) S1 := by
  obtain ⟨a, rfl, h0, h2, h3, m⟩ := r
  have far : ∀ (j : Nat) o c, ρ[j]? = some (Slot.own o) → σ[j]? = some (some (V.ref c)) → c ≠ a := fun j o c e1 e2 z => by
    obtain ⟨c', q1, _, _, q4⟩ := s0.own j o e1
    rw [e2] at q1; cases q1
    obtain ⟨u, hu⟩ := q4.there
    rw [z, h0] at hu; cases hu
  have atI : ∀ {x : Slot}, (ρ.set i (.own mo))[i]? = some x → x = .own mo ∧ i < σ.length := fun {x} e => by
    by_cases hl : i < ρ.length
    · rw [List.getElem?_set_self hl] at e; cases e; exact ⟨rfl, by rw [← s.len]; exact hl⟩
    · rw [List.getElem?_eq_none (by simpa using hl)] at e; cases e
  refine ⟨s.st, by rw [List.length_set, List.length_set]; exact s.len, fun j d e => ?_, fun j o e => ?_, fun j k o u c e1 e2 e3 e4 => ?_, fun j e => ?_⟩
  · by_cases hj : i = j
    · subst hj; cases (atI e).1
    · rw [List.getElem?_set_ne hj] at e ⊢; exact s.val j d e
  · by_cases hj : i = j
    · subst hj
      obtain ⟨z, hl⟩ := atI e
      cases z
      exact ⟨a, List.getElem?_set_self hl, h2, h3, m⟩
    · rw [List.getElem?_set_ne hj] at e ⊢; exact s.own j o e
  · by_cases hj : i = j
    · by_cases hk : i = k
      · rw [← hj, ← hk]
      · subst hj
        rw [List.getElem?_set_self (atI e1).2] at e3; cases e3
        rw [List.getElem?_set_ne hk] at e2 e4
        exact absurd rfl (far k u _ e2 e4)
    · by_cases hk : i = k
      · subst hk
        rw [List.getElem?_set_self (atI e2).2] at e4; cases e4
        rw [List.getElem?_set_ne hj] at e1 e3
        exact absurd rfl (far j o _ e1 e3)
      · rw [List.getElem?_set_ne hj] at e1 e3
        rw [List.getElem?_set_ne hk] at e2 e4
        exact s.apart j k o u c e1 e2 e3 e4
  · by_cases hj : i = j
    · subst hj; cases (atI e).1
    · rw [List.getElem?_set_ne hj] at e ⊢; exact s.xc j e
theorem Outr.setOwn {B : Bs} {g : Gh} {H : Hp} {ρ : LEnv} {σ : L2.St} (o : Outr B g H ρ σ) (i : Nat) {mo : MO} {b : V} (h0 : i ≠ 0) (h : ∀ a, b = .ref a → B.H a = none) : Outr B g H (ρ.set i (.own mo)) (σ.set i (some b)) := ⟨o.o, fun j u a e1 e2 => by
  by_cases hj : i = j
  · subst hj
    by_cases hl : i < σ.length
    · rw [List.getElem?_set_self hl] at e2; cases e2; exact .inl (h a rfl)
    · rw [List.getElem?_eq_none (by simpa using hl)] at e2; cases e2
  · rw [List.getElem?_set_ne hj] at e1 e2
    exact o.ow j u a e1 e2, fun p u e1 e2 => by
  rw [List.getElem?_set_ne h0] at e2 ⊢
  exact o.fx p u e1 e2⟩
theorem gs_own (h0 : i ≠ 0) (h : GMs cl X st i n) : GS cl X st (sOwn i n) := fun W tk hp => PS.weak (h W tk) fun D σ H ⟨ρ, S, g, B, sim, o, c⟩ => rd_st sim o c fun b H1 mo S1 g1 s1 o1 f1 r1 c1 =>
  c1 _ g1 H1 (sim.setOwn s1 r1 i) (o1.setOwn i h0 fun a eb => by
    obtain ⟨a', e', h0, _⟩ := r1
    rw [eb] at e'; cases e'
    cases z : B.H a with
    | none => rfl
    | some u =>
      obtain ⟨_, q⟩ := o.o.th a u z
      rw [h0] at q; cases q)
/-- a new thing, then a plain value: what a statement wants of both -/
theorem rd_set {w : Wd} {W : WX} {σ : L2.St} {H : Hp} {D : Ends} {da : EX} (back : ∀ Q, tX w W (RE w) da σ H Q → tX w W (RN w H) n σ H Q) (h : tS w W (sSet i da) D σ H) : tAsg (fun σ H Q => tX w W (RN w H) n σ H Q) (gName i) D σ H := by
  obtain ⟨ρ, S, g, B, sim, o, c⟩ := h
  exact back _ (ConS.go sim o c fun v H1 d S1 g1 e1 s1 o1 f1 r1 c1 => c1 _ g1 H1 (s1.set i r1) (o1.set i d (some v)))
theorem gs_setF (h : GMs cl X st i n) : GS cl X st (sSet i (eFz n)) := fun W tk hp => PS.weak (h W tk) fun D σ H h => rd_set (fun Q => rd_fz) h
theorem gs_setP (h : GMs cl X st i n) : GS cl X st (sSet i (eAl n)) := fun W tk hp => PS.weak (h W tk) fun D σ H h => rd_set (fun Q => rd_al) h
end
end GG
end

section
/-! G.J2: list displays, list comprehensions; a slot's own thing frozen. -/
set_option linter.all false
set_option maxRecDepth 100000
namespace GG
open PySem L2
open PyProof.Rows hiding St

theorem SimS.off {w : Wd} {g : Gh} {H : Hp} {S : Store} {p : Addr} {u : HO} (s : SimS w g H S) (h2 : g.F p = Option.none) (h3 : ∀ j, g.m j ≠ some p) : SimS w g (upd H p u) S := by
  refine ⟨fun b o q => ?_, s.dom, s.inj, fun i o b e1 e2 => ?_⟩
  · rw [upd_ne fun z => by rw [z, h2] at q; cases q]; exact s.sub b o q
  · obtain ⟨k1, k2⟩ := s.at_ i o b e1 e2
    exact ⟨k1, k2.mono .refl fun u q => by rw [upd_ne fun z => h3 i (by rw [← z]; exact e2)]; exact q⟩
theorem Sim.off {w : Wd} {g : Gh} {H : Hp} {ρ : LEnv} {σ : L2.St} {S : Store} {p : Addr} {u : HO} (s : Sim w g H ρ σ S) (h2 : g.F p = none) (h3 : ∀ j, g.m j ≠ some p) (h4 : ∀ (i : Nat) o b, ρ[i]? = some (Slot.own o) → σ[i]? = some (some (V.ref b)) → b ≠ p) : Sim w g (upd H p u) ρ σ S where
  st := s.st.off h2 h3
  len := s.len
  val := s.val
  own := fun i o e => by
    obtain ⟨a, k1, k2, k3, k4⟩ := s.own i o e
    exact ⟨a, k1, k2, k3, k4.mono .refl fun u q => by rw [upd_ne (h4 i o a e k1)]; exact q⟩
  apart := s.apart
  xc := s.xc
theorem Fr.off {g g1 : Gh} {H H1 : Hp} {p : Addr} {u : HO} (f : GG.Fr g H g1 H1) (h0 : H p = none) : GG.Fr g H g1 (upd H1 p u) := ⟨f.le, fun a o e k1 k2 => by
  rw [upd_ne (ne_of_none e h0)]; exact f.out a o e k1 k2, fun a o e => by
  rw [upd_ne (ne_of_none e h0)]; exact f.th a o e⟩
theorem Fr.none {g g1 : Gh} {H H1 : Hp} {p : Addr} (f : GG.Fr g H g1 H1) (h : H1 p = Option.none) : H p = Option.none := by
  cases e : H p with
  | none => rfl
  | some u =>
    obtain ⟨_, q⟩ := f.th p u e
    rw [h] at q; cases q
def wipeD (ρ : LEnv) : List Nat → LEnv
  | [] => ρ
  | v :: vs => (wipeD ρ vs).set v .no
theorem wipeD_get {ρ : LEnv} : ∀ {vs : List Nat} {i : Nat} {x : Slot}, (wipeD ρ vs)[i]? = some x → (i ∈ vs ∧ x = .no) ∨ (i ∉ vs ∧ ρ[i]? = some x)
  | [], _, _, h => .inr ⟨by simp, h⟩
  | v :: vs, i, x, h => by
    unfold wipeD at h
    by_cases hv : v = i
    · subst hv
      left
      by_cases hl : v < (wipeD ρ vs).length
      · rw [List.getElem?_set_self hl] at h; cases h; exact ⟨List.mem_cons_self, rfl⟩
      · rw [List.getElem?_eq_none (by simpa using hl)] at h; cases h
    · rw [List.getElem?_set_ne hv] at h
      rcases wipeD_get h with ⟨h1, h2⟩ | ⟨h1, h2⟩
      · exact .inl ⟨List.mem_cons_of_mem _ h1, h2⟩
      · exact .inr ⟨fun z => (List.mem_cons.mp z).elim (fun q => hv q.symm) h1, h2⟩
theorem wipeD_len {ρ : LEnv} : ∀ {vs : List Nat}, (wipeD ρ vs).length = ρ.length
  | [] => rfl
  | v :: vs => by unfold wipeD; rw [List.length_set, wipeD_len]
theorem wipe_not {σ : L2.St} {vs : List Nat} {i : Nat} (h : i ∉ vs) : (wipe σ vs)[i]? = σ[i]? := by rw [wipe_get, if_neg fun z => h z.1]
theorem Sim.wipe {w : Wd} {g : Gh} {H : Hp} {ρ : LEnv} {σ : L2.St} {S : Store} (s : Sim w g H ρ σ S) (vs : List Nat) : Sim w g H (wipeD ρ vs) (wipe σ vs) S where
  st := s.st
  len := by rw [wipeD_len, wipe_length]; exact s.len
  val := fun i d e => by
    rcases wipeD_get e with ⟨_, h⟩ | ⟨h1, h2⟩
    · cases h
    · rw [wipe_not h1]; exact s.val i d h2
  own := fun i d e => by
    rcases wipeD_get e with ⟨_, h⟩ | ⟨h1, h2⟩
    · cases h
    · rw [wipe_not h1]; exact s.own i d h2
  apart := fun i j o u a e1 e2 e3 e4 => by
    rcases wipeD_get e1 with ⟨_, h⟩ | ⟨h1, h2⟩
    · cases h
    rcases wipeD_get e2 with ⟨_, h⟩ | ⟨h3, h4⟩
    · cases h
    rw [wipe_not h1] at e3
    rw [wipe_not h3] at e4
    exact s.apart i j o u a h2 h4 e3 e4
  xc := fun i e => by
    rcases wipeD_get e with ⟨_, h⟩ | ⟨h1, h2⟩
    · cases h
    · rw [wipe_not h1]; exact s.xc i h2
theorem wipe_wipe {σ : L2.St} {vs : List Nat} : wipe (wipe σ vs) vs = wipe σ vs := by
  apply List.ext_getElem?
  intro i
  rw [wipe_get, wipe_length]
  split
  · rename_i h; rw [wipe_get, if_pos h]
  · rfl
/-- own slots' things were there before -/
theorem Sim.far {w : Wd} {g : Gh} {H : Hp} {ρ : LEnv} {σ : L2.St} {S : Store} {p : Addr} (s : Sim w g H ρ σ S) (h : H p = Option.none) : ∀ (i : Nat) o b, ρ[i]? = some (Slot.own o) → σ[i]? = some (some (V.ref b)) → b ≠ p := fun i o b e1 e2 z => by
  obtain ⟨c, q1, _, _, q4⟩ := s.own i o e1
  rw [e2] at q1; cases q1
  obtain ⟨u, hu⟩ := q4.there
  rw [z, h] at hu; cases hu
/-- a part whose exceptions are not let through -/
theorem Con.calm_go {w : Wd} {W : WX} {σ σ2 : L2.St} {α β γ δ : Type} {R : Gh → Hp → α → β → Prop} {R' : Gh → Hp → γ → δ → Prop} {ρ : LEnv} {S3 : Store} {g g3 : Gh} {H H3 : Hp} {Q : δ → Hp → Prop} {T : β → Hp → Prop} {den : LEnv → Store → Out (α × Store)} {k : α × Store → Out (γ × Store)}
    (sim : Sim w g3 H3 ρ σ2 S3) (c : GG.Con w W σ R' g H Q ((den ρ S3).calm.bind k))
    (h : ∀ b H4 a S4 g4, Sim w g4 H4 ρ σ2 S4 → GG.Fr g3 H3 g4 H4 → R g4 H4 a b → GG.Con w W σ R' g H Q (k (a, S4)) → T b H4) : tX w (fun _ _ _ _ => False) R den σ2 H3 T := by
  refine ⟨ρ, S3, g3, sim, ?_⟩
  cases e : den ρ S3 with
  | ok p => rw [e] at c; exact fun b g4 H4 s f r => h b H4 p.1 p.2 g4 (sim.fr f s) f r c
  | exc x fs S' => rw [e] at c; exact c.elim
  | stuck => rw [e] at c; exact c.elim

def mLst (t : AX) : MX := fun ρ S => (t ρ S).bind fun p => if szOk p.1.length then .ok (.lst p.1, p.2) else .stuck
variable {cl : Wp} {X : Cx} {tg it a b c e : Expr} {es : List Expr} {da db dc : EX} {pos : Pos}
theorem new_RN {w : Wd} {g g1 : Gh} {H H1 : Hp} {S1 : Store} {p : Addr} {mo : MO} {u : HO} (s : SimS w g1 H1 S1) (f : GG.Fr g H g1 H1) (hp : H1 p = Option.none) (m : MOk w g1 (upd H1 p u) p mo) : SimS w g1 (upd H1 p u) S1 ∧ GG.Fr g H g1 (upd H1 p u) ∧ RN w H g1 (upd H1 p u) mo (.ref p) := by
  obtain ⟨h2, h3⟩ := SimS.none s hp
  exact ⟨s.off h2 h3, f.off (f.none hp), p, rfl, f.none hp, h2, h3, m⟩
/-- an outcome's first part, the base kept -/
theorem Con.fst {w : Wd} {W : WX} {σ : L2.St} {α β γ δ : Type} {R : Gh → Hp → α → β → Prop} {R' : Gh → Hp → γ → δ → Prop} {ρ : LEnv} {S : Store} {g : Gh} {H : Hp} {Q' : δ → Hp → Prop} {T : β → Hp → Prop}
    (sim : Sim w g H ρ σ S) {den : LEnv → Store → Out (α × Store)} {k : α × Store → Out (γ × Store)} (c : GG.Con w W σ R' g H Q' ((den ρ S).bind k))
    (h : ∀ b H1 a S1 g1, Sim w g1 H1 ρ σ S1 → GG.Fr g H g1 H1 → R g1 H1 a b → GG.Con w W σ R' g H Q' (k (a, S1)) → T b H1) : tX w W R den σ H T := by
  refine ⟨ρ, S, g, sim, ?_⟩
  cases e : den ρ S with
  | ok p => rw [e] at c; exact fun b g4 H4 s f r => h b H4 p.1 p.2 g4 (sim.fr f s) f r c
  | exc x fs S' => rw [e] at c; exact c
  | stuck => rw [e] at c; exact c
theorem gm_lst {t : AX} (h : GA cl X es t) : GM cl X (.List es pos) (mLst t) := fun W tk =>
  PE.weak (pe_lst (h W tk)) fun σ H Q ⟨ρ, S, g, sim, c⟩ => Con.fst sim c fun vs H1 ds S1 g1 s1 f1 r1 c1 => by
    have r1 : RepL (wd X cl) g1 ds vs := r1
    dsimp only at c1
    split at c1
    · rename_i hz
      refine ⟨by rw [← r1.length]; exact of_decide_eq_true hz, fun p hp => ?_⟩
      obtain ⟨t, f, r⟩ := new_RN (mo := .lst ds) (u := .lst vs) s1.st f1 hp ⟨vs, upd_same, r1⟩
      exact c1 _ _ _ t f r
    · exact c1.elim

/-! ### a slot's own thing is frozen -/
def frzAt (i : Nat) (ρ : LEnv) : LEnv := match ρ[i]? with
  | some (.own mo) => ρ.set i (.val mo.frz)
  | _ => ρ
def sFz (i : Nat) (k : SX) : SX := fun ρ S => k (frzAt i ρ) S
theorem Sim.fz {w : Wd} {B : Bs} {g : Gh} {H : Hp} {ρ : LEnv} {σ : L2.St} {S : Store} (s : Sim w g H ρ σ S) (o : Outr B g H ρ σ) (i : Nat) : ∃ g', Sim w g' H (frzAt i ρ) σ S ∧ Outr B g' H (frzAt i ρ) σ := by
  unfold frzAt
  split
  · rename_i mo e
    obtain ⟨a, k1, k2, k3, k4⟩ := s.own i mo e
    obtain ⟨g2, s2, l, r, hm, hF⟩ := freeze s.st k2 k3 k4
    have hi : i < ρ.length := (List.getElem?_eq_some_iff.mp e).1
    refine ⟨g2, ⟨s2, by rw [List.length_set]; exact s.len, fun j d q => ?_, fun j u q => ?_, fun j k u v b e1 e2 e3 e4 => ?_, fun j q => ?_⟩, ⟨⟨o.o.le.trans l, fun b u e1 e2 e3 e4 => ?_, o.o.th⟩, fun j u b e1 e2 => ?_, fun p u e1 e2 => ?_⟩⟩
    · by_cases hj : i = j
      · subst hj
        rw [List.getElem?_set_self hi] at q; cases q
        exact ⟨_, k1, r⟩
      · rw [List.getElem?_set_ne hj] at q
        obtain ⟨v, h1, h2⟩ := s.val j d q
        exact ⟨v, h1, h2.mono l⟩
    · by_cases hj : i = j
      · subst hj; rw [List.getElem?_set_self hi] at q; cases q
      · rw [List.getElem?_set_ne hj] at q
        obtain ⟨b, h1, h2, h3, h4⟩ := s.own j u q
        have hb : b ≠ a := fun z => hj (s.apart i j mo u a e q k1 (by rw [← z]; exact h1))
        exact ⟨b, h1, by rw [hF b hb]; exact h2, by rw [hm]; exact h3, h4.mono l fun _ q => q⟩
    · by_cases hj : i = j
      · subst hj; rw [List.getElem?_set_self hi] at e1; cases e1
      · by_cases hk : i = k
        · subst hk; rw [List.getElem?_set_self hi] at e2; cases e2
        · rw [List.getElem?_set_ne hj] at e1
          rw [List.getElem?_set_ne hk] at e2
          exact s.apart j k u v b e1 e2 e3 e4
    · by_cases hj : i = j
      · subst hj; rw [List.getElem?_set_self hi] at q; cases q
      · rw [List.getElem?_set_ne hj] at q
        exact s.xc j q
    · obtain ⟨h1, h2, h3⟩ := o.o.out b u e1 e2 e3 e4
      have hb : b ≠ a := fun z => by
        subst z
        rcases o.ow i mo b e k1 with q | q
        · rw [e1] at q; cases q
        · exact e4 q
      exact ⟨h1, by rw [hF b hb]; exact h2, by rw [hm]; exact h3⟩
    · by_cases hj : i = j
      · subst hj; rw [List.getElem?_set_self hi] at e1; cases e1
      · rw [List.getElem?_set_ne hj] at e1
        exact o.ow j u b e1 e2
    · by_cases hj : i = 0
      · subst hj; rw [List.getElem?_set_self hi] at e2; cases e2
      · rw [List.getElem?_set_ne hj] at e2
        exact o.fx p u e1 e2
  · exact ⟨g, s, o⟩
theorem gs_fz {st : Stmt} {k : SX} (i : Nat) (h : GS cl X st k) : GS cl X st (sFz i k) := fun W tk hp => PS.weak (h W tk hp) fun D σ H ⟨ρ, S, g, B, sim, o, c⟩ => by
  obtain ⟨g', s', o'⟩ := sim.fz o i
  exact ⟨_, S, g', B, s', o', c⟩

/-! ### list comprehensions -/
def lcL (n : NX) (t : BX) (e : EX) : List D → LEnv → Store → Out (List D × Store)
  | [], _, S => .ok ([], S)
  | d :: ds, ρ, S => match n d ρ with
    | none => .stuck
    | some ρ' => (t ρ' S).calm.bind fun b => if b.1 then (e ρ' b.2).calm.bind fun y => (lcL n t e ds ρ y.2).bind fun r => .ok (y.1 :: r.1, r.2) else lcL n t e ds ρ b.2
def mLc (i : IX) (n : NX) (t : BX) (e : EX) (vs : List Nat) : MX := fun ρ S => (i ρ S).bind fun p => (lcL n t e p.1 (wipeD ρ vs) p.2).bind fun r => .ok (.lst r.1, r.2)
def bTrue : BX := fun _ S => .ok (true, S)
theorem Out.bind_assoc {α β γ : Type} (o : Out α) (f : α → Out β) (k : β → Out γ) : (o.bind f).bind k = o.bind fun a => (f a).bind k := by cases o <;> rfl
/-- the state of a comprehension's list: the new list at L holds acc -/
structure Acc (w : Wd) (g0 : Gh) (H0 : Hp) (L : Addr) (ρ : LEnv) (σ : L2.St) (g1 : Gh) (g : Gh) (H : Hp) (S : Store) (acc : List D) (us : List V) : Prop where
  sim : Sim w g H ρ σ S
  fr : GG.Fr g0 H0 g H
  le : Le g1 g
  at_ : H L = some (.lst us)
  f0 : H0 L = Option.none
  f1 : g.F L = Option.none
  f2 : ∀ j, g.m j ≠ some L
  rep : RepL w g acc us
theorem Acc.step {w : Wd} {g0 g1 g g' : Gh} {H0 H H' : Hp} {L : Addr} {ρ : LEnv} {σ : L2.St} {S S' : Store} {acc : List D} {us : List V} (a : Acc w g0 H0 L ρ σ g1 g H S acc us) (f : GG.Fr g H g' H') (s : SimS w g' H' S') : Acc w g0 H0 L ρ σ g1 g' H' S' acc us := by
  obtain ⟨k1, k2, k3⟩ := f.out L _ a.at_ a.f1 a.f2
  exact ⟨a.sim.fr f s, a.fr.trans f, a.le.trans f.le, k1, a.f0, k2, k3, a.rep.mono f.le⟩
theorem Acc.push {w : Wd} {g0 g1 g : Gh} {H0 H : Hp} {L : Addr} {ρ : LEnv} {σ : L2.St} {S : Store} {acc : List D} {us : List V} {d : D} {v : V} (a : Acc w g0 H0 L ρ σ g1 g H S acc us) (r : Rep w g d v)
    (far : ∀ (i : Nat) o b, ρ[i]? = some (Slot.own o) → σ[i]? = some (some (V.ref b)) → b ≠ L) : Acc w g0 H0 L ρ σ g1 g (upd H L (.lst (us ++ [v]))) S (acc ++ [d]) (us ++ [v]) :=
  ⟨a.sim.off a.f1 a.f2 far, a.fr.off a.f0, a.le, upd_same, a.f0, a.f1, a.f2, a.rep.append (.cons r .nil)⟩
theorem Acc.done {w : Wd} {W : WX} {σ' : L2.St} {g0 g1 g : Gh} {H0 H : Hp} {L : Addr} {ρ : LEnv} {σ : L2.St} {S : Store} {acc : List D} {us : List V} {Q : VK} (a : Acc w g0 H0 L ρ σ g1 g H S acc us) (c : GG.Con w W σ' (RN w H0) g0 H0 Q (.ok (.lst acc, S))) : Q (.ref L) H :=
  c _ g H a.sim.st a.fr ⟨L, rfl, a.f0, a.f1, a.f2, us, a.at_, a.rep⟩
theorem rd_lc {w : Wd} {W : WX} {di : IX} {n : NX} {tt : BX} {de : EX} {vs us : List Nat} {wi : TI} {g : TG} {t : TT} {te : TE} {σ : L2.St} {H : Hp} {Q : VK} (hv : ∀ i ∈ us, i ∈ vs) (hwi : ∀ R, tX w W (RI w) di σ H R → wi σ H R) (hg : ∀ v σ H Q, rN w us n v σ H Q → g v σ H Q)
    (ht : ∀ σ H Q, tX w (fun _ _ _ _ => False) RB tt σ H Q → t σ H Q) (he : ∀ σ H Q, tX w (fun _ _ _ _ => False) (RE w) de σ H Q → te σ H Q) (h : tX w W (RN w H) (mLc di n tt de vs) σ H Q) : tLc wi g t te vs σ H Q := by
  obtain ⟨ρ, S, g0, sim, c⟩ := h
  refine hwi _ (Con.fst sim c fun J H1 items S1 g1 s1 f1 r1 c1 L hL => ?_)
  have r1 : ItD w g1 items J := r1
  have hL0 : H L = Option.none := f1.none hL
  obtain ⟨n1, n2⟩ := SimS.none s1.st hL
  have far : ∀ (i : Nat) o b, (wipeD ρ vs)[i]? = some (Slot.own o) → (wipe σ vs)[i]? = some (some (V.ref b)) → b ≠ L := (sim.wipe vs).far hL0
  refine ⟨fun i m Hc => m = items.length - i ∧ i ≤ items.length ∧ ∃ g2 S2 acc ws, Acc w g0 H L (wipeD ρ vs) (wipe σ vs) g1 g2 Hc S2 acc ws ∧ acc.length ≤ i ∧ GG.Con w W σ (RN w H) g0 H Q ((lcL n tt de (items.drop i) (wipeD ρ vs) S2).bind fun r => .ok (.lst (acc ++ r.1), r.2)),
    ⟨_, rfl, Nat.zero_le _, g1, S1, [], [], ⟨(s1.wipe vs).off n1 n2 far, f1.off hL0, .refl, upd_same, hL0, n1, n2, .nil⟩, Nat.zero_le _, c1⟩, ?_⟩
  rintro i m Hc ⟨rfl, hi, g2, S2, acc, ws, A, hl, c2⟩
  by_cases hlt : i < items.length
  · right
    rw [List.drop_eq_getElem_cons hlt] at c2
    obtain ⟨hgo, hy⟩ := r1.go g2 Hc S2 A.le A.sim.st i hlt
    refine ⟨hgo, fun Hc => ∃ g2 S2 acc ws, Acc w g0 H L (wipeD ρ vs) (wipe σ vs) g1 g2 Hc S2 acc ws ∧ acc.length ≤ i + 1 ∧ GG.Con w W σ (RN w H) g0 H Q ((lcL n tt de (items.drop (i + 1)) (wipeD ρ vs) S2).bind fun r => .ok (.lst (acc ++ r.1), r.2)),
      fun H' h => ⟨items.length - (i + 1), by omega, rfl, hlt, h⟩, fun x H' y => ?_⟩
    obtain ⟨g3, d, ed, rd, s3, f3⟩ := hy x H' y
    rw [List.getElem?_eq_getElem hlt] at ed
    cases ed
    have A3 := A.step f3 s3
    unfold lcL at c2
    cases en : n items[i] (wipeD ρ vs) with
    | none => rw [en] at c2; exact c2.elim
    | some ρ' =>
      rw [en] at c2
      dsimp only at c2
      refine hg _ _ _ _ ⟨_, _, S2, g3, ρ', A3.sim, rd, en, fun σ' s' k => ⟨by rw [k.wipe hv, wipe_wipe], ?_⟩⟩
      rw [Out.bind_assoc] at c2
      refine ht _ _ _ (Con.calm_go s' c2 fun b H4 b' S4 g4 s4 f4 r4 c4 => ?_)
      have r4 : b' = b := r4
      subst r4
      have A4 := A3.step f4 s4.st
      cases b' with
      | false =>
        simp only [Bool.false_eq_true, if_false] at c4 ⊢
        exact ⟨g4, S4, acc, ws, A4, Nat.le_succ_of_le hl, c4⟩
      | true =>
        simp only [if_true] at c4 ⊢
        rw [Out.bind_assoc] at c4
        refine he _ _ _ (Con.calm_go s4 c4 fun v H5 d5 S5 g5 s5 f5 r5 c5 => ?_)
        have A5 := A4.step f5 s5.st
        have la : acc.length = ws.length := A5.rep.length
        refine ⟨ws, A5.at_, by have := r1.sz; omega, g5, S5, acc ++ [d5], ws ++ [v], A5.push r5 far, by rw [List.length_append, List.length_singleton]; omega, ?_⟩
        rw [Out.bind_assoc] at c5
        simp only [Out.bind_ok] at c5
        simpa only [List.append_assoc, List.singleton_append] using c5
  · left
    have e : i = items.length := by omega
    subst e
    rw [List.drop_length] at c2
    have c2 : GG.Con w W σ (RN w H) g0 H Q (.ok (.lst (acc ++ []), S2)) := c2
    rw [List.append_nil] at c2
    exact ⟨r1.done g2 Hc S2 A.le A.sim.st, A.done c2⟩
/-- the block's parts, whatever block it is -/
abbrev BX' (X : Cx) (scope : Scope) (J : Cx → Prop) : Prop := ∀ (s : Shared) (H : Hp) (C : Addr) (cl : List (Str × Addr)) (fp : List Addr), J (X.blk s H scope (compEnvC scope cl C X.env) fp)
def GTs (cl : Wp) (X : Cx) (ifs : List Expr) (den : BX) : Prop := ∀ W, Takes X W → PTs X ifs (tX (wd X cl) W RB den)
theorem gts_nil : GTs cl X [] bTrue := fun W tk => ⟨fun pins s σ H Q I ⟨ρ, S, g, sim, c⟩ => pts_nil.run pins s σ H Q I (Con.val (a := true) c sim.st rfl)⟩
theorem gts_one {tc : BX} (h : GT cl X c tc) : GTs cl X [c] tc := fun W tk => pts_one (h W tk)
section
variable {elt : Expr} {ifs : List Expr} {scope : Scope} {own : List (Str × Nat)} {di : IX} {n : NX} {tt : BX} {de : EX} {us : List Nat}
theorem gm_lc (hc : X.calm = true) (hN : X.N.Nodup) (hi : GI cl X tg it di) (ok : BlkOk X.N X.env.scope scope own) (hv : ∀ i ∈ us, i ∈ own.map (·.2)) (hg : BX' X scope fun Y => GN cl Y us tg n) (ht : BX' X scope fun Y => GTs cl Y ifs tt) (he : BX' X scope fun Y => GE cl Y elt de)
    (hs : ∀ x, foldedSetIterable it X.env x = pure x) : GM cl X (.ListComp elt [⟨tg, it, ifs, 0⟩] scope pos) (mLc di n tt de (own.map (·.2))) := fun W tk =>
  PE.weak (pe_lc (g := rN (wd X cl) us n) (tt := tX (wd X cl) (fun _ _ _ _ => False) RB tt) (te := tX (wd X cl) (fun _ _ _ _ => False) (RE (wd X cl)) de) hc hN (hi W tk) ok (fun s H C c' fp => hg s H C c' fp) (fun s H C c' fp => ht s H C c' fp _ takes_none) (fun s H C c' fp => he s H C c' fp _ takes_none) hs)
    fun σ H Q h => rd_lc hv (fun _ z => z) (fun _ _ _ _ z => z) (fun _ _ _ z => z) (fun _ _ _ z => z) h
theorem gms_lc {i : Nat} {y : Str} {py spos : Pos} (hc : X.calm = true) (hN : X.N.Nodup) (hy : X.N[i]? = some y) (hyl : X.env.scope.names.lookup y = some .local) (hsw : swapsWith (.ListComp elt [⟨tg, it, ifs, 0⟩] scope pos) (some (.Name y py)) spos.line X.env = pure true)
    (hi : GI cl X tg it di) (ok : BlkOk X.N X.env.scope scope own) (hv : ∀ i ∈ us, i ∈ own.map (·.2)) (hg : BX' X scope fun Y => GN cl Y us tg n) (ht : BX' X scope fun Y => GTs cl Y ifs tt) (he : BX' X scope fun Y => GE cl Y elt de)
    (hs : ∀ x, foldedSetIterable it X.env x = pure x) : GMs cl X (.Assign [.Name y py] (.ListComp elt [⟨tg, it, ifs, 0⟩] scope pos) spos) i (mLc di n tt de (own.map (·.2))) := fun W tk =>
  PS.weak (ps_setLc (g := rN (wd X cl) us n) (tt := tX (wd X cl) (fun _ _ _ _ => False) RB tt) (te := tX (wd X cl) (fun _ _ _ _ => False) (RE (wd X cl)) de) hc hN hy hyl hsw (hi W tk) ok (fun s H C c' fp => hg s H C c' fp) (fun s H C c' fp => ht s H C c' fp _ takes_none) (fun s H C c' fp => he s H C c' fp _ takes_none) hs)
    fun D σ H h => rd_lc hv (fun _ z => z) (fun _ _ _ _ z => z) (fun _ _ _ z => z) (fun _ _ _ z => z) h
end

/-! two sources -/
def lc2L (n : NX) (t : BX) (i1 : IX) (n1 : NX) (t1 : BX) (e : EX) (vs1 : List Nat) : List D → LEnv → Store → Out (List D × Store)
  | [], _, S => .ok ([], S)
  | d :: ds, ρ, S => match n d ρ with
    | none => .stuck
    | some ρ' => (t ρ' S).calm.bind fun b => if b.1 then (i1 ρ' b.2).calm.bind fun p => (lcL n1 t1 e p.1 (wipeD ρ' vs1) p.2).calm.bind fun q => (lc2L n t i1 n1 t1 e vs1 ds ρ q.2).calm.bind fun r => .ok (q.1 ++ r.1, r.2)
        else lc2L n t i1 n1 t1 e vs1 ds ρ b.2
def lcEnd (acc : List D) (r : List D × Store) : Out (MO × Store) := if szOk (acc ++ r.1).length then .ok (.lst (acc ++ r.1), r.2) else .stuck
def mLc2 (i : IX) (n : NX) (t : BX) (i1 : IX) (n1 : NX) (t1 : BX) (e : EX) (vs vs1 : List Nat) : MX := fun ρ S => (i ρ S).bind fun p => (lc2L n t i1 n1 t1 e vs1 p.1 (wipeD ρ vs) p.2).calm.bind (lcEnd [])
theorem Out.calm_bind {α β : Type} (o : Out α) (f : α → Out β) : (o.calm.bind f).calm = o.calm.bind fun a => (f a).calm := by cases o <;> rfl
theorem Out.calm_calm {α : Type} (o : Out α) : o.calm.calm = o.calm := by cases o <;> rfl
theorem rd_lc2 {w : Wd} {W : WX} {di di1 : IX} {n n1 : NX} {tt tt1 : BX} {de : EX} {vs us vs1 us1 : List Nat} {wi wi1 : TI} {g g1' : TG} {t t1 : TT} {te : TE} {σ : L2.St} {H : Hp} {Q : VK} (hv : ∀ i ∈ us, i ∈ vs) (hv1 : ∀ i ∈ us1, i ∈ vs1)
    (hwi : ∀ R, tX w W (RI w) di σ H R → wi σ H R) (hg : ∀ v σ H Q, rN w us n v σ H Q → g v σ H Q) (ht : ∀ σ H Q, tX w (fun _ _ _ _ => False) RB tt σ H Q → t σ H Q)
    (hwi1 : ∀ σ H R, tX w (fun _ _ _ _ => False) (RI w) di1 σ H R → wi1 σ H R) (hg1 : ∀ v σ H Q, rN w us1 n1 v σ H Q → g1' v σ H Q) (ht1 : ∀ σ H Q, tX w (fun _ _ _ _ => False) RB tt1 σ H Q → t1 σ H Q)
    (he : ∀ σ H Q, tX w (fun _ _ _ _ => False) (RE w) de σ H Q → te σ H Q) (h : tX w W (RN w H) (mLc2 di n tt di1 n1 tt1 de vs vs1) σ H Q) : tLc2 wi g t wi1 g1' t1 te vs vs1 σ H Q := by
  obtain ⟨ρ, S, g0, sim, c⟩ := h
  refine hwi _ (Con.fst sim c fun J H1 items S1 g1 s1 f1 r1 c1 L hL => ?_)
  have r1 : ItD w g1 items J := r1
  have hL0 : H L = Option.none := f1.none hL
  obtain ⟨n1', n2⟩ := SimS.none s1.st hL
  have far : ∀ (i : Nat) o b, (wipeD ρ vs)[i]? = some (Slot.own o) → (wipe σ vs)[i]? = some (some (V.ref b)) → b ≠ L := (sim.wipe vs).far hL0
  refine ⟨fun i m Hc => m = items.length - i ∧ i ≤ items.length ∧ ∃ g2 S2 acc ws, Acc w g0 H L (wipeD ρ vs) (wipe σ vs) g1 g2 Hc S2 acc ws ∧ GG.Con w W σ (RN w H) g0 H Q ((lc2L n tt di1 n1 tt1 de vs1 (items.drop i) (wipeD ρ vs) S2).calm.bind (lcEnd acc)),
    ⟨_, rfl, Nat.zero_le _, g1, S1, [], [], ⟨(s1.wipe vs).off n1' n2 far, f1.off hL0, .refl, upd_same, hL0, n1', n2, .nil⟩, c1⟩, ?_⟩
  rintro i m Hc ⟨rfl, hi, g2, S2, acc, ws, A, c2⟩
  by_cases hlt : i < items.length
  · right
    rw [List.drop_eq_getElem_cons hlt] at c2
    obtain ⟨hgo, hy⟩ := r1.go g2 Hc S2 A.le A.sim.st i hlt
    refine ⟨hgo, fun Hc => ∃ g2 S2 acc ws, Acc w g0 H L (wipeD ρ vs) (wipe σ vs) g1 g2 Hc S2 acc ws ∧ GG.Con w W σ (RN w H) g0 H Q ((lc2L n tt di1 n1 tt1 de vs1 (items.drop (i + 1)) (wipeD ρ vs) S2).calm.bind (lcEnd acc)),
      fun H' h => ⟨items.length - (i + 1), by omega, rfl, hlt, h⟩, fun x H' y => ?_⟩
    obtain ⟨g3, d, ed, rd, s3, f3⟩ := hy x H' y
    rw [List.getElem?_eq_getElem hlt] at ed
    cases ed
    have A3 := A.step f3 s3
    unfold lc2L at c2
    cases en : n items[i] (wipeD ρ vs) with
    | none => rw [en] at c2; exact c2.elim
    | some ρ' =>
      rw [en] at c2
      dsimp only at c2
      refine hg _ _ _ _ ⟨_, _, S2, g3, ρ', A3.sim, rd, en, fun σ' s' k => ⟨by rw [k.wipe hv, wipe_wipe], ?_⟩⟩
      rw [Out.calm_bind, Out.bind_assoc] at c2
      refine ht _ _ _ (Con.calm_go s' c2 fun b H4 b' S4 g4 s4 f4 r4 c4 => ?_)
      have r4 : b' = b := r4
      subst r4
      have A4 := A3.step f4 s4.st
      cases b' with
      | false =>
        simp only [Bool.false_eq_true, if_false] at c4 ⊢
        exact ⟨g4, S4, acc, ws, A4, c4⟩
      | true =>
        simp only [if_true] at c4 ⊢
        rw [Out.calm_bind, Out.bind_assoc] at c4
        refine hwi1 _ _ _ (Con.calm_go s4 c4 fun J1 H5 items1 S5 g5 s5 f5 r5 c5 => ?_)
        have r5 : ItD w g5 items1 J1 := r5
        have A5 := A4.step f5 s5.st
        have far1 : ∀ (i : Nat) o b, (wipeD ρ' vs1)[i]? = some (Slot.own o) → (wipe σ' vs1)[i]? = some (some (V.ref b)) → b ≠ L := fun i o b e1 e2 => by
          rcases wipeD_get e1 with ⟨_, h⟩ | ⟨h1, h2⟩
          · cases h
          · rw [wipe_not h1] at e2
            obtain ⟨k1, k2⟩ := k.own i o h2
            exact far i o b k1 (k2 ▸ e2)
        -- the inner loop
        let I1 : Nat → Hp → Prop := fun j Hc => ∃ g6 S6 acc ws, Acc w g0 H L (wipeD ρ vs) (wipe σ vs) g1 g6 Hc S6 acc ws ∧ Acc w g0 H L (wipeD ρ' vs1) (wipe σ' vs1) g5 g6 Hc S6 acc ws ∧
          GG.Con w W σ (RN w H) g0 H Q ((lcL n1 tt1 de (items1.drop j) (wipeD ρ' vs1) S6).calm.bind fun q => (lc2L n tt di1 n1 tt1 de vs1 (items.drop (i + 1)) (wipeD ρ vs) q.2).calm.bind fun r => lcEnd acc (q.1 ++ r.1, r.2))
        refine ⟨fun j k Hc => k = items1.length - j ∧ j ≤ items1.length ∧ I1 j Hc, ⟨_, rfl, Nat.zero_le _, g5, S5, acc, ws, A5, ⟨s5.wipe vs1, A5.fr, .refl, A5.at_, hL0, A5.f1, A5.f2, A5.rep⟩, ?_⟩, ?_⟩
        · rw [Out.calm_bind, Out.bind_assoc] at c5
          refine Eq.mp (congrArg _ ?_) c5
          congr 1
          funext q
          rw [Out.calm_bind, Out.bind_assoc]
          rfl
        · rintro j k Hc ⟨rfl, hj, g6, S6, acc, ws, A6, B6, c6⟩
          by_cases hlt1 : j < items1.length
          · right
            rw [List.drop_eq_getElem_cons hlt1] at c6
            obtain ⟨hgo1, hy1⟩ := r5.go g6 Hc S6 B6.le B6.sim.st j hlt1
            refine ⟨hgo1, I1 (j + 1), fun H' h => ⟨items1.length - (j + 1), by omega, rfl, hlt1, h⟩, fun x H' y => ?_⟩
            obtain ⟨g7, d7, ed7, rd7, s7, f7⟩ := hy1 x H' y
            rw [List.getElem?_eq_getElem hlt1] at ed7
            cases ed7
            have A7 := A6.step f7 s7
            have B7 := B6.step f7 s7
            unfold lcL at c6
            cases en1 : n1 items1[j] (wipeD ρ' vs1) with
            | none => rw [en1] at c6; exact c6.elim
            | some ρ3 =>
              rw [en1] at c6
              dsimp only at c6
              refine hg1 _ _ _ _ ⟨_, _, S6, g7, ρ3, B7.sim, rd7, en1, fun σ3 s8 k3 => ⟨by rw [k3.wipe hv1, wipe_wipe], ?_⟩⟩
              rw [Out.calm_bind, Out.bind_assoc] at c6
              refine ht1 _ _ _ (Con.calm_go s8 c6 fun b H9 b' S9 g9 s9 f9 r9 c9 => ?_)
              have r9 : b' = b := r9
              subst r9
              have A9 := A7.step f9 s9.st
              have B9 := B7.step f9 s9.st
              cases b' with
              | false =>
                simp only [Bool.false_eq_true, if_false] at c9 ⊢
                exact ⟨g9, S9, acc, ws, A9, B9, c9⟩
              | true =>
                simp only [if_true] at c9 ⊢
                rw [Out.calm_bind, Out.bind_assoc] at c9
                refine he _ _ _ (Con.calm_go s9 c9 fun v Ha d5 Sa ga sa fa ra ca => ?_)
                have Aa := A9.step fa sa.st
                have Ba := B9.step fa sa.st
                have la : acc.length = ws.length := Aa.rep.length
                have ca : GG.Con w W σ (RN w H) g0 H Q ((lcL n1 tt1 de (items1.drop (j + 1)) (wipeD ρ' vs1) Sa).calm.bind fun q => (lc2L n tt di1 n1 tt1 de vs1 (items.drop (i + 1)) (wipeD ρ vs) q.2).calm.bind fun r => lcEnd (acc ++ [d5]) (q.1 ++ r.1, r.2)) := by
                  refine Eq.mp (congrArg _ ?_) ca
                  dsimp only
                  cases lcL n1 tt1 de (items1.drop (j + 1)) (wipeD ρ' vs1) Sa with
                  | ok q =>
                    show ((lc2L n tt di1 n1 tt1 de vs1 (items.drop (i + 1)) (wipeD ρ vs) q.2).calm.bind fun r => lcEnd acc (d5 :: q.1 ++ r.1, r.2)) = ((lc2L n tt di1 n1 tt1 de vs1 (items.drop (i + 1)) (wipeD ρ vs) q.2).calm.bind fun r => lcEnd (acc ++ [d5]) (q.1 ++ r.1, r.2))
                    congr 1
                    funext r
                    simp [lcEnd]
                  | exc _ _ _ => rfl
                  | stuck => rfl
                have sz : acc.length < sizeLine := by
                  cases e1 : lcL n1 tt1 de (items1.drop (j + 1)) (wipeD ρ' vs1) Sa with
                  | ok q =>
                    rw [e1] at ca
                    simp only [Out.calm_ok, Out.bind_ok] at ca
                    cases e2 : lc2L n tt di1 n1 tt1 de vs1 (items.drop (i + 1)) (wipeD ρ vs) q.2 with
                    | ok r =>
                      rw [e2] at ca
                      simp only [Out.calm_ok, Out.bind_ok] at ca
                      unfold lcEnd at ca
                      split at ca
                      · rename_i hz
                        have hz := of_decide_eq_true hz
                        simp only [List.length_append, List.length_singleton] at hz
                        omega
                      · exact ca.elim
                    | exc _ _ _ => rw [e2] at ca; exact ca.elim
                    | stuck => rw [e2] at ca; exact ca.elim
                  | exc _ _ _ => rw [e1] at ca; exact ca.elim
                  | stuck => rw [e1] at ca; exact ca.elim
                exact ⟨ws, Aa.at_, by omega, ga, Sa, acc ++ [d5], ws ++ [v], Aa.push ra far, Ba.push ra far1, ca⟩
          · left
            have e : j = items1.length := by omega
            subst e
            rw [List.drop_length] at c6
            refine ⟨r5.done g6 Hc S6 B6.le B6.sim.st, g6, S6, acc, ws, A6, ?_⟩
            exact c6
  · left
    have e : i = items.length := by omega
    subst e
    rw [List.drop_length] at c2
    have c2 : GG.Con w W σ (RN w H) g0 H Q (lcEnd acc ([], S2)) := c2
    unfold lcEnd at c2
    dsimp only at c2
    rw [List.append_nil] at c2
    split at c2
    · exact ⟨r1.done g2 Hc S2 A.le A.sim.st, A.done c2⟩
    · exact c2.elim
section
variable {elt tg1 it1 : Expr} {ifs ifs1 : List Expr} {scope : Scope} {own : List (Str × Nat)} {di di1 : IX} {n n1 : NX} {tt tt1 : BX} {de : EX} {us us1 vs1 : List Nat}
theorem gm_lc2 (hc : X.calm = true) (hN : X.N.Nodup) (hi : GI cl X tg it di) (ok : BlkOk X.N X.env.scope scope own) (hvv : ∀ i ∈ vs1, i ∈ own.map (·.2)) (hv : ∀ i ∈ us, i ∈ own.map (·.2)) (hv1 : ∀ i ∈ us1, i ∈ vs1) (hg : BX' X scope fun Y => GN cl Y us tg n) (ht : BX' X scope fun Y => GTs cl Y ifs tt)
    (hi1 : BX' X scope fun Y => GI cl Y tg1 it1 di1) (hg1 : BX' X scope fun Y => GN cl Y us1 tg1 n1) (ht1 : BX' X scope fun Y => GTs cl Y ifs1 tt1) (he : BX' X scope fun Y => GE cl Y elt de) (hs : ∀ x, foldedSetIterable it X.env x = pure x) (hs1 : ∀ env x, foldedSetIterable it1 env x = pure x) :
    GM cl X (.ListComp elt [⟨tg, it, ifs, 0⟩, ⟨tg1, it1, ifs1, 0⟩] scope pos) (mLc2 di n tt di1 n1 tt1 de (own.map (·.2)) vs1) := fun W tk =>
  PE.weak (pe_lc2 (g := rN (wd X cl) us n) (tt := tX (wd X cl) (fun _ _ _ _ => False) RB tt) (wi1 := tX (wd X cl) (fun _ _ _ _ => False) (RI (wd X cl)) di1) (g1 := rN (wd X cl) us1 n1) (tt1 := tX (wd X cl) (fun _ _ _ _ => False) RB tt1) (te := tX (wd X cl) (fun _ _ _ _ => False) (RE (wd X cl)) de)
      hc hN (hi W tk) ok hvv (fun s H C c' fp => hg s H C c' fp) (fun s H C c' fp => ht s H C c' fp _ takes_none) (fun s H C c' fp => hi1 s H C c' fp _ takes_none) (fun s H C c' fp => hg1 s H C c' fp) (fun s H C c' fp => ht1 s H C c' fp _ takes_none) (fun s H C c' fp => he s H C c' fp _ takes_none) hs hs1)
    fun σ H Q h => rd_lc2 hv hv1 (fun _ z => z) (fun _ _ _ _ z => z) (fun _ _ _ z => z) (fun _ _ _ z => z) (fun _ _ _ _ z => z) (fun _ _ _ z => z) (fun _ _ _ z => z) h
theorem gms_lc2 {i : Nat} {y : Str} {py spos : Pos} (hc : X.calm = true) (hN : X.N.Nodup) (hy : X.N[i]? = some y) (hyl : X.env.scope.names.lookup y = some .local) (hsw : swapsWith (.ListComp elt [⟨tg, it, ifs, 0⟩, ⟨tg1, it1, ifs1, 0⟩] scope pos) (some (.Name y py)) spos.line X.env = pure true)
    (hi : GI cl X tg it di) (ok : BlkOk X.N X.env.scope scope own) (hvv : ∀ i ∈ vs1, i ∈ own.map (·.2)) (hv : ∀ i ∈ us, i ∈ own.map (·.2)) (hv1 : ∀ i ∈ us1, i ∈ vs1) (hg : BX' X scope fun Y => GN cl Y us tg n) (ht : BX' X scope fun Y => GTs cl Y ifs tt)
    (hi1 : BX' X scope fun Y => GI cl Y tg1 it1 di1) (hg1 : BX' X scope fun Y => GN cl Y us1 tg1 n1) (ht1 : BX' X scope fun Y => GTs cl Y ifs1 tt1) (he : BX' X scope fun Y => GE cl Y elt de) (hs : ∀ x, foldedSetIterable it X.env x = pure x) (hs1 : ∀ env x, foldedSetIterable it1 env x = pure x) :
    GMs cl X (.Assign [.Name y py] (.ListComp elt [⟨tg, it, ifs, 0⟩, ⟨tg1, it1, ifs1, 0⟩] scope pos) spos) i (mLc2 di n tt di1 n1 tt1 de (own.map (·.2)) vs1) := fun W tk =>
  PS.weak (ps_setLc2 (g := rN (wd X cl) us n) (tt := tX (wd X cl) (fun _ _ _ _ => False) RB tt) (wi1 := tX (wd X cl) (fun _ _ _ _ => False) (RI (wd X cl)) di1) (g1 := rN (wd X cl) us1 n1) (tt1 := tX (wd X cl) (fun _ _ _ _ => False) RB tt1) (te := tX (wd X cl) (fun _ _ _ _ => False) (RE (wd X cl)) de)
      hc hN hy hyl hsw (hi W tk) ok hvv (fun s H C c' fp => hg s H C c' fp) (fun s H C c' fp => ht s H C c' fp _ takes_none) (fun s H C c' fp => hi1 s H C c' fp _ takes_none) (fun s H C c' fp => hg1 s H C c' fp) (fun s H C c' fp => ht1 s H C c' fp _ takes_none) (fun s H C c' fp => he s H C c' fp _ takes_none) hs hs1)
    fun D σ H h => rd_lc2 hv hv1 (fun _ z => z) (fun _ _ _ _ z => z) (fun _ _ _ z => z) (fun _ _ _ z => z) (fun _ _ _ _ z => z) (fun _ _ _ z => z) (fun _ _ _ z => z) h
end
end GG
end

section
/-! G.K: defs and their calls. -/
set_option linter.all false
set_option maxRecDepth 100000
namespace GG
open PySem L2
open PyProof.Rows hiding St

def ConD (w : Wd) (g : Gh) (H : Hp) (Q : VK) (E : XK) (o : Out (D × Store)) : Prop := GG.Con w (fun c d _ H => E c d H) [] (RE w) g H Q o
/-- the promise of a def with n parameters -/
def spD (w : Wd) (n : Nat) (den : Den) : Sp := fun vs H Q E => vs.length = n ∧ ∃ ds S g, SimS w g H S ∧ RepL w g ds vs ∧ ConD w g H Q E (den ds S)
structure FnD (P : Program) (w : World) (K : PySem.W.Frag) (mg : Str → Option Value) (base : Heap) (cl : Wp) (k n : Nat) (f : Addr) (den : Den) : Prop where
  ar : ∀ ds S, den ds S ≠ .stuck → ds.length = n
  ex : ∃ fd ps, FnOk P w K mg base (L2.CX P w) k f fd ps (spD ⟨K, mg, cl.cl, cl.kc, cl.xa⟩ n den) ∧ PySem.W.keepIn K (.ref f) = true ∧ Binds K fd ps []
theorem FnD.mono {P : Program} {w : World} {K : PySem.W.Frag} {mg : Str → Option Value} {base : Heap} {cl : Wp} {k k' n : Nat} {f : Addr} {den : Den} (F : FnD P w K mg base cl k n f den) (h : k ≤ k') : FnD P w K mg base cl k' n f den :=
  ⟨F.ar, let ⟨fd, ps, F1, h1, h2⟩ := F.ex; ⟨fd, ps, F1.mono h, h1, h2⟩⟩
abbrev FX (X : Cx) (cl : Wp) (k n : Nat) (f : Addr) (den : Den) : Prop := FnD X.prog X.w X.K X.mg X.base cl k n f den
section
variable {cl : Wp} {X : Cx} {W : WX} {k n : Nat} {f : Addr} {den : Den} {e : Expr} {es : List Expr} {t : AX} {pos : Pos}
/-- what a call wants of its outcome is what its place wants -/
theorem conD_of {w : Wd} {σ : L2.St} {g : Gh} {H : Hp} {Q : VK} {o : Out (D × Store)} (c : GG.Con w W σ (RE w) g H Q o) : ConD w g H Q (WE W σ) o := by
  cases o with
  | ok p => exact c
  | exc x fs S => exact c
  | stuck => exact c.elim
theorem con_ns {w : Wd} {σ : L2.St} {g : Gh} {H : Hp} {α β : Type} {R : Gh → Hp → α → β → Prop} {Q : β → Hp → Prop} {o : Out (α × Store)} (c : GG.Con w W σ R g H Q o) : o ≠ .stuck := fun z => by rw [z] at c; exact c
/-- the callee runs -/
theorem run_D {pins : List (Addr × Obj)} {σ : L2.St} {H : Hp} {s : Shared} {Q : VK} {us : List Value} {vs : List V} {ds : List D} {S : Store} {g : Gh} (F : FX X cl k n f den) (hr : Room k X.A) (tk : Takes X W) (I : Inv X pins σ H s) (r : Vals vs us)
    (sm : SimS (wd X cl) g H S) (rp : RepL (wd X cl) g ds vs) (c : GG.Con (wd X cl) W σ (RE (wd X cl)) g H Q (den ds S)) : wpAny (model X.prog X.w) X.A (call (.ref f) us) (EP X pins σ Q) X.xe s := by
  obtain ⟨fd, ps, F1, h1, h2⟩ := F.ex
  exact run_fnS F1 hr h2 (passAt tk σ) I r ⟨by rw [← rp.length]; exact F.ar _ _ (con_ns c), ds, S, g, sm, rp, conD_of c⟩
theorem FnD.kp (F : FX X cl k n f den) : PySem.W.keepIn X.K (.ref f) = true := let ⟨_, _, _, h, _⟩ := F.ex; h
/-- the arguments are there, and what stands behind them is wanted -/
def Ready (w : Wd) (W : WX) (σ : L2.St) (Q : VK) (den : Den) : List V → Hp → Prop := fun vs H => ∃ ds S g, SimS w g H S ∧ RepL w g ds vs ∧ GG.Con w W σ (RE w) g H Q (den ds S)
theorem rd_args {w : Wd} {σ : L2.St} {H : Hp} {Q : VK} {ρ : LEnv} {S : Store} {g : Gh} (sim : Sim w g H ρ σ S) (c : GG.Con w W σ (RE w) g H Q ((t ρ S).bind fun p => den p.1 p.2)) : tX w W (RA w) t σ H (Ready w W σ Q den) :=
  Con.fst sim c fun vs H1 ds S1 g1 s1 f1 r1 c1 => ⟨ds, S1, g1, s1.st, r1, Con.fr c1 f1⟩
theorem run_R {pins : List (Addr × Obj)} {σ : L2.St} {H : Hp} {s : Shared} {Q : VK} {us : List Value} {vs : List V} (F : FX X cl k n f den) (hr : Room k X.A) (tk : Takes X W) (I : Inv X pins σ H s) (r : Vals vs us) (h : Ready (wd X cl) W σ Q den vs H) :
    wpAny (model X.prog X.w) X.A (call (.ref f) us) (EP X pins σ Q) X.xe s := by
  obtain ⟨ds, S, g, sm, rp, c⟩ := h
  exact run_D F hr tk I r sm rp c
theorem ge_call {x : Str} {p : Pos} (F : FX X cl k n f den) (hr : Room k X.A) (hg : Gl X x) (hm : X.mg x = some (.ref f)) (ha : GA cl X (e :: es) t) (hdb : (x == ("__debug__" : Str)) = false)
    (he : starEach (e :: es) X.env = (false, eval e X.env) :: starEach es X.env) (hpl : (backTo pos (starEach es X.env)).any (·.1) = false) : GE cl X (.Call (.Name x p) (e :: es) [] pos) (eCall den t) := fun W tk => by
  refine ⟨fun pins s σ H Q I ⟨ρ, S, g, sim, c⟩ => wpAny_Call_Name_kw (ld_glob I hg hm ?_ hdb)⟩
  exact PySem.W.callWith_K (h₀ := X.base) I.ok.mod.kin F.kp (thn ((ha W tk).run pos pins s σ H _ I (rd_args sim c)) fun us s1 ⟨vs, H1, I1, r, q⟩ => ⟨I1.kIn, run_R F hr tk I1 r q⟩) he hpl
theorem ge_call0 {x : Str} {p : Pos} (F : FX X cl k n f den) (hr : Room k X.A) (hg : Gl X x) (hm : X.mg x = some (.ref f)) (hdb : (x == ("__debug__" : Str)) = false) : GE cl X (.Call (.Name x p) [] [] pos) (eCall den aN) := fun W tk => by
  refine ⟨fun pins s σ H Q I ⟨ρ, S, g, sim, c⟩ => wpAny_Call_Name_kw (ld_glob I hg hm ?_ hdb)⟩
  exact PySem.W.callWith_K0 I.kIn F.kp (run_D (us := []) (vs := []) (ds := []) F hr tk I .nil sim.st .nil c)

/-! ### a local that holds a def of the module -/
abbrev GTab := List (Str × Den)
def eCallV (i : Nat) (tab : GTab) (t : AX) : EX := fun ρ S => match ρ[i]? with
  | some (.val (.gl x)) => match tab.lookup x with
    | some den => (t ρ S).bind fun p => den p.1 p.2
    | none => .stuck
  | _ => .stuck
theorem ge_callV {x : Str} {p : Pos} {i : Nat} {tab : GTab} (F : ∀ y den, tab.lookup y = some den → ∃ n f, X.mg y = some (.ref f) ∧ FX X cl k n f den) (hr : Room k X.A) (hN : X.N[i]? = some x) (hv : Vis X.env.scope x) (ha : GA cl X (e :: es) t) (hd : (x == ("__debug__" : Str)) = false)
    (hcd : (x == ("__classdict__" : Str)) = false) (he : starEach (e :: es) X.env = (false, eval e X.env) :: starEach es X.env) (hpl : (backTo pos (starEach es X.env)).any (·.1) = false) : GE cl X (.Call (.Name x p) (e :: es) [] pos) (eCallV i tab t) := fun W tk => by
  refine ⟨fun pins s σ H Q I ⟨ρ, S, g, sim, c⟩ => ?_⟩
  unfold eCallV at c
  split at c
  · rename_i y ey
    obtain ⟨v, h1, h2⟩ := sim.val i _ ey
    obtain ⟨f, hm, rfl⟩ := rep_gl.mp h2
    have hm : X.mg y = some (.ref f) := hm
    split at c
    · rename_i den e2
      obtain ⟨n, f', hm', Fd⟩ := F y den e2
      rw [hm'] at hm; cases hm
      refine wpAny_Call_Name_kw (thn ((pe_var (pos := p) hN hv hd hcd).run pins s σ H (fun v H1 => v = .ref f ∧ H1 = H) I ⟨.ref f, h1, rfl, rfl⟩) fun u s1 ⟨v, H1, I1, r1, q1⟩ => ?_)
      obtain ⟨rfl, rfl⟩ := q1
      cases r1
      exact PySem.W.callWith_K (h₀ := X.base) I1.ok.mod.kin Fd.kp (thn ((ha W tk).run pos pins s1 σ _ _ I1 (rd_args sim c)) fun us s1 ⟨vs, H1, I1, r, q⟩ => ⟨I1.kIn, run_R Fd hr tk I1 r q⟩) he hpl
    · exact c.elim
  · exact c.elim

/-! ### a def, by its body -/
def startD (m : Nat) (ds : List D) : LEnv := ds.map .val ++ List.replicate m .no
def endD : SOut → Out (D × Store)
  | .rt d S => .ok (d, S)
  | .nx _ S => .ok (.non, S)
  | .ex c fs _ S => .exc c fs S
  | _ => .stuck
def runD (n m : Nat) (body : SX) : Den := fun ds S => if ds.length = n then endD (body (startD m ds) S) else .stuck
theorem sim_start {w : Wd} {g : Gh} {H : Hp} {S : Store} {ds : List D} {vs : List V} {N : List Str} {m : Nat} (s : SimS w g H S) (r : RepL w g ds vs) (hm : N.length = vs.length + m) : Sim w g H (startD m ds) (L2.start N vs) S := by
  have own : ∀ (i : Nat) o, (startD m ds)[i]? = some (Slot.own o) → False := fun i o e => by
    have e := List.mem_of_getElem? e
    unfold startD at e
    simp only [List.mem_append, List.mem_map, List.mem_replicate] at e
    rcases e with ⟨_, _, e⟩ | ⟨_, e⟩ <;> cases e
  refine ⟨s, ?_, fun i d e => ?_, fun i o e => (own i o e).elim, fun i j o u a e1 => (own i o e1).elim, fun i e => ?_⟩
  · unfold startD L2.start
    rw [List.length_append, List.length_append, List.length_map, List.length_map, List.length_replicate, List.length_replicate, r.length]; omega
  · unfold startD at e
    by_cases hi : i < ds.length
    · rw [List.getElem?_append_left (by rw [List.length_map]; exact hi), List.getElem?_map] at e
      cases e2 : ds[i]? with
      | none => rw [e2] at e; cases e
      | some x =>
        rw [e2] at e; cases e
        obtain ⟨v, h1, h2⟩ := r.get e2
        refine ⟨v, ?_, h2⟩
        unfold L2.start
        rw [List.getElem?_append_left (by rw [List.length_map, ← r.length]; exact hi), List.getElem?_map, h1]; rfl
    · rw [List.getElem?_append_right (by rw [List.length_map]; omega)] at e
      have e := List.mem_of_getElem? e
      rw [List.mem_replicate] at e
      cases e.2
  · have e := List.mem_of_getElem? e
    unfold startD at e
    simp only [List.mem_append, List.mem_map, List.mem_replicate] at e
    rcases e with ⟨_, _, e⟩ | ⟨_, e⟩ <;> cases e
theorem endD_ns {o : SOut} (h : endD o ≠ .stuck) : True := trivial
/-- what is wanted of the def is what is wanted of its body -/
theorem conS_end {w : Wd} {g : Gh} {H : Hp} {Q : VK} {E : XK} {o : SOut} (c : ConD w g H Q E (endD o)) : ConS w (fun cls d _ H => E cls d H) ⟨g, H, fun _ => False, none⟩ { nx := fun _ H' => Q .non H', rt := Q } o := by
  cases o with
  | nx ρ S => exact fun σ g' H' s o => c .non g' H' s.st o.o.toFr (rep_non.mpr rfl)
  | rt d S => exact fun v g' H' s o r => c v g' H' s o.toFr r
  | ex x fs ρ S => exact fun C d σ g' H' s o m x => c C d g' H' s.st o.o.toFr m x
  | bk ρ S => exact c.elim
  | ct ρ S => exact c.elim
  | stuck => exact c.elim
theorem fnD_of {P : Program} {w : World} {K : PySem.W.Frag} {mg : Str → Option Value} {base : Heap} {x qual : Str} {st : Stmt} {fd : FuncData} {N ps : List Str} {m : Nat} {body : SX} (F : Fun K x qual st f fd) (hS : FnScope N ps (defScope st)) (hn : ps.length = n) (hm : N.length = n + m) (hb : Binds K fd ps [])
    (B : ∀ (cdv : Value) (A : Around) (outer : List Env) (s : Shared) (H : Hp) (E : XK), Room k (A.deeper (envOfC qual (defScope st) s.heap.objs.size f cdv)) → GSs cl (cxOf (L2.CX P w) P w K mg base N qual (defScope st) f cdv A outer s H E) (defBody st) body) :
    FnD P w K mg base cl (k + 1) n f (runD n m body) := by
  refine ⟨fun ds S h => ?_, fd, ps, ?_, F.kp, hb⟩
  · unfold runD at h
    split at h
    · assumption
    · exact absurd rfl h
  · refine Fun.okX F hS (fun vs H Q E h => by rw [h.1, hn]) fun cdv A outer s H vs Q E hr ⟨hl, ds, S, g, sm, rp, c⟩ => ?_
    unfold runD at c
    split at c
    · refine ⟨_, B cdv A outer s H E hr _ (takes_of (E := E) rfl rfl rfl rfl) (passes_of rfl), _, S, g, ⟨g, H, fun _ => False, none⟩, sim_start sm rp (by rw [hm, hl]), ⟨⟨.refl, fun _ _ h f m _ => ⟨h, f, m⟩, fun _ _ h => ⟨_, h⟩⟩, fun i o a e => ?_, fun p o e => nomatch e⟩, conS_end c⟩
      have e := List.mem_of_getElem? e
      unfold startD at e
      simp only [List.mem_append, List.mem_map, List.mem_replicate] at e
      rcases e with ⟨_, _, e⟩ | ⟨_, e⟩ <;> cases e
    · exact c.elim
end
end GG
end

section
/-! G.K2: things that a def works on as its own (self in __init__), classes called, methods. -/
set_option linter.all false
set_option maxRecDepth 100000
namespace GG
open PySem L2
open PyProof.Rows hiding St

abbrev DenO := MO → List D → Store → Out (MO × Store)
/-- what is wanted behind a def that worked on the thing at p -/
def ConO (w : Wd) (W : Value → Option Addr → Hp → Prop) (p : Addr) (g : Gh) (H : Hp) (Q : Hp → Prop) : Out (MO × Store) → Prop
  | .ok q => ∀ g' H', SimS w g' H' q.2 → Out0 ⟨g, H, fun a => a = p, none⟩ g' H' → g'.F p = none → (∀ j, g'.m j ≠ some p) → MOk w g' H' p q.1 → Q H'
  | .exc c fs S' => ∀ C d g' H', SimS w g' H' S' → Out0 ⟨g, H, fun a => a = p, none⟩ g' H' → w.mg c = some (.ref C) → XRep w g' H' d fs → W (.ref C) d H'
  | .stuck => False
def spO (w : Wd) (n : Nat) (den : DenO) : Sp := fun vs H Q E => vs.length = n + 1 ∧ ∃ p us mo ds S g, vs = .ref p :: us ∧ g.F p = none ∧ (∀ j, g.m j ≠ some p) ∧ MOk w g H p mo ∧ SimS w g H S ∧ RepL w g ds us ∧ ConO w E p g H (fun H' => Q .non H') (den mo ds S)
structure FnO (P : Program) (w : World) (K : PySem.W.Frag) (mg : Str → Option Value) (base : Heap) (cl : Wp) (k n : Nat) (f : Addr) (den : DenO) : Prop where
  ar : ∀ mo ds S, den mo ds S ≠ .stuck → ds.length = n
  ex : ∃ fd ps, FnOk P w K mg base (L2.CX P w) k f fd ps (spO ⟨K, mg, cl.cl, cl.kc, cl.xa⟩ n den) ∧ PySem.W.keepIn K (.ref f) = true ∧ Binds K fd ps []
theorem FnO.mono {P : Program} {w : World} {K : PySem.W.Frag} {mg : Str → Option Value} {base : Heap} {cl : Wp} {k k' n : Nat} {f : Addr} {den : DenO} (F : FnO P w K mg base cl k n f den) (h : k ≤ k') : FnO P w K mg base cl k' n f den :=
  ⟨F.ar, let ⟨fd, ps, F1, h1, h2⟩ := F.ex; ⟨fd, ps, F1.mono h, h1, h2⟩⟩
abbrev FO (X : Cx) (cl : Wp) (k n : Nat) (f : Addr) (den : DenO) : Prop := FnO X.prog X.w X.K X.mg X.base cl k n f den
def startO (m : Nat) (mo : MO) (ds : List D) : LEnv := .own mo :: startD m ds
def endO : SOut → Out (MO × Store)
  | .nx ρ S => match ρ[0]? with
    | some (Slot.own mo) => .ok (mo, S)
    | _ => .stuck
  | .ex c fs _ S => .exc c fs S
  | _ => .stuck
def runO (n m : Nat) (body : SX) : DenO := fun mo ds S => if ds.length = n then endO (body (startO m mo ds) S) else .stuck
section
variable {cl : Wp} {X : Cx} {W : WX} {k n : Nat} {f : Addr} {den : DenO} {e : Expr} {es : List Expr} {t : AX} {pos : Pos}
theorem startD_no {m : Nat} {ds : List D} {i : Nat} {o : MO} (e : (startD m ds)[i]? = some (Slot.own o)) : False := by
  have e := List.mem_of_getElem? e
  unfold startD at e
  simp only [List.mem_append, List.mem_map, List.mem_replicate] at e
  rcases e with ⟨_, _, e⟩ | ⟨_, e⟩ <;> cases e
theorem sim_startO {w : Wd} {g : Gh} {H : Hp} {S : Store} {ds : List D} {vs : List V} {x : Str} {N : List Str} {m : Nat} {p : Addr} {mo : MO} (s : SimS w g H S) (r : RepL w g ds vs) (hm : N.length = vs.length + m) (h1 : g.F p = none) (h2 : ∀ j, g.m j ≠ some p) (h3 : MOk w g H p mo) :
    Sim w g H (startO m mo ds) (L2.start (x :: N) (.ref p :: vs)) S := by
  have q := sim_start (N := N) s r hm
  have e0 : L2.start (x :: N) (.ref p :: vs) = some (V.ref p) :: L2.start N vs := by
    unfold L2.start
    simp [Nat.add_sub_add_right]
  rw [e0]
  refine ⟨s, by simp [startO, q.len], fun i d e => ?_, fun i o e => ?_, fun i j o u a e1 e2 e3 e4 => ?_, fun i e => ?_⟩
  · cases i with
    | zero => cases e
    | succ i => exact q.val i d (by simpa [startO] using e)
  · cases i with
    | zero => cases e; exact ⟨p, rfl, h1, h2, h3⟩
    | succ i => exact (startD_no (by simpa [startO] using e)).elim
  · cases i with
    | succ i => exact (startD_no (by simpa [startO] using e1)).elim
    | zero => cases j with
      | succ j => exact (startD_no (by simpa [startO] using e2)).elim
      | zero => rfl
  · cases i with
    | zero => cases e
    | succ i => exact q.xc i (by simpa [startO] using e)
theorem conS_endO {w : Wd} {g : Gh} {H : Hp} {Q : VK} {E : XK} {p : Addr} {o : SOut} (c : ConO w E p g H (fun H' => Q .non H') (endO o)) : ConS w (fun cls d _ H => E cls d H) ⟨g, H, fun a => a = p, some p⟩ { nx := fun _ H' => Q .non H', rt := Q } o := by
  cases o with
  | nx ρ S =>
    intro σ g' H' s o
    have stk : ∀ {x : Out (MO × Store)}, endO (.nx ρ S) = x → ConO w E p g H (fun H' => Q .non H') x := fun {x} h => h ▸ c
    cases e : ρ[0]? with
    | none => exact (stk (x := .stuck) (by simp only [endO, e])).elim
    | some sl =>
      cases sl with
      | no => exact (stk (x := .stuck) (by simp only [endO, e])).elim
      | val d => exact (stk (x := .stuck) (by simp only [endO, e])).elim
      | xc => exact (stk (x := .stuck) (by simp only [endO, e])).elim
      | own mo =>
        have c := stk (x := .ok (mo, S)) (by simp only [endO, e])
        obtain ⟨a, k1, k2, k3, k4⟩ := s.own 0 mo e
        have e2 := o.fx p mo rfl e
        rw [k1] at e2; cases e2
        exact c g' H' s.st ⟨o.o.le, o.o.out, o.o.th⟩ k2 k3 k4
  | rt d S => exact c.elim
  | ex x fs ρ S => exact fun C d σ g' H' s o m x => c C d g' H' s.st ⟨o.o.le, o.o.out, o.o.th⟩ m x
  | bk ρ S => exact c.elim
  | ct ρ S => exact c.elim
  | stuck => exact c.elim
theorem fnO_of {P : Program} {w : World} {K : PySem.W.Frag} {mg : Str → Option Value} {base : Heap} {x y qual : Str} {st : Stmt} {fd : FuncData} {N ps : List Str} {m : Nat} {body : SX} (F : Fun K x qual st f fd) (hS : FnScope (y :: N) ps (defScope st)) (hn : ps.length = n + 1) (hm : N.length = n + m) (hb : Binds K fd ps [])
    (B : ∀ (cdv : Value) (A : Around) (outer : List Env) (s : Shared) (H : Hp) (E : XK), Room k (A.deeper (envOfC qual (defScope st) s.heap.objs.size f cdv)) → GSs cl (cxOf (L2.CX P w) P w K mg base (y :: N) qual (defScope st) f cdv A outer s H E) (defBody st) body) :
    FnO P w K mg base cl (k + 1) n f (runO n m body) := by
  refine ⟨fun mo ds S h => ?_, fd, ps, ?_, F.kp, hb⟩
  · unfold runO at h
    split at h
    · assumption
    · exact absurd rfl h
  · refine Fun.okX F hS (fun vs H Q E h => by rw [h.1, hn]) fun cdv A outer s H vs Q E hr ⟨hl, p, us, mo, ds, S, g, ev, h1, h2, h3, sm, rp, c⟩ => ?_
    subst ev
    unfold runO at c
    split at c
    · refine ⟨_, B cdv A outer s H E hr _ (takes_of (E := E) rfl rfl rfl rfl) (passes_of rfl), _, S, g, ⟨g, H, fun a => a = p, some p⟩, sim_startO sm rp (by rw [hm]; simp at hl; omega) h1 h2 h3, ⟨⟨.refl, fun _ _ h f m _ => ⟨h, f, m⟩, fun _ _ h => ⟨_, h⟩⟩, fun i o a e e' => ?_, fun q o e _ => ?_⟩, conS_endO c⟩
      · cases i with
        | succ i => exact (startD_no (by simpa [startO] using e)).elim
        | zero =>
          have e' : some (some (V.ref p)) = some (some (V.ref a)) := e'
          cases e'; exact .inr rfl
      · cases e; rfl
    · exact c.elim

/-! ### a class called -/
/-- the thing that a class makes -/
def mMk (c : Str) (den : DenO) (t : AX) : MX := fun ρ S => (t ρ S).bind fun p => den (.ins c [] []) p.1 p.2
/-- the arguments are there, and what stands behind making it is wanted -/
def ReadyM (w : Wd) (W : WX) (σ : L2.St) (H0 : Hp) (Q : VK) (c : Str) (den : DenO) : List V → Hp → Prop := fun vs H => ∃ ds S g, SimS w g H S ∧ RepL w g ds vs ∧ (∀ a, H a = none → H0 a = none) ∧ GG.Con w W σ (RN w H0) g H Q (den (.ins c [] []) ds S)
theorem run_M {pins : List (Addr × Obj)} {σ : L2.St} {H H0 : Hp} {s : Shared} {Q : VK} {us : List Value} {vs : List V} {c : Str} {C : Addr} (M : Mk X.K C f) (hmg : X.mg c = some (.ref C)) (hkc : cl.kc c) (F : FO X cl k n f den) (hr : Room (k + 1) X.A) (tk : Takes X W) (I : Inv X pins σ H s) (r : Vals vs us)
    (h : ReadyM (wd X cl) W σ H0 Q c den vs H) : wpAny (model X.prog X.w) X.A (call (.ref C) us) (EP X pins σ Q) X.xe s := by
  obtain ⟨ds, S, g, sm, rp, h0, cc⟩ := h
  obtain ⟨fd, ps, F1, _, hb⟩ := F.ex
  generalize hx : s.heap.objs.size + 1 = x
  generalize hd : s.heap.objs.size = dx
  have nx : H x = none := I.hok.fresh (by rw [← hx]; exact Nat.le_succ _)
  have nd : H dx = none := I.hok.fresh (by rw [← hd]; exact Nat.le_refl _)
  have ne : dx ≠ x := by rw [← hx, ← hd]; exact Nat.ne_of_lt (Nat.lt_succ_self _)
  have I2 := Inv.made (C := C) I
  rw [hx, hd] at I2
  obtain ⟨x1, x2⟩ := SimS.none sm nx
  obtain ⟨d1, d2⟩ := SimS.none sm nd
  have sm2 : SimS (wd X cl) g (upd (upd H dx (.own x)) x (.ins C dx [])) S := (sm.off d1 d2).off x1 x2
  have keep : ∀ a u, H a = some u → upd (upd H dx (.own x)) x (.ins C dx []) a = some u := fun a u e => by rw [upd_ne (ne_of_none e nx), upd_ne (ne_of_none e nd)]; exact e
  have back : ∀ {g' : Gh} {H' : Hp}, Out0 ⟨g, upd (upd H dx (.own x)) x (.ins C dx []), fun a => a = x, none⟩ g' H' → GG.Fr g H g' H' := fun {g' H'} o => ⟨o.le, fun a u e1 e2 e3 => o.out a u (keep a u e1) e2 e3 (ne_of_none e1 nx), fun a u e => o.th a u (keep a u e)⟩
  have hsp : spO (wd X cl) n den (.ref x :: vs) (upd (upd H dx (.own x)) x (.ins C dx [])) (fun v H2 => v = .non ∧ Q (.ref x) H2) (WE W σ) := by
    refine ⟨by simp [← rp.length, F.ar _ _ _ (con_ns cc)], x, vs, .ins c [] [], ds, S, g, rfl, x1, x2, ⟨hkc, C, dx, [], hmg, upd_same, rfl, .nil⟩, sm2, rp, ?_⟩
    cases ed : den (.ins c [] []) ds S with
    | ok q =>
      rw [ed] at cc
      exact fun g' H' s' o f1 f2 mo => ⟨rfl, cc (.ref x) g' H' s' (back o) ⟨x, rfl, h0 x nx, f1, f2, mo⟩⟩
    | exc y fs S' => rw [ed] at cc; exact fun C' d' g' H' s' o m xr => cc C' d' g' H' s' (back o) m xr
    | stuck => rw [ed] at cc; exact cc.elim
  have r2 : Vals (V.ref x :: vs) (Value.ref x :: us) := .cons rfl r
  have hl : (Value.ref x :: us).length = ps.length := by rw [← r2.length]; exact F1.len _ _ _ _ hsp
  subst hx hd
  have bound := hb { s with heap := (s.heap.push PySem.W.emptyDict).push (PySem.W.instObj C s.heap.objs.size) } (.ref (s.heap.objs.size + 1) :: us) I2.kIn (by rw [List.append_nil]; exact hl)
  rw [List.append_nil] at bound
  have ran := F1.run _ X.stack _ _ ⟨Value.ref (s.heap.objs.size + 1) :: us, []⟩ _ _ _ _ (hr.make C us []) (I2.env0.make C us []) bound r2 hsp
  refine wpAny_call (make_map (f := f) I.kIn M.makes M.init (beq_iff_eq.mp M.fn) (codeAny_mono ran fun r s' out => ?_))
  cases r with
  | error e => exact passAt tk σ pins _ _ e s' I2 out
  | ok fl =>
    cases fl with
    | ret u =>
      obtain ⟨v, H', I3, rv, ev, q3⟩ := I2.after out
      subst ev
      exact ⟨rv, V.ref (s.heap.objs.size + 1), H', I3, rfl, q3⟩
    | next => exact out.elim
    | brk => exact out.elim
    | cont => exact out.elim
theorem rd_mk {w : Wd} {σ : L2.St} {H : Hp} {Q : VK} {ρ : LEnv} {S : Store} {g : Gh} {c : Str} (sim : Sim w g H ρ σ S) (cc : GG.Con w W σ (RN w H) g H Q (mMk c den t ρ S)) : tX w W (RA w) t σ H (ReadyM w W σ H Q c den) :=
  Con.fst sim cc fun vs H1 ds S1 g1 s1 f1 r1 c1 => ⟨ds, S1, g1, s1.st, r1, fun a h => f1.none h, Con.fr c1 f1⟩
theorem gm_mk {c : Str} {C : Addr} {p : Pos} (M : Mk X.K C f) (hm : X.mg c = some (.ref C)) (hkc : cl.kc c) (F : FO X cl k n f den) (hr : Room (k + 1) X.A) (hg : Gl X c) (ha : GA cl X (e :: es) t) (hdb : (c == ("__debug__" : Str)) = false)
    (he : starEach (e :: es) X.env = (false, eval e X.env) :: starEach es X.env) (hpl : (backTo pos (starEach es X.env)).any (·.1) = false) : GM cl X (.Call (.Name c p) (e :: es) [] pos) (mMk c den t) := fun W tk => by
  refine ⟨fun pins s σ H Q I ⟨ρ, S, g, sim, cc⟩ => wpAny_Call_Name_kw (ld_glob I hg hm ?_ hdb)⟩
  exact PySem.W.callWith_K (h₀ := X.base) I.ok.mod.kin M.kp (thn ((ha W tk).run pos pins s σ H _ I (rd_mk sim cc)) fun us s1 ⟨vs, H1, I1, r, q⟩ => ⟨I1.kIn, run_M M hm hkc F hr tk I1 r q⟩) he hpl
theorem gm_mk0 {c : Str} {C : Addr} {p : Pos} (M : Mk X.K C f) (hm : X.mg c = some (.ref C)) (hkc : cl.kc c) (F : FO X cl k n f den) (hr : Room (k + 1) X.A) (hg : Gl X c) (hdb : (c == ("__debug__" : Str)) = false) : GM cl X (.Call (.Name c p) [] [] pos) (mMk c den aN) := fun W tk => by
  refine ⟨fun pins s σ H Q I ⟨ρ, S, g, sim, cc⟩ => wpAny_Call_Name_kw (ld_glob I hg hm ?_ hdb)⟩
  exact PySem.W.callWith_K0 I.kIn M.kp (run_M (us := []) (vs := []) M hm hkc F hr tk I .nil ⟨[], S, g, sim.st, .nil, fun _ h => h, cc⟩)

/-! ### methods -/
/-- the class and the names of the attributes -/
def clsOf (S : Store) : D → Option (Str × List Str)
  | .obj c fs _ => some (c, fs)
  | .ptr n => match S[n]? with
    | some (.ins c fs _) => some (c, fs)
    | _ => none
  | _ => none
/-- the def that a method's name leads to, by the class -/
def methAt (m : Str) (tab : GTab) (S : Store) (d : D) : Option Den := (clsOf S d).bind fun p => if p.2.contains m then none else tab.lookup p.1
def eMeth (m : Str) (tab : GTab) (o : EX) (t : AX) : EX := fun ρ S => (o ρ S).bind fun p => (Out.opt (methAt m tab p.2 p.1)).bind fun den => (t ρ p.2).bind fun q => den (p.1 :: q.1) q.2
/-- a method's text -/
structure MOk' (P : Program) (w : World) (K : PySem.W.Frag) (mg : Str → Option Value) (base : Heap) (cl : Wp) (k : Nat) (m : Str) (tab : GTab) : Prop where
  ok : ∀ c den, tab.lookup c = some den → ∃ n f C, mg c = some (.ref C) ∧ Cls K C ∧ Meth K C m f ∧ FnD P w K mg base cl k n f den
theorem lookup_none {fs : List Str} {vs : List V} {m : Str} (h : fs.contains m = false) : (fs.zip vs).lookup m = none := by
  induction fs generalizing vs with
  | nil => rfl
  | cons f fs ih =>
    cases vs with
    | nil => rfl
    | cons v vs =>
      rw [List.contains_cons, Bool.or_eq_false_iff] at h
      rw [List.zip_cons_cons, List.lookup_cons, h.1]
      exact ih h.2
theorem meth_of {g : Gh} {H : Hp} {S : Store} {d : D} {v : V} {m : Str} {tab : GTab} {dn : Den} (M : MOk' X.prog X.w X.K X.mg X.base cl k m tab) (s : SimS (wd X cl) g H S) (r : Rep (wd X cl) g d v) (e : methAt m tab S d = some dn) :
    ∃ a C dx fs n f, v = .ref a ∧ H a = some (.ins C dx fs) ∧ Cls X.K C ∧ Meth X.K C m f ∧ fs.lookup m = none ∧ FX X cl k n f dn := by
  unfold methAt at e
  rw [Option.bind_eq_some_iff] at e
  obtain ⟨⟨c, fs⟩, e1, e2⟩ := e
  dsimp only at e2
  split at e2
  · cases e2
  · rename_i hz
    have hz : fs.contains m = false := by simpa using hz
    obtain ⟨n, f, C, hm, hc, ht, hF⟩ := M.ok c dn e2
    have fin : ∀ {a : Addr} {C' dx : Addr} {us : List V}, X.mg c = some (.ref C') → H a = some (.ins C' dx (fs.zip us)) → v = .ref a → ∃ a C dx fs n f, v = .ref a ∧ H a = some (.ins C dx fs) ∧ Cls X.K C ∧ Meth X.K C m f ∧ fs.lookup m = none ∧ FX X cl k n f dn := fun {a C' dx us} h1 h2 h3 => by
      rw [hm] at h1; cases h1
      exact ⟨a, C, dx, _, n, f, h3, h2, hc, ht, lookup_none hz, hF⟩
    unfold clsOf at e1
    split at e1
    · cases e1
      obtain ⟨_, a, C', dx, us, rfl, h1, h2, _⟩ := rep_obj'.mp r
      exact fin h1 (sub_lst s.sub (fun z => z) h2) rfl
    · rename_i i
      obtain ⟨a, h1, rfl⟩ := rep_ptr.mp r
      split at e1
      · rename_i c' fs' vs' h2
        cases e1
        obtain ⟨_, _, C', dx, us, h3, h4, _⟩ := s.at_ i _ a h2 h1
        exact fin h3 h4 rfl
      · cases e1
    · cases e1
theorem ge_meth {o : Expr} {m : Str} {da : EX} {apos : Pos} {tab : GTab} {pl : Sem Bool} (M : MOk' X.prog X.w X.K X.mg X.base cl k m tab) (hr : Room k X.A) (ho : GE cl X o da) (ha : GA cl X (e :: es) t)
    (hst : starEach (e :: es) X.env = (false, eval e X.env) :: starEach es X.env) (hpl : (backTo pos (starEach es X.env)).any (·.1) = false)
    (ht : eval (.Call (.Attribute o m apos) (e :: es) [] pos) X.env = (do
      let ov ← eval o X.env
      standAt apos.atName
      let (f, first) ← holding [ov] (getMethod ov m pl)
      callWith pos f first (backTo pos (starEach (e :: es) X.env)) (backToKw pos (keywordEach [] X.env)))) : GE cl X (.Call (.Attribute o m apos) (e :: es) [] pos) (eMeth m tab da t) := fun W tk => by
  refine ⟨fun pins s σ H Q I ⟨ρ, S, g, sim, c⟩ => ?_⟩
  refine PySem.W.methodCall_KW (pl := pl) (thn ((ho W tk).run pins s σ H _ I (Con.go (T := fun x H1 => ∃ a C dx fs n f dn ds S1 g1, x = .ref a ∧ H1 a = some (.ins C dx fs) ∧ Cls X.K C ∧ Meth X.K C m f ∧ fs.lookup m = none ∧ FX X cl k n f dn ∧ Rep (wd X cl) g1 ds x ∧ Sim (wd X cl) g1 H1 ρ σ S1 ∧
      GG.Con (wd X cl) W σ (RE (wd X cl)) g1 H1 Q ((t ρ S1).bind fun q => dn (ds :: q.1) q.2)) sim c fun v H1 d1 S1 g1 e1 s1 f1 r1 c1 => ?_)) fun u s1 ⟨x, H1, I1, rx, a, C, dx, fs, n, f, dn, d1, S1, g1, ex, ea, hc, hm, hl, hF, r1, sm, c1⟩ => ?_) ht
  · obtain ⟨dn, e2, c2⟩ := c1.opt
    obtain ⟨a, C, dx, fs, n, f, h1, h2, h3, h4, h5, h6⟩ := meth_of M s1.st r1 e2
    exact ⟨a, C, dx, fs, n, f, dn, d1, S1, g1, h1, h2, h3, h4, h5, h6, r1, s1, c2⟩
  · subst ex
    obtain rfl : u = Value.ref a := rx
    refine getmeth_ok I1 ea hc hm hl ?_
    refine PySem.W.callWith_K (first := [.ref a]) (h₀ := X.base) I1.ok.mod.kin hm.kp (thn ((ha W tk).run pos pins s1 σ H1 (fun vs H2 => Ready (wd X cl) W σ Q dn (.ref a :: vs) H2) I1 (Con.fst sm c1 fun vs H2 ds S2 g2 s2 f2 r2 c2 => ⟨d1 :: ds, S2, g2, s2.st, .cons (r1.mono f2.le) r2, Con.fr c2 f2⟩)) fun us s2 ⟨vs, H2, I2, r, q2⟩ => ⟨I2.kIn, ?_⟩) hst hpl
    exact run_R (us := .ref a :: us) (vs := .ref a :: vs) hF hr tk I2 (.cons rfl r) q2
theorem ge_meth0 {o : Expr} {m : Str} {da : EX} {apos : Pos} {tab : GTab} {pl : Sem Bool} (M : MOk' X.prog X.w X.K X.mg X.base cl k m tab) (hr : Room k X.A) (ho : GE cl X o da)
    (ht : eval (.Call (.Attribute o m apos) [] [] pos) X.env = (do
      let ov ← eval o X.env
      standAt apos.atName
      let (f, first) ← holding [ov] (getMethod ov m pl)
      callWith pos f first (backTo pos (starEach [] X.env)) (backToKw pos (keywordEach [] X.env)))) : GE cl X (.Call (.Attribute o m apos) [] [] pos) (eMeth m tab da aN) := fun W tk => by
  refine ⟨fun pins s σ H Q I ⟨ρ, S, g, sim, c⟩ => ?_⟩
  refine PySem.W.methodCall_KW (pl := pl) (thn ((ho W tk).run pins s σ H _ I (Con.go (T := fun x H1 => ∃ a C dx fs n f dn, x = .ref a ∧ H1 a = some (.ins C dx fs) ∧ Cls X.K C ∧ Meth X.K C m f ∧ fs.lookup m = none ∧ FX X cl k n f dn ∧ Ready (wd X cl) W σ Q dn [x] H1) sim c fun v H1 d1 S1 g1 e1 s1 f1 r1 c1 => ?_))
    fun u s1 ⟨x, H1, I1, rx, a, C, dx, fs, n, f, dn, ex, ea, hc, hm, hl, hF, q⟩ => ?_) ht
  · obtain ⟨dn, e2, c2⟩ := c1.opt
    obtain ⟨a, C, dx, fs, n, f, h1, h2, h3, h4, h5, h6⟩ := meth_of M s1.st r1 e2
    exact ⟨a, C, dx, fs, n, f, dn, h1, h2, h3, h4, h5, h6, [d1], S1, g1, s1.st, .cons r1 .nil, c2⟩
  · subst ex
    obtain rfl : u = Value.ref a := rx
    refine getmeth_ok I1 ea hc hm hl ?_
    exact PySem.W.callWith_K0 (first := [.ref a]) I1.kIn hm.kp (run_R (us := [.ref a]) (vs := [.ref a]) hF hr tk I1 (.cons rfl .nil) q)
end
end GG
end

section
/-! G.L: what changes things: attributes, items, methods of lists. -/
set_option linter.all false
set_option maxRecDepth 100000
namespace GG
open PySem L2
open PyProof.Rows hiding St

def optS {α : Type} (o : Option α) (k : α → SOut) : SOut := match o with
  | some x => k x
  | none => .stuck
@[simp] theorem optS_some {α : Type} (x : α) (k : α → SOut) : optS (some x) k = k x := rfl
@[simp] theorem optS_none {α : Type} (k : α → SOut) : optS none k = .stuck := rfl
theorem ConS.opt {w : Wd} {W : WX} {B : Bs} {D : Ends} {α : Type} {o : Option α} {k : α → SOut} (c : ConS w W B D (optS o k)) : ∃ x, o = some x ∧ ConS w W B D (k x) := by
  cases o with
  | none => exact c.elim
  | some x => exact ⟨x, rfl, c⟩

/-! ### reading an attribute -/
def fldD (f : Str) : D → Option D
  | .obj _ fs vs => (fs.zip vs).lookup f
  | _ => none
structure FldOk (K : PySem.W.Frag) (mg : Str → Option Value) (cl : Wp) (f : Str) : Prop where
  ok : ∀ c C, cl.kc c → mg c = some (.ref C) → Cls K C ∧ NoAttr K C f
theorem lookup_rep {w : Wd} {g : Gh} {f : Str} {d : D} : ∀ {fs : List Str} {ds : List D} {vs : List V}, RepL w g ds vs → (fs.zip ds).lookup f = some d → ∃ v, (fs.zip vs).lookup f = some v ∧ Rep w g d v
  | [], _, _, _, e => by cases e
  | _ :: _, [], _, _, e => by cases e
  | x :: fs, y :: ds, _, r, e => by
    obtain ⟨v, vr, rfl, q1, q2⟩ := r.cases
    rw [List.zip_cons_cons, List.lookup_cons] at e
    rw [List.zip_cons_cons, List.lookup_cons]
    cases h : (f == x) with
    | true => rw [h] at e; cases e; exact ⟨v, rfl, q1⟩
    | false => rw [h] at e; exact lookup_rep q2 e
section
variable {cl : Wp} {X : Cx} {o e : Expr} {es : List Expr} {ho : HX} {da db : EX} {f : Str} {pos : Pos}
theorem ge_fld (F : FldOk X.K X.mg cl f) (h : GHd cl X o ho) (hb : attributeBase o f X.env (eval o X.env) = eval o X.env) : GE cl X (.Attribute o f pos) (eH ho (fldD f)) := fun W tk =>
  PE.weak (pe_fld (h W tk) hb) fun σ H Q ⟨ρ, S, g, sim, c⟩ => Con.go sim c fun v H1 hd S1 g1 e1 s1 f1 r1 c1 => by
    obtain ⟨d, e, c3⟩ := c1.opt
    rw [Option.bind_eq_some_iff] at e
    obtain ⟨dc, e3, e4⟩ := e
    have sh := shown_of s1 r1 e3
    cases dc with
    | obj c fs ds =>
      obtain ⟨kc, a, C, dx, vs, rfl, hm, hH, hl, l⟩ := sh
      obtain ⟨h1, h2⟩ := F.ok c C kc hm
      obtain ⟨v, e5, r5⟩ := lookup_rep l e4
      exact ⟨a, C, dx, _, v, rfl, hH, h1, h2, e5, Con.val c3 s1.st r5⟩
    | _ => cases e4

/-! ### the thing behind a handle, changed -/
def curH (ρ : LEnv) (S : Store) : HD → Option MO
  | .d (.ptr n) => S[n]?
  | .own i => match ρ[i]? with
    | some (Slot.own o) => some o
    | _ => none
  | _ => none
def putO (ρ : LEnv) (S : Store) (mo : MO) : HD → Option (LEnv × Store)
  | .d (.ptr n) => some (ρ, S.set n mo)
  | .own i => some (ρ.set i (.own mo), S)
  | _ => none
theorem Sim.upd {w : Wd} {B : Bs} {g : Gh} {H : Hp} {ρ : LEnv} {σ : L2.St} {S : Store} {hd : HD} {v : V} {mo : MO} (sim : Sim w g H ρ σ S) (o : Outr B g H ρ σ) (r : RH w σ g H hd v) (e : curH ρ S hd = some mo) : ∃ a, v = .ref a ∧ MOk w g H a mo ∧ g.F a = none ∧
    ∀ (u : HO) (mo' : MO), MOk w g (L2.upd H a u) a mo' → ∃ ρ' S', putO ρ S mo' hd = some (ρ', S') ∧ Sim w g (L2.upd H a u) ρ' σ S' ∧ Outr B g (L2.upd H a u) ρ' σ := by
  unfold curH at e
  split at e
  · rename_i n
    obtain ⟨a, hm, rfl⟩ := (rep_ptr (w := w) (g := g)).mp r
    obtain ⟨k1, k2⟩ := sim.st.at_ n mo a e hm
    have hn : n < S.length := (sim.st.dom n).mpr ⟨a, hm⟩
    have far : ∀ (i : Nat) o b, ρ[i]? = some (Slot.own o) → σ[i]? = some (some (V.ref b)) → b ≠ a := fun i o b e1 e2 z => by
      obtain ⟨c, q1, _, q3, _⟩ := sim.own i o e1
      rw [e2] at q1; cases q1
      exact q3 n (by rw [z]; exact hm)
    refine ⟨a, rfl, k2, k1, fun u mo' m' => ⟨ρ, S.set n mo', rfl, ⟨⟨fun b o q => ?_, fun i => ?_, sim.st.inj, fun i o b e1 e2 => ?_⟩, sim.len, sim.val, fun i o e1 => ?_, sim.apart, sim.xc⟩, ⟨⟨o.o.le, fun b o' e1 e2 e3 e4 => ?_, fun b o' e1 => ?_⟩, o.ow, o.fx⟩⟩⟩
    · rw [upd_ne fun z => by rw [z, k1] at q; cases q]; exact sim.st.sub b o q
    · rw [List.length_set]; exact sim.st.dom i
    · by_cases hi : n = i
      · subst hi
        rw [List.getElem?_set_self hn] at e1; cases e1
        rw [hm] at e2; cases e2
        exact ⟨k1, m'⟩
      · rw [List.getElem?_set_ne hi] at e1
        obtain ⟨q1, q2⟩ := sim.st.at_ i o b e1 e2
        exact ⟨q1, q2.mono .refl fun u q => by rw [upd_ne fun z => hi (sim.st.inj n i a hm (by rw [← z]; exact e2))]; exact q⟩
    · obtain ⟨b, q1, q2, q3, q4⟩ := sim.own i o e1
      exact ⟨b, q1, q2, q3, q4.mono .refl fun u q => by rw [upd_ne (far i o b e1 q1)]; exact q⟩
    · obtain ⟨h1, h2, h3⟩ := o.o.out b o' e1 e2 e3 e4
      exact ⟨by rw [upd_ne fun z => h3 n (by rw [z]; exact hm)]; exact h1, h2, h3⟩
    · obtain ⟨o2, h⟩ := o.o.th b o' e1
      by_cases hb : b = a
      · subst hb; exact ⟨u, upd_same⟩
      · exact ⟨o2, by rw [upd_ne hb]; exact h⟩
  · rename_i i
    split at e
    · rename_i o' e'
      cases e
      have r : σ[i]? = some (some v) := r
      obtain ⟨a, k1, k2, k3, k4⟩ := sim.own i _ e'
      rw [r] at k1; cases k1
      have hi : i < ρ.length := (List.getElem?_eq_some_iff.mp e').1
      have hσ : i < σ.length := by rw [← sim.len]; exact hi
      have es : σ.set i (some (V.ref a)) = σ := by
        apply List.ext_getElem?
        intro j
        by_cases hj : i = j
        · subst hj; rw [List.getElem?_set_self hσ, r]
        · rw [List.getElem?_set_ne hj]
      refine ⟨a, rfl, k4, k2, fun u mo' m' => ⟨ρ.set i (.own mo'), S, rfl, ⟨sim.st.off k2 k3, by rw [List.length_set]; exact sim.len, fun j d e1 => ?_, fun j x e1 => ?_, fun j k x y b e1 e2 e3 e4 => ?_, fun j e1 => ?_⟩, ⟨⟨o.o.le, fun b o' e1 e2 e3 e4 => ?_, fun b o' e1 => ?_⟩, fun j x b e1 e2 => ?_, fun p x e1 e2 => ?_⟩⟩⟩
      · by_cases hj : i = j
        · subst hj; rw [List.getElem?_set_self hi] at e1; cases e1
        · rw [List.getElem?_set_ne hj] at e1; exact sim.val j d e1
      · by_cases hj : i = j
        · subst hj; rw [List.getElem?_set_self hi] at e1; cases e1; exact ⟨a, r, k2, k3, m'⟩
        · rw [List.getElem?_set_ne hj] at e1
          obtain ⟨b, q1, q2, q3, q4⟩ := sim.own j x e1
          exact ⟨b, q1, q2, q3, q4.mono .refl fun u q => by rw [upd_ne fun z => hj (sim.apart i j _ x a e' e1 r (by rw [← z]; exact q1))]; exact q⟩
      · have old : ∀ {j x}, (ρ.set i (.own mo'))[j]? = some (Slot.own x) → ∃ y, ρ[j]? = some (Slot.own y) := fun {j x} e1 => by
          by_cases hj : i = j
          · subst hj; exact ⟨_, e'⟩
          · rw [List.getElem?_set_ne hj] at e1; exact ⟨_, e1⟩
        obtain ⟨x', e1⟩ := old e1
        obtain ⟨y', e2⟩ := old e2
        exact sim.apart j k x' y' b e1 e2 e3 e4
      · by_cases hj : i = j
        · subst hj; rw [List.getElem?_set_self hi] at e1; cases e1
        · rw [List.getElem?_set_ne hj] at e1; exact sim.xc j e1
      · obtain ⟨h1, h2, h3⟩ := o.o.out b o' e1 e2 e3 e4
        have hb : b ≠ a := fun z => by
          subst z
          rcases o.ow i _ b e' r with q | q
          · rw [e1] at q; cases q
          · exact e4 q
        exact ⟨by rw [upd_ne hb]; exact h1, h2, h3⟩
      · obtain ⟨o2, h⟩ := o.o.th b o' e1
        by_cases hb : b = a
        · subst hb; exact ⟨u, upd_same⟩
        · exact ⟨o2, by rw [upd_ne hb]; exact h⟩
      · by_cases hj : i = j
        · subst hj; exact o.ow i _ b e' e2
        · rw [List.getElem?_set_ne hj] at e1; exact o.ow j x b e1 e2
      · by_cases hj : i = 0
        · subst hj; exact o.fx p _ e1 e'
        · rw [List.getElem?_set_ne hj] at e2; exact o.fx p x e1 e2
    · cases e
  · cases e

/-! ### setting an attribute -/
def setK (f : Str) (d : D) : List Str → List D → List D
  | x :: fs, y :: ds => if x = f then d :: ds else y :: setK f d fs ds
  | _, _ => [d]
def addK (f : Str) : List Str → List Str
  | x :: fs => if x = f then x :: fs else x :: addK f fs
  | [] => [f]
theorem setK_rep {w : Wd} {g : Gh} {f : Str} {d : D} {v : V} (r : Rep w g d v) : ∀ {fs : List Str} {ds : List D} {vs : List V}, fs.length = vs.length → RepL w g ds vs → ∃ us, putF f v (fs.zip vs) = (addK f fs).zip us ∧ (addK f fs).length = us.length ∧ RepL w g (setK f d fs ds) us
  | [], ds, vs, hl, l => by
    have : vs = [] := List.length_eq_zero_iff.mp hl.symm
    subst this
    have hd := l.length
    have : ds = [] := List.length_eq_zero_iff.mp hd
    subst this
    exact ⟨[v], rfl, rfl, .cons r .nil⟩
  | x :: fs, ds, [], hl, l => by simp at hl
  | x :: fs, ds, u :: vs, hl, l => by
    cases ds with
    | nil => have := l.length; simp at this
    | cons d0 ds =>
      obtain ⟨u', vr, e, q1, q2⟩ := l.cases
      obtain ⟨rfl, rfl⟩ := List.cons.inj e
      have e0 : putF f v ((x :: fs).zip (u :: vs)) = if x = f then (x, v) :: fs.zip vs else (x, u) :: putF f v (fs.zip vs) := rfl
      rw [e0]
      unfold addK setK
      by_cases hx : x = f
      · rw [if_pos hx, if_pos hx, if_pos hx]
        exact ⟨v :: vs, rfl, by simpa using hl, .cons r q2⟩
      · rw [if_neg hx, if_neg hx, if_neg hx]
        obtain ⟨us, k1, k2, k3⟩ := setK_rep (fs := fs) (ds := ds) (vs := vs) r (by simpa using hl) q2
        exact ⟨u :: us, by rw [k1]; rfl, by simp [k2], .cons q1 k3⟩
def setFD (f : Str) (d : D) : MO → Option MO
  | .ins c fs vs => if fs.length < 1000 then some (.ins c (addK f fs) (setK f d fs vs)) else none
  | _ => none
def sFld (h : HX) (f : Str) (e : EX) : SX := fun ρ S => (e ρ S).st ρ fun d S => (h ρ S).st ρ fun hd S => optS ((curH ρ S hd).bind (setFD f d)) fun mo => optS (putO ρ S mo hd) fun p => .nx p.1 p.2
theorem gs_fld {p' : Pos} (F : FldOk X.K X.mg cl f) (h : GHd cl X o ho) (he : GE cl X e da) (hs : swapsWith e (some (.Attribute o f p')) pos.line X.env = pure false) : GS cl X (.Assign [.Attribute o f p'] e pos) (sFld ho f da) := fun W tk hp =>
  PS.weak (ps_fld (h W tk) (he W tk) hs) fun D σ H ⟨ρ, S, g, B, sim, ou, c⟩ => ConS.go sim ou c fun v H1 d S1 g1 e1 s1 o1 f1 r1 c1 =>
    ConS.go (R := RH (wd X cl) σ) s1 o1 c1 fun x H2 hd S2 g2 e2 s2 o2 f2 r2 c2 => by
      obtain ⟨mo', e3, c3⟩ := c2.opt
      rw [Option.bind_eq_some_iff] at e3
      obtain ⟨mo, e4, e5⟩ := e3
      obtain ⟨a, rfl, m, _, k⟩ := s2.upd o2 r2 e4
      cases mo with
      | ins c fs ds =>
        unfold setFD at e5
        dsimp only at e5
        split at e5
        · rename_i hz
          cases e5
          obtain ⟨kc, C, dx, us, hm, hH, hl, l⟩ := m
          obtain ⟨h1, h2⟩ := F.ok c C kc hm
          obtain ⟨us', k1, k2, k3⟩ := setK_rep (r1.mono f2.le) hl l
          obtain ⟨ρ', S', e6, s6, o6⟩ := k (.ins C dx (putF f v (fs.zip us))) (.ins c (addK f fs) (setK f d fs ds)) ⟨kc, C, dx, us', hm, by rw [upd_same, k1], k2, k3⟩
          rw [e6] at c3
          exact ⟨a, C, dx, _, rfl, hH, h1, h2, by rw [List.length_zip, ← hl]; omega, c3 σ g2 _ s6 o6⟩
        · cases e5
      | _ => cases e5
end
end GG
end

section
/-! G.L2: items set, methods of lists, augmented names. -/
set_option linter.all false
set_option maxRecDepth 100000
namespace GG
open PySem L2
open PyProof.Rows hiding St

def okO {α : Type} : Out α → Option α
  | .ok a => some a
  | _ => none
@[simp] theorem okO_ok {α : Type} (a : α) : okO (.ok a) = some a := rfl
/-! ### targets that change things -/
abbrev TX := D → LEnv → Store → Option (LEnv × Store)
def tN (i : Nat) : TX := fun d ρ S => some (ρ.set i (.val d), S)
def setI (k d : D) : MO → Option MO
  | .lst xs => match k with
    | .int i => (ixN xs.length i).map fun j => .lst (xs.set j d)
    | _ => none
  | _ => none
def tI (h : HX) (ie : EX) : TX := fun d ρ S => (okO (h ρ S)).bind fun p => (okO (ie ρ p.2)).bind fun q => ((curH ρ q.2 p.1).bind (setI q.1 d)).bind fun mo => putO ρ q.2 mo p.1
def tAll : List TX → List D → LEnv → Store → Option (LEnv × Store)
  | [], [], ρ, S => some (ρ, S)
  | n :: ns, d :: ds, ρ, S => (n d ρ S).bind fun p => tAll ns ds p.1 p.2
  | _, _, _, _ => none
def tT (ns : List TX) : TX := fun d ρ S => match d with
  | .tup ds => tAll ns ds ρ S
  | .ktp ds => tAll ns ds ρ S
  | _ => none
def sAsg (e : EX) (t : TX) : SX := fun ρ S => (e ρ S).st ρ fun d S => optS (t d ρ S) fun p => .nx p.1 p.2
def rT (w : Wd) (den : TX) : TG := fun v σ H Q => ∃ d ρ S g B ρ' S', Sim w g H ρ σ S ∧ Outr B g H ρ σ ∧ Rep w g d v ∧ den d ρ S = some (ρ', S') ∧ ∀ σ' g' H', Sim w g' H' ρ' σ' S' → Outr B g' H' ρ' σ' → Le g g' → Q σ' H'
def rTs (w : Wd) (dens : List TX) : TGs := fun vs σ H Q => ∃ ds ρ S g B ρ' S', Sim w g H ρ σ S ∧ Outr B g H ρ σ ∧ RepL w g ds vs ∧ tAll dens ds ρ S = some (ρ', S') ∧ ∀ σ' g' H', Sim w g' H' ρ' σ' S' → Outr B g' H' ρ' σ' → Le g g' → Q σ' H'
variable (cl : Wp)
def GTg (X : Cx) (tg : Expr) (den : TX) : Prop := ∀ W, Takes X W → PG X tg (rT (wd X cl) den)
def GTgs (X : Cx) (tg : List Expr) (dens : List TX) : Prop := ∀ W, Takes X W → PGs X tg (rTs (wd X cl) dens)
section
variable {cl} {X : Cx} {o e : Expr} {es : List Expr} {ho : HX} {da db : EX} {pos : Pos} {t : TX} {ts : List TX}
theorem gtg_n {vs : List Nat} {n : NX} {tg : Expr} (h : GN cl X vs tg n) : GTg cl X tg (fun d ρ S => (n d ρ).map fun ρ' => (ρ', S)) := fun W tk => PG.weak h fun v σ H Q ⟨d, ρ, S, g, B, ρ', S', sim, ou, r, e, k⟩ => by
  rw [Option.map_eq_some_iff] at e
  obtain ⟨ρ1, e1, e2⟩ := e
  cases e2
  exact ⟨d, ρ, S, g, ρ', sim, r, e1, fun σ' s' kp => k σ' g H s' (kp.outr ou) .refl⟩
/-- an outcome that is ok, its exceptions not looked at -/
theorem okO_go {w : Wd} {W : WX} {B : Bs} {α β : Type} {R : Gh → Hp → α → β → Prop} {ρ : LEnv} {σ : L2.St} {S : Store} {g : Gh} {H : Hp} {den : LEnv → Store → Out (α × Store)} {p : α × Store} {T : β → Hp → Prop} (sim : Sim w g H ρ σ S) (o : Outr B g H ρ σ) (e : okO (den ρ S) = some p)
    (h : ∀ b H1 g1, Sim w g1 H1 ρ σ p.2 → Outr B g1 H1 ρ σ → GG.Fr g H g1 H1 → R g1 H1 p.1 b → T b H1) : tX w W R den σ H T := by
  refine ⟨ρ, S, g, sim, ?_⟩
  cases e1 : den ρ S with
  | ok q =>
    rw [e1] at e; cases e
    exact fun b g1 H1 s f r => h b H1 g1 (sim.fr f s) (o.fr f) f r
  | exc _ _ _ => rw [e1] at e; cases e
  | stuck => rw [e1] at e; cases e
theorem gtg_i (hu : X.A.units + 1 < cLine) (h1 : GHd cl X o ho) (h2 : GE cl X e da) (ha : ∀ v, assign (.Subscript o e pos) X.env v = (do
      let ov ← holding [v] (eval o X.env)
      let iv ← holding [v, ov] (eval e X.env)
      standAt pos
      holding [v, ov, iv] (setItem ov iv v)
      release [v, ov, iv] [])) : GTg cl X (.Subscript o e pos) (tI ho da) := fun W tk =>
  PG.weak (pg_sub (h1 W tk) (h2 W tk) set_list ha) fun v σ H Q ⟨d, ρ, S, g, B, ρ', S', sim, ou, r, e, k⟩ => by
    unfold tI at e
    rw [Option.bind_eq_some_iff] at e
    obtain ⟨p, e1, e⟩ := e
    rw [Option.bind_eq_some_iff] at e
    obtain ⟨q, e2, e⟩ := e
    rw [Option.bind_eq_some_iff] at e
    obtain ⟨mo', e3, e4⟩ := e
    rw [Option.bind_eq_some_iff] at e3
    obtain ⟨mo, e5, e6⟩ := e3
    refine okO_go (R := RH (wd X cl) σ) sim ou e1 fun x H1 g1 s1 o1 f1 r1 => okO_go s1 o1 e2 fun y H2 g2 s2 o2 f2 r2 => ?_
    have r1' : RH (wd X cl) σ g2 H2 p.1 x := by
      cases hp : p.1 with
      | d z => rw [hp] at r1; exact Rep.mono f2.le r1
      | own i => rw [hp] at r1; exact r1
    obtain ⟨a, rfl, m, _, kk⟩ := s2.upd o2 r1' e5
    cases mo with
    | lst xs =>
      unfold setI at e6
      dsimp only at e6
      split at e6
      · rename_i i eq
        rw [Option.map_eq_some_iff] at e6
        obtain ⟨j, e7, rfl⟩ := e6
        obtain ⟨us, hH, l⟩ := m
        have r2 : Rep (wd X cl) g2 q.1 y := r2
        rw [eq, rep_int] at r2
        obtain ⟨ρ1, S1, e8, s8, o8⟩ := kk (.lst (us.set j v)) (.lst (xs.set j d)) ⟨_, upd_same, l.set j (r.mono (f1.le.trans f2.le))⟩
        rw [e4] at e8; cases e8
        exact ⟨a, us, i, j, rfl, r2, hH, by rw [← l.length]; exact e7, k σ g2 _ s8 o8 (f1.le.trans f2.le)⟩
      · cases e6
    | _ => cases e6
theorem gtgs_nil : GTgs cl X [] [] := fun W tk => PGs.weak pgs_nil fun v σ H Q ⟨ds, ρ, S, g, B, ρ', S', sim, ou, r, e, k⟩ => by
  cases ds with
  | nil => cases e; exact ⟨r.cases0, k σ g H sim ou .refl⟩
  | cons d ds => cases e
theorem gtgs_cons (h : GTg cl X e t) (hr : GTgs cl X es ts) (hs : (assignEach (e :: es) X.env).map (·.2) = assign e X.env :: (assignEach es X.env).map (·.2)) : GTgs cl X (e :: es) (t :: ts) := fun W tk =>
  PGs.weak (pgs_cons (h W tk) (hr W tk) hs) fun v σ H Q ⟨ds, ρ, S, g, B, ρ', S', sim, ou, r, e, k⟩ => by
    cases ds with
    | nil => cases e
    | cons d ds =>
      obtain ⟨v1, vr, rfl, q1, q2⟩ := r.cases
      have e : ((t d ρ S).bind fun p => tAll ts ds p.1 p.2) = some (ρ', S') := e
      rw [Option.bind_eq_some_iff] at e
      obtain ⟨⟨ρ1, S1⟩, e1, e2⟩ := e
      exact ⟨v1, vr, rfl, d, ρ, S, g, B, ρ1, S1, sim, ou, q1, e1, fun σ1 g1 H1 s1 o1 l1 => ⟨ds, ρ1, S1, g1, B, ρ', S', s1, o1, q2.mono l1, e2, fun σ2 g2 H2 s2 o2 l2 => k σ2 g2 H2 s2 o2 (l1.trans l2)⟩⟩
theorem tAll_len : ∀ {ns : List TX} {ds : List D} {ρ : LEnv} {S : Store} {r : LEnv × Store}, tAll ns ds ρ S = some r → ds.length = ns.length
  | [], [], _, _, _, _ => rfl
  | [], _ :: _, _, _, _, e => by cases e
  | _ :: _, [], _, _, _, e => by cases e
  | n :: ns, d :: ds, ρ, S, r, e => by
    have e : ((n d ρ S).bind fun p => tAll ns ds p.1 p.2) = some r := e
    rw [Option.bind_eq_some_iff] at e
    obtain ⟨p, _, e2⟩ := e
    simp [tAll_len e2]
theorem gtg_t {k : Nat} (hc : X.calm = true) (h : GTgs cl X es ts) (hn : (assignEach es X.env).length = ts.length) (hst : (assignEach es X.env).findIdx? (·.1) = none) : GTg cl X (.Tuple es k pos) (tT ts) := fun W tk =>
  PG.weak (pg_tup hc (h W tk) hn hst) fun v σ H Q ⟨d, ρ, S, g, B, ρ', S', sim, ou, r, e, k⟩ => by
    have key : ∀ ds, (∃ a vs, v = .ref a ∧ SqT X.K g.F a vs ∧ RepL (wd X cl) g ds vs) → tAll ts ds ρ S = some (ρ', S') → L2.gTup X.K ts.length (rTs (wd X cl) ts) v σ H Q := fun ds ⟨a, vs, ev, q, l⟩ e =>
      ⟨a, vs, ev, sqT_sub sim.st.sub q, by rw [← l.length]; exact tAll_len e, ds, ρ, S, g, B, ρ', S', sim, ou, l, e, k⟩
    cases d with
    | tup ds =>
      rw [rep_tup'] at r
      obtain ⟨a, vs, ev, q, l⟩ := r
      exact key ds ⟨a, vs, ev, SqT.of q, l⟩ e
    | ktp ds =>
      rw [rep_ktp'] at r
      exact key ds r e
    | _ => cases e
theorem gs_asg {tg : Expr} (he : GE cl X e da) (ht : GTg cl X tg t) (hs : swapsWithSole [tg] e pos.line X.env = pure false) (hw : swappedStores [tg] e X.env = pure none) (h1 : (assignEach [tg] X.env).map (·.2) = [assign tg X.env]) : GS cl X (.Assign [tg] e pos) (sAsg da t) := fun W tk hp =>
  PS.weak (ps_asg (he W tk) (ht W tk) hs hw h1) fun D σ H ⟨ρ, S, g, B, sim, ou, c⟩ => ConS.go sim ou c fun v H1 d S1 g1 e1 s1 o1 f1 r1 c1 => by
    obtain ⟨p, e2, c2⟩ := c1.opt
    exact ⟨d, ρ, S1, g1, B, p.1, p.2, s1, o1, r1, e2, fun σ' g' H' s' o' _ => c2 σ' g' H' s' o'⟩

/-! ### methods of lists, as statements -/
def MO.isL : MO → Option Unit
  | .lst _ => some ()
  | _ => none
def sMt (h : HX) (a : AX) (f : List D → MO → Option MO) : SX := fun ρ S => (h ρ S).st ρ fun hd S => optS ((curH ρ S hd).bind MO.isL) fun _ => (a ρ S).st ρ fun ds S => optS ((curH ρ S hd).bind (f ds)) fun mo => optS (putO ρ S mo hd) fun p => .nx p.1 p.2
def appD (ds : List D) : MO → Option MO
  | .lst xs => match ds with
    | [d] => if xs.length < sizeLine then some (.lst (xs ++ [d])) else none
    | _ => none
  | _ => none
def extD (ds : List D) : MO → Option MO
  | .lst xs => match ds with
    | [.lst ys] => if xs.length + ys.length ≤ sizeLine then some (.lst (xs ++ ys)) else none
    | _ => none
  | _ => none
/-- what a method of lists does, by values and by data -/
def MtOk (X : Cx) (cl : Wp) (r : V → List V → Hp → VK → Prop) (f : List D → MO → Option MO) : Prop := ∀ (g : Gh) (H : Hp) (S : Store) (a : Addr) (us : List V) (ds : List D) (mo mo' : MO) (Q : VK), SimS (wd X cl) g H S → RepL (wd X cl) g ds us → MOk (wd X cl) g H a mo → f ds mo = some mo' →
  (∀ v u, MOk (wd X cl) g (upd H a u) a mo' → Q v (upd H a u)) → r (.ref a) us H Q
theorem mt_app : MtOk X cl rAppend appD := fun g H S a us ds mo mo' Q s rp m e q => by
  unfold appD at e
  split at e
  · split at e
    · split at e
      · rename_i hz
        cases e
        obtain ⟨vs, hH, l⟩ := m
        obtain ⟨v, r, rfl, q1, q2⟩ := rp.cases
        rw [q2.cases0]
        exact ⟨a, vs, v, rfl, rfl, hH, by rw [← l.length]; exact hz, q _ _ ⟨_, upd_same, l.append (.cons q1 .nil)⟩⟩
      · cases e
    · cases e
  · cases e
theorem mt_ext : MtOk X cl rExtend extD := fun g H S a us ds mo mo' Q s rp m e q => by
  unfold extD at e
  split at e
  · split at e
    · split at e
      · rename_i hz
        cases e
        obtain ⟨vs, hH, l⟩ := m
        obtain ⟨v, r, rfl, q1, q2⟩ := rp.cases
        rw [q2.cases0]
        obtain ⟨b, zs, rfl, hb, lb⟩ := rep_lst'.mp q1
        exact ⟨a, b, vs, zs, rfl, rfl, hH, sub_lst s.sub (fun z => z) hb, by rw [← l.length, ← lb.length]; exact hz, q _ _ ⟨_, upd_same, l.append lb⟩⟩
      · cases e
    · cases e
  · cases e
theorem gs_mt {nm : Str} {id : String} {r : V → List V → Hp → VK → Prop} {f : List D → MO → Option MO} {a : AX} {apos cpos : Pos} (slot : PySem.Slot "list" nm id) (hty : typeOf (.builtin id) = pure (.type "method_descriptor")) (hm : MtR X id r) (hf : MtOk X cl r f) (h : GHd cl X o ho) (ha : GA cl X (e :: es) a)
    (hbase : attributeBase o nm X.env (eval o X.env) = eval o X.env)
    (hfew : ((backTo cpos (starEach (e :: es) X.env)).all (fun x => !x.1) && (backToKw cpos (keywordEach [] X.env)).all (fun x => x.1.isSome)
      && decide ((e :: es).length + ([] : List Keyword).length + (if ([] : List Keyword).isEmpty then 0 else 1) < 30)) = true)
    (hline : (apos.endLine == cpos.line) = true) (hs : starEach (e :: es) X.env = (false, eval e X.env) :: starEach es X.env) (hplain : (backTo cpos (starEach es X.env)).any (·.1) = false) (hsw : swapsWith (.Call (.Attribute o nm apos) (e :: es) [] cpos) none pos.line X.env = pure false) :
    GS cl X (.Expr (.Call (.Attribute o nm apos) (e :: es) [] cpos) pos) (sMt ho a f) := fun W tk hp =>
  PS.weak (ps_expr (pe_bm F.plainAttrs_list slot hty hm (h W tk) (ha W tk) hbase hfew hline hs hplain) hsw) fun D σ H ⟨ρ, S, g, B, sim, ou, c⟩ => ConS.go (R := RH (wd X cl) σ) sim ou c fun v H1 hd S1 g1 e1 s1 o1 f1 r1 c1 => by
    have key : ∀ us H2 ds S2 g2, Sim (wd X cl) g2 H2 ρ σ S2 → Outr B g2 H2 ρ σ → GG.Fr g1 H1 g2 H2 → RepL (wd X cl) g2 ds us → ConS (wd X cl) W B D (optS ((curH ρ S2 hd).bind (f ds)) fun mo => optS (putO ρ S2 mo hd) fun p => .nx p.1 p.2) → r v us H2 (fun _ H' => D.nx σ H') := fun us H2 ds S2 g2 s2 o2 f2 r2 c2 => by
      obtain ⟨mo', e3, c3⟩ := c2.opt
      rw [Option.bind_eq_some_iff] at e3
      obtain ⟨mo, e4, e5⟩ := e3
      have r1' : RH (wd X cl) σ g2 H2 hd v := by
        cases hd with
        | d z => exact Rep.mono f2.le r1
        | own i => exact r1
      obtain ⟨a, rfl, m, _, k⟩ := s2.upd o2 r1' e4
      refine hf g2 H2 S2 a us ds mo mo' _ s2.st r2 m e5 fun v u m' => ?_
      obtain ⟨ρ', S', e6, s6, o6⟩ := k u mo' m'
      rw [e6] at c3
      exact c3 σ g2 _ s6 o6
    obtain ⟨_, e0, c1⟩ := c1.opt
    rw [Option.bind_eq_some_iff] at e0
    obtain ⟨mo0, e0, e00⟩ := e0
    refine ⟨?_, ConS.go s1 o1 c1 fun us H2 ds S2 g2 e2 s2 o2 f2 r2 c2 => key us H2 ds S2 g2 s2 o2 f2 r2 c2⟩
    obtain ⟨a, rfl, m, _⟩ := s1.upd o1 r1 e0
    cases mo0 with
    | lst xs =>
      obtain ⟨vs, hH, _⟩ := m
      exact .inl ⟨rfl, vs, SqL.of hH⟩
    | _ => cases e00
end
end GG
end

section
/-! G.M: raise and try. -/
set_option linter.all false
set_option maxRecDepth 100000
namespace GG
open PySem L2
open PyProof.Rows hiding St

/-- the exception classes: each with the names of the classes it is one of -/
abbrev ETab := List (Str × List Str)
structure ETabOk (K : PySem.W.Frag) (mg : Str → Option Value) (tab : ETab) : Prop where
  ok : ∀ c l, tab.lookup c = some l → ∃ C, mg c = some (.ref C) ∧ ExcC K C
  two : ∀ c d l l' C D, tab.lookup c = some l → tab.lookup d = some l' → mg c = some (.ref C) → mg d = some (.ref D) → PySem.W.kitOne K (.ref C) (.ref D) = some (l.contains d) ∧ PySem.W.exmOne K (.ref C) (.ref D) = some (l.contains d)
  ve : ∀ c l C, tab.lookup c = some l → mg c = some (.ref C) → PySem.W.kitOne K (.ref C) (.type "ValueError") = some true
def sRaise (c : Str) : SX := fun ρ S => .ex c [] ρ S
section
variable {cl : Wp} {X : Cx} {tab : ETab} {pos : Pos}
theorem pmk_0 {C : Addr} {bmB : List Value} {B newId initId : String} {x : Str} {p : Pos} (F : ExcBaseFacts B newId initId bmB) (q : PySem.W.excIn X.K C bmB newId = true) (gC : X.mg x = some (.ref C)) (kC : PySem.W.keepIn X.K (.ref C) = true) (r : Raises X (.ref C)) (hg : Gl X x)
    (hdb : (x == ("__debug__" : Str)) = false) : PMk X (.Call (.Name x p) [] [] pos) (fun σ H Q => Q (.ref C) none H) := by
  intro pins s σ H Q I h
  refine wpAny_Call_Name_kw (ld_glob I hg gC ?_ hdb)
  refine PySem.W.callWith_K0 I.kIn kC ?_
  show wpAny _ _ (call (.ref C) []) _ _ _
  obtain ⟨bm, N, nm, qn, bs, hdct, sn, sub, ab, col, dd, k0, k1, k2, k3, k5, mN, hC, hN, hni, T⟩ := exc_obj I.kIn q
  exact wpAny_call_exc_subT F T hC hN hni (fun h' e hm => mk_of I hm r h (I.hok.gone hm.new)) (Nat.zero_le _)
theorem gs_raise {x : Str} {p pos2 : Pos} {C : Addr} (hm : X.mg x = some (.ref C)) (h1 : PySem.W.excIn X.K C [.type "ValueError", .type "Exception", .type "BaseException", .type "object"] "ValueError.__new__" = true) (h2 : PySem.W.keepIn X.K (.ref C) = true) (h3 : Raises X (.ref C)) (hc : X.calm = true) (hg : Gl X x) (hdb : (x == ("__debug__" : Str)) = false) :
    GS cl X (.Raise (some (.Call (.Name x p) [] [] pos2)) none pos) (sRaise x) := fun W tk hp =>
  PS.weak (ps_raise hc tk (pmk_0 F.excBase_ValueError h1 hm h2 h3 hg hdb)) fun D σ H ⟨ρ, S, g, B, sim, o, c⟩ => c C none σ g H sim o hm (.inl ⟨rfl, rfl⟩)

/-! ### try .. except X as e -/
def Slot.isXc : Slot → Bool
  | .xc => true
  | _ => false
/-- behind a suite: its name is gone -/
def noX (i : Nat) (ρ : LEnv) : Option LEnv := if (ρ.set i .no).any Slot.isXc then none else some (ρ.set i .no)
def finX (i : Nat) : SOut → SOut
  | .nx ρ S => optS (noX i ρ) fun ρ => .nx ρ S
  | .bk ρ S => optS (noX i ρ) fun ρ => .bk ρ S
  | .ct ρ S => optS (noX i ρ) fun ρ => .ct ρ S
  | .rt d S => .rt d S
  | _ => .stuck
/-- what the clause makes of an exception of class c, one of l -/
def catchX (tab : ETab) (cH : Str) (i : Nat) (su : List Str → SX) : SOut → SOut
  | .ex c fs ρ S => match tab.lookup c with
    | some l => if l.contains cH then (if fs.isEmpty && !ρ.any Slot.isXc then finX i (su l (ρ.set i .xc) S) else .stuck) else .ex c fs ρ S
    | none => .stuck
  | o => o
def sTry (tab : ETab) (cH : Str) (i : Nat) (body : SX) (su : List Str → SX) : SX := fun ρ S => catchX tab cH i su (body ρ S)
/-- the suite's own world -/
def Wd.with (w : Wd) (a : Option Addr) : Wd := ⟨w.K, w.mg, w.cl, w.kc, a⟩
def Wp.with (c : Wp) (a : Option Addr) : Wp := ⟨c.cl, c.kc, a⟩
mutual
theorem Rep.with {w : Wd} {g : Gh} {x : Option Addr} : ∀ {d : D} {v : V}, Rep w g d v → Rep (w.with x) g d v
  | .non, _, r => r
  | .bl _, _, r => r
  | .int _, _, r => r
  | .str _, _, r => r
  | .gl _, _, r => r
  | .tup ds, _, r => by simp only [Rep] at r ⊢; obtain ⟨a, vs, e, q, t⟩ := r; exact ⟨a, vs, e, q, RepL.with t⟩
  | .lst ds, _, r => by simp only [Rep] at r ⊢; obtain ⟨a, vs, e, q, t⟩ := r; exact ⟨a, vs, e, q, RepL.with t⟩
  | .ktp ds, _, r => by simp only [Rep] at r ⊢; obtain ⟨a, vs, e, q, t⟩ := r; exact ⟨a, vs, e, q, RepL.with t⟩
  | .frl ds, _, r => by simp only [Rep] at r ⊢; obtain ⟨a, vs, e, q, t⟩ := r; exact ⟨a, vs, e, q, RepL.with t⟩
  | .dic ks ds, _, r => by simp only [Rep] at r ⊢; obtain ⟨a, vs, u, e, q, d, t⟩ := r; exact ⟨a, vs, u, e, q, d, RepL.with t⟩
  | .obj c fs ds, _, r => by simp only [Rep] at r ⊢; obtain ⟨kc, a, C, dx, vs, e, q, d, l, t⟩ := r; exact ⟨kc, a, C, dx, vs, e, q, d, l, RepL.with t⟩
  | .ptr i, _, r => by simp only [Rep] at r ⊢; exact r
  | .clo i env, _, r => by simp only [Rep] at r ⊢; obtain ⟨a, vs, e, q, t⟩ := r; exact ⟨a, vs, e, q, RepL.with t⟩
theorem RepL.with {w : Wd} {g : Gh} {x : Option Addr} : ∀ {ds : List D} {vs : List V}, RepL w g ds vs → RepL (w.with x) g ds vs
  | [], _, r => r
  | d :: ds, _, r => by simp only [RepL] at r ⊢; obtain ⟨v, l, e, q, t⟩ := r; exact ⟨v, l, e, Rep.with q, RepL.with t⟩
end
theorem MOk.with {w : Wd} {g : Gh} {H : Hp} {a : Addr} {x : Option Addr} : ∀ {o : MO}, MOk w g H a o → MOk (w.with x) g H a o
  | .lst _, ⟨vs, h, r⟩ => ⟨vs, h, r.with⟩
  | .dic _ _, ⟨vs, u, h, d, r⟩ => ⟨vs, u, h, d, r.with⟩
  | .ins _ _ _, ⟨kc, C, dx, vs, k, h, z, r⟩ => ⟨kc, C, dx, vs, k, h, z, r.with⟩
theorem SimS.with {w : Wd} {g : Gh} {H : Hp} {S : Store} (s : SimS w g H S) (x : Option Addr) : SimS (w.with x) g H S := ⟨s.sub, s.dom, s.inj, fun i o a e1 e2 => let ⟨h1, h2⟩ := s.at_ i o a e1 e2; ⟨h1, h2.with⟩⟩
theorem any_not {ρ : LEnv} (h : ρ.any Slot.isXc = false) {i : Nat} (e : ρ[i]? = some Slot.xc) : False := by
  have := List.any_eq_false.mp h _ (List.mem_of_getElem? e)
  exact this rfl
theorem Sim.with {w : Wd} {g : Gh} {H : Hp} {ρ : LEnv} {σ : L2.St} {S : Store} (s : Sim w g H ρ σ S) (x : Option Addr) (h : ρ.any Slot.isXc = false) : Sim (w.with x) g H ρ σ S :=
  ⟨s.st.with x, s.len, fun i d e => let ⟨v, h1, h2⟩ := s.val i d e; ⟨v, h1, h2.with⟩, fun i o e => let ⟨a, h1, h2, h3, h4⟩ := s.own i o e; ⟨a, h1, h2, h3, h4.with⟩, s.apart, fun i e => (any_not h e).elim⟩
/-- a slot without a claim -/
theorem Sim.setNo {w : Wd} {g : Gh} {H : Hp} {ρ : LEnv} {σ : L2.St} {S : Store} (s : Sim w g H ρ σ S) (i : Nat) {sl : Slot} {v : Option V} (hs : sl = .no ∨ (sl = .xc ∧ ∃ a, w.xa = some a ∧ v = some (.ref a))) : Sim w g H (ρ.set i sl) (σ.set i v) S := by
  have at_ : ∀ {x : Slot}, (ρ.set i sl)[i]? = some x → x = sl ∧ i < σ.length := fun {x} e => by
    by_cases hl : i < ρ.length
    · rw [List.getElem?_set_self hl] at e; cases e; exact ⟨rfl, by rw [← s.len]; exact hl⟩
    · rw [List.getElem?_eq_none (by simpa using hl)] at e; cases e
  have nv : ∀ d, sl ≠ .val d := fun d z => by rcases hs with q | ⟨q, _⟩ <;> (rw [q] at z; cases z)
  have no : ∀ d, sl ≠ .own d := fun d z => by rcases hs with q | ⟨q, _⟩ <;> (rw [q] at z; cases z)
  refine ⟨s.st, by rw [List.length_set, List.length_set]; exact s.len, fun j d e => ?_, fun j o e => ?_, fun j k o u a e1 e2 e3 e4 => ?_, fun j e => ?_⟩
  · by_cases hj : i = j
    · subst hj; exact absurd (at_ e).1.symm (nv d)
    · rw [List.getElem?_set_ne hj] at e ⊢; exact s.val j d e
  · by_cases hj : i = j
    · subst hj; exact absurd (at_ e).1.symm (no o)
    · rw [List.getElem?_set_ne hj] at e ⊢; exact s.own j o e
  · by_cases hj : i = j
    · subst hj; exact absurd (at_ e1).1.symm (no o)
    · by_cases hk : i = k
      · subst hk; exact absurd (at_ e2).1.symm (no u)
      · rw [List.getElem?_set_ne hj] at e1 e3
        rw [List.getElem?_set_ne hk] at e2 e4
        exact s.apart j k o u a e1 e2 e3 e4
  · by_cases hj : i = j
    · subst hj
      obtain ⟨z, hl⟩ := at_ e
      rcases hs with q | ⟨_, a, h1, h2⟩
      · rw [q] at z; cases z
      · exact ⟨a, h1, by rw [List.getElem?_set_self hl, h2]⟩
    · rw [List.getElem?_set_ne hj] at e ⊢; exact s.xc j e
theorem Outr.setNo {B : Bs} {g : Gh} {H : Hp} {ρ : LEnv} {σ : L2.St} (o : Outr B g H ρ σ) (i : Nat) {sl : Slot} {v : Option V} (hs : ∀ d, sl ≠ .own d) : Outr B g H (ρ.set i sl) (σ.set i v) := by
  have far : ∀ (j : Nat) u, (ρ.set i sl)[j]? = some (Slot.own u) → i ≠ j := fun j u e z => by
    subst z
    by_cases hl : i < ρ.length
    · rw [List.getElem?_set_self hl] at e; exact hs u (Option.some.inj e)
    · rw [List.getElem?_eq_none (by simpa using hl)] at e; cases e
  exact ⟨o.o, fun j u a e1 e2 => by
    have hj := far j u e1
    rw [List.getElem?_set_ne hj] at e1 e2
    exact o.ow j u a e1 e2, fun p u e1 e2 => by
    have hj := far 0 u e2
    rw [List.getElem?_set_ne hj] at e2 ⊢
    exact o.fx p u e1 e2⟩
theorem with_with {w : Wd} {x : Option Addr} : (w.with x).with w.xa = w := rfl
theorem finX_ok {w : Wd} {W : WX} {B : Bs} {D : Ends} {i : Nat} {x : Option Addr} {o : SOut} (c : ConS w W B D (finX i o)) :
    ConS (w.with x) (fun _ _ _ _ => False) B { nx := fun σ H => D.nx (σ.set i none) H, rt := D.rt, bk := fun σ H => D.bk (σ.set i none) H, ct := fun σ H => D.ct (σ.set i none) H } o := by
  have key : ∀ {ρ ρ' : LEnv} {S : Store} {N : L2.St → Hp → Prop}, noX i ρ = some ρ' → (∀ σ g H, Sim w g H ρ' σ S → Outr B g H ρ' σ → N σ H) → ∀ σ g H, Sim (w.with x) g H ρ σ S → Outr B g H ρ σ → N (σ.set i none) H := fun {ρ ρ' S N} h c σ g H s o => by
    unfold noX at h
    split at h
    · cases h
    · rename_i hz
      cases h
      exact c _ g H ((s.setNo i (.inl rfl)).with w.xa (by simpa using hz)) (o.setNo i (fun d z => by cases z))
  cases o with
  | nx ρ S =>
    have c : ConS w W B D (optS (noX i ρ) fun ρ => .nx ρ S) := c
    obtain ⟨ρ', h, c⟩ := c.opt
    exact key h c
  | bk ρ S =>
    have c : ConS w W B D (optS (noX i ρ) fun ρ => .bk ρ S) := c
    obtain ⟨ρ', h, c⟩ := c.opt
    exact key h c
  | ct ρ S =>
    have c : ConS w W B D (optS (noX i ρ) fun ρ => .ct ρ S) := c
    obtain ⟨ρ', h, c⟩ := c.opt
    exact key h c
  | rt d S => exact fun v g H s o r => c v g H (s.with w.xa) o (r.with (x := w.xa))
  | ex y fs ρ S => exact c.elim
  | stuck => exact c.elim
theorem gs_try {i : Nat} {n cH : Str} {body suite : List Stmt} {b₀ : Stmt} {np pos' : Pos} {db : SX} {su : List Str → SX} {CH : Addr} {lH : List Str} (T : ETabOk X.K X.mg tab) (hs : X.stack = X.env :: X.outer) (hf : X.env.frame = some X.env.locals) (hN : X.N.Nodup) (hi : X.N[i]? = some n) (hln : X.env.kindOf n = some .local)
    (hm : X.mg cH = some (.ref CH)) (hlH : tab.lookup cH = some lH) (hc : Names X cH (.ref CH))
    (hb : ∀ (pn : List (Addr × Obj)) (xe : Value → Shared → Prop), GSs cl (X.tr pn xe) body db)
    (hsu : ∀ (c : Str) (C : Addr) (l : List Str), tab.lookup c = some l → X.mg c = some (.ref C) → ∀ (a : Addr) (oe : Obj) (pn : List (Addr × Obj)), Zc (.ref C) none oe → (∃ vs, oe.data = .fields vs) → GSs (cl.with (some a)) (X.suite a ((a, oe) :: pn)) (b₀ :: suite) (su l)) :
    GS cl X (.Try body [.ExceptHandler (some (.Name cH np)) (some n) (b₀ :: suite) pos'] [] [] pos) (sTry tab cH i db su) := fun W tk hp => by
  let ts : Addr → Value → Option Addr → TS := fun a cls d D σ H => ∃ c C l, tab.lookup c = some l ∧ X.mg c = some (.ref C) ∧ cls = .ref C ∧ d = none ∧ tS ((wd X cl).with (some a)) (fun _ _ _ _ => False) (su l) D σ H
  refine PS.weak (ps_try_as (tb := fun W => tS (wd X cl) W db) (ts := ts) hs hf hN hi hln hc tk (fun W pn xe tk hp => hb pn xe W tk hp) (fun a oe cls d pn hz hv => ⟨fun pins s σ H D I ⟨c, C, l, h1, h2, h3, h4, h5⟩ => ?_⟩)) fun D σ H ⟨ρ, S, g, B, sim, o, c⟩ => ⟨ρ, S, g, B, sim, o, ?_⟩
  · subst h3 h4
    exact (hsu c C l h1 h2 a oe pn hz hv _ takes_none PassesOwn.never).run pins s σ H D I h5
  · unfold sTry at c
    cases e : db ρ S with
    | ex x fs ρ' S' =>
      rw [e] at c
      intro C d σ' g' H' s' o' hmx hx
      have hmx : X.mg x = some (.ref C) := hmx
      cases hl : tab.lookup x with
      | none => simp only [catchX, hl] at c; exact c.elim
      | some l =>
        simp only [catchX, hl] at c
        refine ⟨l.contains cH, (T.two x cH l lH C CH hl hlH hmx hm).2, fun hb a na => ?_, fun hb => ?_⟩
        · rw [hb, if_pos rfl] at c
          split at c
          · rename_i hz
            obtain ⟨z1, z2⟩ := Bool.and_eq_true_iff.mp hz
            have z1 : fs = [] := List.isEmpty_iff.mp z1
            have z2 : ρ'.any Slot.isXc = false := by simpa using z2
            have hd : d = none := by
              rcases hx with ⟨_, h⟩ | ⟨h, _⟩
              · exact h
              · exact absurd z1 h
            exact ⟨x, C, l, hl, hmx, rfl, hd, _, S', g', B, (s'.with (some a) z2).setNo i (.inr ⟨rfl, a, rfl, rfl⟩), o'.setNo i (fun d z => by cases z), finX_ok c⟩
          · exact c.elim
        · rw [hb] at c
          exact c C d σ' g' H' s' o' hmx hx
    | nx ρ' S' => rw [e] at c; exact c
    | rt d S' => rw [e] at c; exact c
    | bk ρ' S' => rw [e] at c; exact c
    | ct ρ' S' => rw [e] at c; exact c
    | stuck => rw [e] at c; exact c
/-! isinstance(e, T) in the suite -/
def eIsX (i : Nat) (l : List Str) (t : Str) : EX := fun ρ S => match ρ[i]? with
  | some .xc => .ok (.bl (l.contains t), S)
  | _ => .stuck
theorem ge_isX {i : Nat} {n t : Str} {c : Str} {C D' a : Addr} {oe : Obj} {pn : List (Addr × Obj)} {l l' : List Str} {p p1 p2 : Pos} (T : ETabOk X.K X.mg tab) (hl : tab.lookup c = some l) (hm : X.mg c = some (.ref C)) (hl' : tab.lookup t = some l') (hm' : X.mg t = some (.ref D')) (hz : Zc (.ref C) none oe) (hv : ∃ vs, oe.data = .fields vs)
    (hN : X.N[i]? = some n) (hvis : Vis X.env.scope n) (hd : (n == ("__debug__" : Str)) = false) (hcd : (n == ("__classdict__" : Str)) = false) (hg : Gl X "isinstance") (hmi : X.mg "isinstance" = none) (hgt : Gl X t) (hdt : (t == ("__debug__" : Str)) = false)
    (hs1 : starEach [.Name n p1, .Name t p2] X.env = (false, eval (.Name n p1) X.env) :: starEach [.Name t p2] X.env) (hs2 : starEach [.Name t p2] X.env = (false, eval (.Name t p2) X.env) :: starEach [] X.env) :
    GE (cl.with (some a)) (X.suite a ((a, oe) :: pn)) (.Call (.Name "isinstance" p) [.Name n p1, .Name t p2] [] pos) (eIsX i l t) := fun W tk => by
  obtain ⟨C', hC', ec⟩ := T.ok c l hl
  rw [hm] at hC'; cases hC'
  refine PE.weak (pe_callB (X := X.suite a ((a, oe) :: pn)) (call_isE ec hz hv) hg hmi (by decide +kernel) (pa_cons (pe_var hN hvis hd hcd) (pa_cons (pe_glob (v := .ref D') hgt hm' rfl hdt) pa_nil hs2) hs1) (by decide) (by decide) hs1 (by rw [hs2]; rfl)) fun σ H Q ⟨ρ, S, g, sim, cc⟩ => ?_
  unfold eIsX at cc
  split at cc
  · rename_i e
    obtain ⟨a', h1, h2⟩ := sim.xc i e
    have h1 : some a = some a' := h1
    cases h1
    exact ⟨_, h2, _, .ref D', l.contains t, rfl, fun u h => h, (T.two c t l l' C D' hl hl' hm hm').1, Con.val cc sim.st (rep_bl.mpr rfl)⟩
  · exact cc.elim
theorem ge_isXV {i : Nat} {n : Str} {c : Str} {C a : Addr} {oe : Obj} {pn : List (Addr × Obj)} {l : List Str} {p p1 p2 : Pos} (T : ETabOk X.K X.mg tab) (hl : tab.lookup c = some l) (hm : X.mg c = some (.ref C)) (hz : Zc (.ref C) none oe) (hv : ∃ vs, oe.data = .fields vs)
    (hN : X.N[i]? = some n) (hvis : Vis X.env.scope n) (hd : (n == ("__debug__" : Str)) = false) (hcd : (n == ("__classdict__" : Str)) = false) (hg : Gl X "isinstance") (hmi : X.mg "isinstance" = none) (hgt : Gl X "ValueError") (hmt : X.mg "ValueError" = none)
    (hs1 : starEach [.Name n p1, .Name "ValueError" p2] X.env = (false, eval (.Name n p1) X.env) :: starEach [.Name "ValueError" p2] X.env) (hs2 : starEach [.Name "ValueError" p2] X.env = (false, eval (.Name "ValueError" p2) X.env) :: starEach [] X.env) :
    GE (cl.with (some a)) (X.suite a ((a, oe) :: pn)) (.Call (.Name "isinstance" p) [.Name n p1, .Name "ValueError" p2] [] pos) (eIsX i ["ValueError"] "ValueError") := fun W tk => by
  obtain ⟨C', hC', ec⟩ := T.ok c l hl
  rw [hm] at hC'; cases hC'
  refine PE.weak (pe_callB (X := X.suite a ((a, oe) :: pn)) (call_isE ec hz hv) hg hmi (by decide +kernel) (pa_cons (pe_var hN hvis hd hcd) (pa_cons (pe_bltn (v := .ty "ValueError") (u := .type "ValueError") hgt hmt (by decide +kernel) rfl (by decide) (by decide)) pa_nil hs2) hs1) (by decide) (by decide) hs1 (by rw [hs2]; rfl)) fun σ H Q ⟨ρ, S, g, sim, cc⟩ => ?_
  unfold eIsX at cc
  split at cc
  · rename_i e
    obtain ⟨a', h1, h2⟩ := sim.xc i e
    have h1 : some a = some a' := h1
    cases h1
    exact ⟨_, h2, _, .type "ValueError", true, rfl, fun u h => h, T.ve c l C hl hm, Con.val cc sim.st (rep_bl.mpr (by decide))⟩
  · exact cc.elim
end
end GG
end

section
/-! G.N: methods on a slot's own thing; more built-ins. -/
set_option linter.all false
set_option maxRecDepth 100000
namespace GG
open PySem L2
open PyProof.Rows hiding St

abbrev OTab := List (Str × DenO)
structure OOk (P : Program) (w : World) (K : PySem.W.Frag) (mg : Str → Option Value) (base : Heap) (cl : Wp) (k : Nat) (m : Str) (tab : OTab) : Prop where
  ok : ∀ c den, tab.lookup c = some den → ∃ n f C, mg c = some (.ref C) ∧ Cls K C ∧ Meth K C m f ∧ FnO P w K mg base cl k n f den
def ownAt (m : Str) (tab : OTab) (ρ : LEnv) (i : Nat) : Option (MO × DenO) := match ρ[i]? with
  | some (Slot.own (.ins c fs vs)) => if fs.contains m then none else (tab.lookup c).map fun den => (.ins c fs vs, den)
  | _ => none
def sMethO (i : Nat) (m : Str) (tab : OTab) (t : AX) : SX := fun ρ S => optS (ownAt m tab ρ i) fun q => (t ρ S).st ρ fun ds S => (q.2 q.1 ds S).calm.st ρ fun mo S => .nx (ρ.set i (.own mo)) S
section
variable {cl : Wp} {X : Cx} {k : Nat} {e : Expr} {es : List Expr} {t : AX} {pos : Pos}
theorem ownAt_inv {m : Str} {tab : OTab} {ρ : LEnv} {i : Nat} {q : MO × DenO} (h : ownAt m tab ρ i = some q) : ∃ c fs vs, ρ[i]? = some (Slot.own (.ins c fs vs)) ∧ fs.contains m = false ∧ tab.lookup c = some q.2 ∧ q.1 = .ins c fs vs := by
  unfold ownAt at h
  split at h
  · rename_i c fs vs e
    split at h
    · cases h
    · rename_i hz
      rw [Option.map_eq_some_iff] at h
      obtain ⟨den, h1, h2⟩ := h
      cases h2
      exact ⟨c, fs, vs, e, by simpa using hz, h1, rfl⟩
  · cases h
/-- the own thing of a slot, worked on by a def -/
theorem Sim.owned {w : Wd} {B : Bs} {g g' : Gh} {H H' : Hp} {ρ : LEnv} {σ : L2.St} {S S' : Store} {i : Nat} {o mo : MO} {p : Addr} (s : Sim w g H ρ σ S) (ou : Outr B g H ρ σ) (e : ρ[i]? = some (Slot.own o)) (ep : σ[i]? = some (some (V.ref p))) (s' : SimS w g' H' S') (q : Out0 ⟨g, H, fun a => a = p, none⟩ g' H') (f1 : g'.F p = none) (f2 : ∀ j, g'.m j ≠ some p) (m : MOk w g' H' p mo) :
    Sim w g' H' (ρ.set i (.own mo)) σ S' ∧ Outr B g' H' (ρ.set i (.own mo)) σ := by
  have hi : i < ρ.length := (List.getElem?_eq_some_iff.mp e).1
  have back : ∀ {j x}, (ρ.set i (.own mo))[j]? = some (Slot.own x) → ∃ y, ρ[j]? = some (Slot.own y) := fun {j x} e1 => by
    by_cases hj : i = j
    · subst hj; exact ⟨_, e⟩
    · rw [List.getElem?_set_ne hj] at e1; exact ⟨_, e1⟩
  refine ⟨⟨s', by rw [List.length_set]; exact s.len, fun j d e1 => ?_, fun j x e1 => ?_, fun j k x y b e1 e2 e3 e4 => ?_, fun j e1 => ?_⟩, ⟨⟨ou.o.le.trans q.le, fun b u e1 e2 e3 e4 => ?_, fun b u e1 => ?_⟩, fun j x b e1 e2 => ?_, fun z x e1 e2 => ?_⟩⟩
  · by_cases hj : i = j
    · subst hj; rw [List.getElem?_set_self hi] at e1; cases e1
    · rw [List.getElem?_set_ne hj] at e1
      obtain ⟨v, h1, h2⟩ := s.val j d e1
      exact ⟨v, h1, h2.mono q.le⟩
  · by_cases hj : i = j
    · subst hj; rw [List.getElem?_set_self hi] at e1; cases e1; exact ⟨p, ep, f1, f2, m⟩
    · rw [List.getElem?_set_ne hj] at e1
      obtain ⟨b, h1, h2, h3, h4⟩ := s.own j x e1
      obtain ⟨u, hu⟩ := h4.there
      have hb : b ≠ p := fun z => hj (s.apart i j o x p e e1 ep (by rw [← z]; exact h1))
      obtain ⟨k1, k2, k3⟩ := q.out b u hu h2 h3 hb
      exact ⟨b, h1, k2, k3, h4.mono q.le fun u' hu' => by rw [hu] at hu'; cases hu'; exact k1⟩
  · obtain ⟨x', e1⟩ := back e1
    obtain ⟨y', e2⟩ := back e2
    exact s.apart j k x' y' b e1 e2 e3 e4
  · by_cases hj : i = j
    · subst hj; rw [List.getElem?_set_self hi] at e1; cases e1
    · rw [List.getElem?_set_ne hj] at e1; exact s.xc j e1
  · obtain ⟨h1, h2, h3⟩ := ou.o.out b u e1 e2 e3 e4
    refine q.out b u h1 h2 h3 fun z => ?_
    rcases ou.ow i o p e ep with y | y
    · have z : b = p := z
      rw [← z, e1] at y; cases y
    · have z : b = p := z
      exact e4 (z ▸ y)
  · obtain ⟨_, h⟩ := ou.o.th b u e1
    exact q.th b _ h
  · obtain ⟨x', e1⟩ := back e1
    exact ou.ow j x' b e1 e2
  · obtain ⟨x', e2⟩ := back e2
    exact ou.fx z x' e1 e2
theorem gs_methO {i : Nat} {n m : Str} {p : Pos} {apos cpos : Pos} {tab : OTab} {pl : Sem Bool} (M : OOk X.prog X.w X.K X.mg X.base cl k m tab) (hr : Room k X.A) (hN : X.N[i]? = some n) (hvis : Vis X.env.scope n) (hd : (n == ("__debug__" : Str)) = false) (hcd : (n == ("__classdict__" : Str)) = false) (ha : GA cl X (e :: es) t)
    (hst : starEach (e :: es) X.env = (false, eval e X.env) :: starEach es X.env) (hpl : (backTo cpos (starEach es X.env)).any (·.1) = false) (hsw : swapsWith (.Call (.Attribute (.Name n p) m apos) (e :: es) [] cpos) none pos.line X.env = pure false)
    (ht : eval (.Call (.Attribute (.Name n p) m apos) (e :: es) [] cpos) X.env = (do
      let ov ← eval (.Name n p) X.env
      standAt apos.atName
      let (f, first) ← holding [ov] (getMethod ov m pl)
      callWith cpos f first (backTo cpos (starEach (e :: es) X.env)) (backToKw cpos (keywordEach [] X.env)))) : GS cl X (.Expr (.Call (.Attribute (.Name n p) m apos) (e :: es) [] cpos) pos) (sMethO i m tab t) := fun W tk hp => by
  have run : PE X (.Call (.Attribute (.Name n p) m apos) (e :: es) [] cpos) (fun σ H Q => ∃ D : Ends, Q = (fun _ H' => D.nx σ H') ∧ tS (wd X cl) W (sMethO i m tab t) D σ H) := by
    refine ⟨fun pins s σ H Q I ⟨D, eQ, ρ, S, g, B, sim, ou, c⟩ => ?_⟩
    obtain ⟨⟨o, den⟩, e1, c⟩ := c.opt
    obtain ⟨cn, fs, vs0, e2, hz, e3, e4⟩ := ownAt_inv e1
    dsimp only at e3 e4 c
    subst e4
    obtain ⟨n', f, C, hm, hcls, hmt, F⟩ := M.ok cn den e3
    obtain ⟨a, h1, h2, h3, h4⟩ := sim.own i _ e2
    refine PySem.W.methodCall_KW (pl := pl) (thn ((pe_var (pos := p) hN hvis hd hcd).run pins s σ H (fun v H1 => v = .ref a ∧ H1 = H) I ⟨.ref a, h1, rfl, rfl⟩) fun u s1 ⟨x, H1, I1, rx, ex, eH⟩ => ?_) ht
    subst ex eH
    obtain rfl : u = Value.ref a := rx
    obtain ⟨kc, C', dx, us, hm', hH, hl, l⟩ := id h4
    have hm' : X.mg cn = some (.ref C') := hm'
    rw [hm] at hm'; cases hm'
    refine getmeth_ok I1 hH hcls hmt (lookup_none hz) ?_
    refine PySem.W.callWith_K (first := [.ref a]) (h₀ := X.base) I1.ok.mod.kin hmt.kp (thn ((ha W tk).run cpos pins s1 σ H1 (fun vs H2 => ∃ ds S2 g2, Sim (wd X cl) g2 H2 ρ σ S2 ∧ Outr B g2 H2 ρ σ ∧ RepL (wd X cl) g2 ds vs ∧ ConS (wd X cl) W B D ((den (.ins cn fs vs0) ds S2).calm.st ρ fun mo S => .nx (ρ.set i (.own mo)) S)) I1
      (ConS.go sim ou c fun vs H2 ds S2 g2 _ s2 o2 f2 r2 c2 => ⟨ds, S2, g2, s2, o2, r2, c2⟩)) fun us' s2 ⟨vs, H2, I2, r, ds, S2, g2, sm, o2, rp, c2⟩ => ⟨I2.kIn, ?_⟩) hst hpl
    obtain ⟨fd, ps, F1, _, hb⟩ := F.ex
    obtain ⟨a', k1, k2, k3, k4⟩ := sm.own i _ e2
    rw [h1] at k1; cases k1
    have ns : den (.ins cn fs vs0) ds S2 ≠ .stuck := fun z => by rw [z] at c2; exact c2
    refine run_fnS (us := .ref a :: us') (vs := .ref a :: vs) F1 hr hb (passAt tk σ) I2 (.cons rfl r) ⟨by simp [← rp.length, F.ar _ _ _ ns], a, vs, _, ds, S2, g2, rfl, k2, k3, k4, sm.st, rp, ?_⟩
    cases ed : den (.ins cn fs vs0) ds S2 with
    | ok q =>
      rw [ed] at c2
      intro g' H' s' o' f1 f2 mo
      obtain ⟨s3, o3⟩ := sm.owned o2 e2 h1 s' o' f1 f2 mo
      rw [eQ]
      exact c2 σ g' H' s3 o3
    | exc y fs' S' =>
      rw [ed] at c2
      exact c2.elim
    | stuck => exact absurd ed ns
  exact PS.weak (ps_expr run hsw) fun D σ H h => ⟨D, rfl, h⟩
end
/-! ### constants, new lists of other things -/
section
variable {cl : Wp} {X : Cx} {a e : Expr} {ha : HX} {pos : Pos}
theorem ge_cst {x : Str} {v : V} {d : D} (hg : Gl X x) (h : ∃ u, X.mg x = some u ∧ RelV v u) (rd : ∀ g, Rep (wd X cl) g d v) (hd : (x == ("__debug__" : Str)) = false) : GE cl X (.Name x pos) (eC d) := by
  obtain ⟨u, h1, h2⟩ := h
  exact ge_const hg h1 h2 rd hd
def mList (h : HX) : MX := fun ρ S => (h ρ S).bind fun p => (Out.opt ((deref ρ p.2 p.1).bind seqD)).bind fun xs => .ok (.lst xs, p.2)
theorem shown_seq {g : Gh} {H : Hp} {S : Store} {d : D} {v : V} {xs : List D} (s : SimS (wd X cl) g H S) (sh : Shown (wd X cl) g H d v) (e : seqD d = some xs) : ∃ p ys, v = .ref p ∧ (SqL X.K H p ys ∨ SqT X.K H p ys) ∧ RepL (wd X cl) g xs ys := by
  cases d <;> first | (cases e; done) | skip
  · cases e
    obtain ⟨a, vs, rfl, h, l⟩ := (rep_tup' (w := wd X cl) (g := g)).mp sh
    exact ⟨a, vs, rfl, .inr (sqT_sub s.sub (SqT.of h)), l⟩
  · cases e
    obtain ⟨a, vs, rfl, h, l⟩ := sh
    exact ⟨a, vs, rfl, .inl (SqL.of h), l⟩
  · cases e
    obtain ⟨a, vs, rfl, h, l⟩ := (rep_ktp' (w := wd X cl) (g := g)).mp sh
    exact ⟨a, vs, rfl, .inr (sqT_sub s.sub h), l⟩
  · cases e
    obtain ⟨a, vs, rfl, h, l⟩ := (rep_frl' (w := wd X cl) (g := g)).mp sh
    exact ⟨a, vs, rfl, .inl (sqL_sub s.sub h), l⟩
theorem gm_list {p : Pos} (hg : Gl X "list") (hm : X.mg "list" = none) (h : GHd cl X a ha) (hs : starEach [a] X.env = [(false, eval a X.env)]) : GM cl X (.Call (.Name "list" p) [a] [] pos) (mList ha) := fun W tk =>
  PE.weak (pe_callTy call_list_of hg hm (by decide +kernel) (pa_cons (h W tk) pa_nil hs) (by decide) (by decide) hs rfl) fun σ H Q ⟨ρ, S, g, sim, c⟩ => Con.fst (R := RH (wd X cl) σ) sim c fun v H1 hd S1 g1 s1 f1 r1 c1 => by
    obtain ⟨xs, e, c2⟩ := c1.opt
    rw [Option.bind_eq_some_iff] at e
    obtain ⟨d, e1, e2⟩ := e
    obtain ⟨p, ys, rfl, hq, l⟩ := shown_seq s1.st (shown_of s1 r1 e1) e2
    refine ⟨p, ys, rfl, hq, fun q hq => ?_⟩
    obtain ⟨t, f, r⟩ := new_RN (mo := .lst xs) (u := .lst ys) s1.st f1 hq ⟨ys, upd_same, l⟩
    exact c2 _ _ _ t f r
def mDic0 : MX := fun _ S => .ok (.dic [] [], S)
theorem gm_dic0 : GM cl X (.Dict [] [] pos) mDic0 := fun W tk => PE.weak pe_dnewK fun σ H Q ⟨ρ, S, g, sim, c⟩ p hp => by
  obtain ⟨t, f, r⟩ := new_RN (w := wd X cl) (mo := .dic [] []) (u := .dK []) sim.st .refl hp ⟨[], .dK [], upd_same, ⟨rfl, .inl ⟨[], rfl, rfl⟩⟩, .nil⟩
  exact c _ _ _ t f r
/-- pop(i) -/
def popD (ds : List D) : MO → Option MO
  | .lst xs => match ds with
    | [.int i] => if fitI i then (seqIndex? i xs.length).bind fun k => if k < xs.length then some (.lst (xs.eraseIdx k)) else none else none
    | _ => none
  | _ => none
theorem repL_erase {w : Wd} {g : Gh} : ∀ {ds : List D} {vs : List V} {k : Nat}, RepL w g ds vs → RepL w g (ds.eraseIdx k) (vs.eraseIdx k)
  | [], _, _, h => by rw [h.cases0]; exact .nil
  | d :: ds, _, 0, h => by obtain ⟨v, r, rfl, q, t⟩ := h.cases; exact t
  | d :: ds, _, k + 1, h => by obtain ⟨v, r, rfl, q, t⟩ := h.cases; exact .cons q (repL_erase t)
theorem mt_popI : MtOk X cl rPopAt popD := fun g H S a us ds mo mo' Q s rp m e q => by
  unfold popD at e
  split at e
  · split at e
    · rename_i i
      split at e
      · rename_i hz
        rw [Option.bind_eq_some_iff] at e
        obtain ⟨k, e1, e2⟩ := e
        split at e2
        · rename_i hk
          cases e2
          obtain ⟨vs, hH, l⟩ := m
          obtain ⟨v, r, rfl, q1, q2⟩ := rp.cases
          rw [q2.cases0, rep_int.mp q1]
          obtain ⟨z1, z2⟩ := fitI_iff hz
          rw [l.length] at e1 hk
          exact ⟨a, vs, i, k, vs[k], rfl, rfl, hH, by omega, by omega, e1, List.getElem?_eq_getElem hk, q _ _ ⟨_, upd_same, repL_erase l⟩⟩
        · cases e2
      · cases e
    · cases e
  · cases e
end
end GG
end

section
set_option linter.all false
set_option maxRecDepth 100000
namespace GG
open PySem PySem.Spec PyProof.Rows L2

/-! ### set(t), t a list or a tuple: the road to the loop -/
section
variable {P : Program} {w : World} {A : Around} {E : Value → Shared → Prop} {s : Shared}
/-- the new empty set -/
def bareSet (w : World) : Obj := { cls := .type "set", dict := none, data := .set #[] 0 (.fresh 0 0 (!w.params.followText "set-order")) }
/-- the iterator over the thing at l -/
def itObj (nm : String) (l : Addr) : Obj := { cls := .type nm, data := .fields #[.ref l, .int 0 0] }
set_option maxHeartbeats 3200000 in
theorem set_road {T IT : String} {l : Addr} {od : Option Addr} {its : Array Value} {nl : Nat} {os : Array (Option Value)} {Q : Value → Shared → Prop}
    (ho : s.heap.get? l = some { cls := .type T, dict := od, data := .seq its nl, slots := os })
    (q1 : isSubtype (.type T) (.type "set") = pure false) (q2 : isSubtype (.type T) (.type "frozenset") = pure false) (q3 : (Value.type T == Value.type "dict") = false)
    (itr : ∀ {B : Around} {Q E t}, t.heap.get? l = some { cls := .type T, dict := od, data := .seq its nl, slots := os } →
      Q (.ref t.heap.objs.size) { t with heap := t.heap.push (itObj IT l) } → wpAny (model P w) B (pyIter (.ref l)) Q E t)
    (run : codeAny (model P w) A.in1.in1 (.builtin "set.update.loop" ⟨[.ref s.heap.objs.size, .ref (s.heap.push (bareSet w)).objs.size], []⟩)
      (fun r s' => r = .ok (.ret .none) ∧ Q (.ref s.heap.objs.size) s')
      { s with heap := (s.heap.push (bareSet w)).push (itObj IT l) }) :
    wpAny (model P w) A (call (.type "set") [.ref l]) Q E s := by
  have ⟨_, _, mroIs⟩ := F.called_set.mro
  have madeIs := F.called_set.made
  have subIs := F.called_set.sub
  have n1 := F.called_set.notType
  have n2 := F.called_set.canCreate
  have tc := F.typeCall_set_1 (.ref l)
  refine wpAny_call (codeAny_of_tree ?_)
  show wpAny _ _ (callAny (.type "set") _) _ _ _
  refine wpAny_pure ⟨Code.quiet_builtin _ (by decide +kernel), ?_⟩
  refine codeAny_builtin F.entry_type_call ?_
  rw [Around.under_plain (weight_type_call_type "set" [.ref l] []) rfl]
  repeat (any_goals (first | assumption | wp_step))
  refine codeAny_mono (code_set_led1 (.ref l) (E := E) (Q₁ := fun x t => x = .ref s.heap.objs.size ∧ t = { s with heap := s.heap.push (bareSet w) }) ⟨rfl, rfl⟩) fun r t hr => ?_
  rcases r with e | fl
  · exact hr
  · cases fl with
    | ret x =>
      obtain ⟨rfl, rfl⟩ := hr
      have here : (s.heap.push (bareSet w)).get? s.heap.objs.size = some (bareSet w) := Heap.get?_push_size _ rfl
      have tyIs : Shared.TypeIs { s with heap := s.heap.push (bareSet w) } (.ref s.heap.objs.size) "set" := ⟨_, here, rfl⟩
      have lookIs := F.called_set.init.lookup
      have bindIs := F.called_set.init.bind (.ref s.heap.objs.size)
      repeat (any_goals (first | assumption | wp_step))
      refine codeAny_mono (codeAny_call_builtin (R := fun r t => r = .ok (.ret .none) ∧ Q (.ref s.heap.objs.size) t) F.called_set.init.plain F.entry_set_init (check_set_init_1 tyIs ?_)) fun r2 t2 hr2 => ?_
      · have ho2 : (s.heap.push (bareSet w)).get? l = some { cls := .type T, dict := od, data := .seq its nl, slots := os } := Heap.get?_push_of_some _ ho
        unfold Builtin.«set.__init__» noKeywords Builtin.Frozenset.updateFrom
        generalize hPI : pyIter = PI
        wp_walk
        subst hPI
        refine itr ho2 (wpAny_bind (wpAny_runValue (codeAny_mono run fun r3 t3 hr3 => ?_)))
        obtain ⟨rfl, q⟩ := hr3
        exact wpAny_pure (wpAny_pure ⟨rfl, q⟩)
      · obtain ⟨rfl, q⟩ := hr2
        repeat (any_goals (first | assumption | wp_step))
    | _ => exact hr.elim
end

section
variable {P : Program} {w : World} {A : Around} {E : Value → Shared → Prop} {s : Shared}
theorem set_road_t {l : Addr} {its : Array Value} {Q : Value → Shared → Prop} (hl : s.heap.IsTuple l its)
    (run : codeAny (model P w) A.in1.in1 (.builtin "set.update.loop" ⟨[.ref s.heap.objs.size, .ref (s.heap.push (bareSet w)).objs.size], []⟩)
      (fun r s' => r = .ok (.ret .none) ∧ Q (.ref s.heap.objs.size) s')
      { s with heap := (s.heap.push (bareSet w)).push (itObj "tuple_iterator" l) }) : wpAny (model P w) A (call (.type "set") [.ref l]) Q E s := by
  obtain ⟨⟨oc, od, oda, os⟩, ho, hc, nl, hd⟩ := hl
  simp only at hc hd
  subst hc hd
  exact set_road ho F.sub_tuple_set F.sub_tuple_frozenset (by decide) (fun e q => wpAny_pyIter_tuple ⟨_, e, rfl, nl, rfl⟩ q) run
theorem set_road_l {l : Addr} {its : Array Value} {Q : Value → Shared → Prop} (hl : s.heap.IsList l its)
    (run : codeAny (model P w) A.in1.in1 (.builtin "set.update.loop" ⟨[.ref s.heap.objs.size, .ref (s.heap.push (bareSet w)).objs.size], []⟩)
      (fun r s' => r = .ok (.ret .none) ∧ Q (.ref s.heap.objs.size) s')
      { s with heap := (s.heap.push (bareSet w)).push (itObj "list_iterator" l) }) : wpAny (model P w) A (call (.type "set") [.ref l]) Q E s := by
  obtain ⟨⟨oc, od, oda, os⟩, ho, hc, nl, hd⟩ := hl
  simp only at hc hd
  subst hc hd
  exact set_road ho F.sub_list_set F.sub_list_frozenset (by decide) (fun e q => wpAny_pyIter_list ⟨_, e, rfl, nl, rfl⟩ q) run
end
end GG
end

section
set_option linter.all false
set_option maxRecDepth 100000
namespace GG
open PySem PySem.Spec PyProof.Rows L2

/-- each once, in the order in which they are first met -/
def uq {α : Type} [DecidableEq α] (xs : List α) : List α := xs.foldl (fun a x => if x ∈ a then a else a ++ [x]) []
theorem uq_snoc {α : Type} [DecidableEq α] (xs : List α) (x : α) : uq (xs ++ [x]) = if x ∈ uq xs then uq xs else uq xs ++ [x] := by
  unfold uq
  rw [List.foldl_append]
  rfl
theorem uq_mem {α : Type} [DecidableEq α] (y : α) : ∀ (n : Nat) (xs : List α), xs.length = n → (y ∈ uq xs ↔ y ∈ xs) := by
  intro n
  induction n with
  | zero => intro xs h; cases xs with
    | nil => exact Iff.rfl
    | cons a b => simp at h
  | succ n ih =>
    intro xs h
    obtain ⟨as, a, rfl⟩ : ∃ as a, xs = as ++ [a] := ⟨xs.dropLast, xs.getLast (by intro e; simp [e] at h), (List.dropLast_concat_getLast _).symm⟩
    have ih := ih as (by simpa using h)
    rw [uq_snoc]
    split
    · rename_i hm
      rw [ih, List.mem_append, List.mem_singleton]
      refine ⟨.inl, fun q => q.elim id fun e => ?_⟩
      subst e
      exact ih.mp hm
    · rw [List.mem_append, List.mem_append, ih]
theorem uq_le {α : Type} [DecidableEq α] : ∀ (n : Nat) (xs : List α), xs.length = n → (uq xs).length ≤ n := by
  intro n
  induction n with
  | zero => intro xs h; cases xs with
    | nil => exact Nat.le_refl _
    | cons a b => simp at h
  | succ n ih =>
    intro xs h
    obtain ⟨as, a, rfl⟩ : ∃ as a, xs = as ++ [a] := ⟨xs.dropLast, xs.getLast (by intro e; simp [e] at h), (List.dropLast_concat_getLast _).symm⟩
    have ih := ih as (by simpa using h)
    rw [uq_snoc]
    split
    · omega
    · simp; omega
theorem uq_nodup {α : Type} [DecidableEq α] : ∀ (n : Nat) (xs : List α), xs.length = n → xs.Nodup → uq xs = xs := by
  intro n
  induction n with
  | zero => intro xs h _; cases xs with
    | nil => rfl
    | cons a b => simp at h
  | succ n ih =>
    intro xs h hd
    obtain ⟨as, a, rfl⟩ : ∃ as a, xs = as ++ [a] := ⟨xs.dropLast, xs.getLast (by intro e; simp [e] at h), (List.dropLast_concat_getLast _).symm⟩
    rw [List.nodup_append] at hd
    have e := ih as (by simpa using h) hd.1
    rw [uq_snoc, e, if_neg fun m => hd.2.2 a m a List.mem_cons_self rfl]

section
variable {P : Program} {w : World} {A : Around} {R : Result → Shared → Prop} {I : Addr} {fp wr : List Addr} {G : Array GenState → Array GenState → Prop} {n : Nat} {Pv : Nat → Value → Prop} {St : Nat → Shared → Prop}
theorem set_fill {K : Type} [DecidableEq K] (kd : PySem.KeyKind P w K) (W : WalksS P w A.in1 I fp wr G n Pv St) (S : Addr) (hS : S ∉ fp) (ks : List K) (hn : n = ks.length) (hb : ks.length + 1 < scanBound)
    (val : ∀ i v, Pv i v → ∃ k, ks[i]? = some k ∧ kd.is k v = true ∧ v.scannable = true) :
    ∀ (d i : Nat) (s : Shared), n - i = d → i ≤ n → St i s → s.heap.SetOf kd S (fun k => decide (k ∈ ks.take i)) (uq (ks.take i)).length →
      (∀ t, Moved (S :: wr) G s t → t.heap.SetOf kd S (fun k => decide (k ∈ ks)) (uq ks).length → R (.ok (.ret .none)) t) →
      codeAny (model P w) A (.builtin "set.update.loop" ⟨[.ref S, .ref I], []⟩) R s := by
  have notW : S ∉ wr := fun h => hS (W.sub _ h)
  have wid : ∀ b ∈ wr, b ∈ S :: wr := fun b h => .tail _ h
  intro d
  induction d with
  | zero =>
    intro i s hd hi hst hO hR
    have hin : i = n := Nat.le_antisymm hi (Nat.le_of_sub_eq_zero hd)
    subst hin
    refine codeAny_builtin F.entry_set_update_loop ?_
    rw [Around.under_plainId F.plain_set_update_loop _]
    show wpAny _ A.in1 (_ >>= _) _ _ s
    refine wpAny_bind (W.done s _ _ hst fun t hm => ?_)
    rw [List.take_of_length_le (by omega)] at hO
    obtain ⟨o, es, ep, tb, ho, rest⟩ := hO
    exact wpAny_pure (hR t (hm.mono wid) ⟨o, es, ep, tb, hm.heap S _ notW ho, rest⟩)
  | succ d ih =>
    intro i s hd hi hst hO hR
    have hlt : i < n := by omega
    refine codeAny_builtin F.entry_set_update_loop ?_
    rw [Around.under_plainId F.plain_set_update_loop _]
    show wpAny _ A.in1 (_ >>= _) _ _ s
    refine wpAny_bind (W.item i s _ _ hlt hst fun v t hP hst' hm => ?_)
    obtain ⟨k, hk, is, sc⟩ := val i v hP
    have hO' : t.heap.SetOf kd S (fun k => decide (k ∈ ks.take i)) (uq (ks.take i)).length := by
      obtain ⟨o, es, ep, tb, ho, rest⟩ := hO
      exact ⟨o, es, ep, tb, hm.heap S _ notW ho, rest⟩
    have small : (uq (ks.take i)).length ≤ i := Nat.le_trans (uq_le _ _ rfl) (by simp; omega)
    show wpAny _ A.in1 (holding [v] (setAdd S v) >>= _) _ _ t
    refine wpAny_bind (wpAny_holding ?_)
    unfold setAdd
    refine wpAny_holding (wpAny_bind (kd.pyHash is ?_))
    refine wpAny_setAddHashed_of (knd := kd) (s := { t with toks := t.toks + 1 }) is sc hO' (by omega) fun h2 same hO2 => ?_
    have tk : ks.take (i + 1) = ks.take i ++ [k] := by rw [List.take_add_one, hk]; rfl
    have e1 : (fun j => decide (j ∈ ks.take i) || decide (j = k)) = fun j => decide (j ∈ ks.take (i + 1)) := funext fun j => by
      rw [tk]
      simp [List.mem_append]
    have e2 : (if decide (k ∈ ks.take i) = true then (uq (ks.take i)).length else (uq (ks.take i)).length + 1) = (uq (ks.take (i + 1))).length := by
      rw [tk, uq_snoc]
      by_cases q : k ∈ ks.take i
      · rw [if_pos (by simpa using q), if_pos ((uq_mem k _ _ rfl).mpr q)]
      · rw [if_neg (by simpa using q), if_neg fun z => q ((uq_mem k _ _ rfl).mp z)]
        simp
    rw [e1, e2] at hO2
    refine wpAny_pure ⟨plainId_quiet F.plain_set_update_loop _, ih (i + 1) _ (by omega) hlt (W.frame _ t _ _ hst' (Nat.le_succ _) fun b hb o e => ?_) hO2 fun t2 hm2 hO3 => ?_⟩
    · rw [same.2 b (fun z : b = S => hS (z ▸ hb))]
      exact e
    · refine hR t2 (Moved.trans W.gtrans ((hm.mono wid).then_heap (Nat.le_succ _) fun b o hb e => ?_) hm2) hO3
      rw [same.2 b (fun z : b = S => hb (z ▸ List.mem_cons_self))]
      exact e
end

section
variable {P : Program} {w : World} {A : Around} {E : Value → Shared → Prop} {s : Shared}
/-- the loop for a new set from the walk over l -/
theorem set_run {K : Type} [DecidableEq K] (kd : PySem.KeyKind P w K) {IT : String} {l : Addr} {n : Nat} {Pv : Nat → Value → Prop} {St : Nat → Shared → Prop} {Q : Value → Shared → Prop} {ks : List K}
    (hl : @LT.lt Nat _ l s.heap.objs.size)
    (W : WalksS P w A.in1.in1.in1 (s.heap.push (bareSet w)).objs.size [(s.heap.push (bareSet w)).objs.size, l] [(s.heap.push (bareSet w)).objs.size] (fun a b => b = a) n Pv St)
    (hn : n = ks.length) (hb : ks.length + 1 < scanBound) (val : ∀ i v, Pv i v → ∃ k, ks[i]? = some k ∧ kd.is k v = true ∧ v.scannable = true)
    (st : St 0 { s with heap := (s.heap.push (bareSet w)).push (itObj IT l) })
    (h : ∀ (h' : Heap) (tk : Nat), h'.SetOf kd s.heap.objs.size (fun k => decide (k ∈ ks)) (uq ks).length →
      (∀ b o, s.heap.get? b = some o → h'.get? b = some o) → Q (.ref s.heap.objs.size) { s with heap := h', toks := tk }) :
    codeAny (model P w) A.in1.in1 (.builtin "set.update.loop" ⟨[.ref s.heap.objs.size, .ref (s.heap.push (bareSet w)).objs.size], []⟩)
      (fun r s' => r = .ok (.ret .none) ∧ Q (.ref s.heap.objs.size) s') { s with heap := (s.heap.push (bareSet w)).push (itObj IT l) } := by
  have z1 : (s.heap.push (bareSet w)).objs.size = s.heap.objs.size + 1 := Heap.size_push ..
  have ne : ∀ {b c d : Addr}, @Ne Nat b c → @Ne Nat b d → b ∉ [c, d] := fun h1 h2 m => by
    rcases List.mem_cons.mp m with q | m
    · exact h1 q
    rcases List.mem_cons.mp m with q | m
    · exact h2 q
    · cases m
  refine set_fill (A := A.in1.in1) kd W s.heap.objs.size (by rw [z1]; exact ne (by omega) (by omega)) ks hn hb val (n - 0) 0 _ rfl (Nat.zero_le _) st ?_ fun t hm hO => ?_
  · have g : ((s.heap.push (bareSet w)).push (itObj IT l)).get? s.heap.objs.size = some (bareSet w) := Heap.get?_push_of_some _ (Heap.get?_push_size _ rfl)
    exact (PyProof.Rows.setObjOf_fresh (knd := kd) _).setOf g (by decide)
  · obtain ⟨h', g', d', tk', os'⟩ := t
    have eg : g' = s.gens := hm.gens
    have ed : d' = s.drawn := hm.drawn
    have eo : os' = s.os := hm.os
    subst eg ed eo
    refine ⟨rfl, h h' tk' hO fun b o e => hm.heap b o ?_ (Heap.get?_push_of_some _ (Heap.get?_push_of_some _ e))⟩
    have : @LT.lt Nat _ b s.heap.objs.size := Heap.lt_size e
    rw [z1]
    exact ne (by omega) (by omega)
end
end GG
end

section
set_option linter.all false
set_option maxRecDepth 100000
namespace GG
open PySem PySem.Spec PyProof.Rows L2

def memK {α : Type} [DecidableEq α] (ks : List α) (k : α) : Bool := decide (k ∈ ks)
theorem keys_at {ks : List L2.Key} {its : List Value} (r : Vals (ks.map kV) its) {i : Nat} {v : Value} (h : its[i]? = some v) : ∃ k, ks[i]? = some k ∧ keyIs k v = true ∧ v.scannable = true := by
  have hi : i < ks.length := by
    have := (List.getElem?_eq_some_iff.mp h).1
    rw [← r.length, List.length_map] at this
    exact this
  obtain ⟨u, e, q⟩ := r.get (i := i) (x := kV ks[i]) (by simp [hi])
  rw [h] at e
  cases e
  refine ⟨ks[i], List.getElem?_eq_getElem hi, ?_⟩
  cases hk : ks[i] with
  | inl n => rw [hk] at q; obtain ⟨t, rfl⟩ := q; exact ⟨keyIs_int _ _, rfl⟩
  | inr n => rw [hk] at q; obtain ⟨t, rfl⟩ := q; exact ⟨keyIs_str _ _, rfl⟩

section
variable {P : Program} {w : World} {A : Around} {E : Value → Shared → Prop} {s : Shared}
theorem set_keys {l : Addr} {its : List Value} {ks : List L2.Key} {Q : Value → Shared → Prop} (hh : A.handled = none) (hl : s.heap.IsList l its.toArray ∨ s.heap.IsTuple l its.toArray) (r : Vals (ks.map kV) its) (hb : ks.length + 1 < scanBound)
    (h : ∀ (h' : Heap) (tk : Nat), h'.SetOf (mixKind P w) s.heap.objs.size (memK ks) (uq ks).length →
      (∀ b o, s.heap.get? b = some o → h'.get? b = some o) → Q (.ref s.heap.objs.size) { s with heap := h', toks := tk }) :
    wpAny (model P w) A (call (.type "set") [.ref l]) Q E s := by
  have hn : its.toArray.size = ks.length := by rw [List.size_toArray, ← r.length, List.length_map]
  have z1 : (s.heap.push (bareSet w)).objs.size = s.heap.objs.size + 1 := Heap.size_push ..
  have hh3 : A.in1.in1.in1.handled = none := by simp [hh]
  have val : ∀ i v, its.toArray[i]? = some v → ∃ k, ks[i]? = some k ∧ (mixKind P w).is k v = true ∧ v.scannable = true := fun i v e => keys_at r (by simpa using e)
  rcases hl with hl | hl
  · obtain ⟨o, ho, -⟩ := id hl
    have hlt : @LT.lt Nat _ l s.heap.objs.size := Heap.lt_size ho
    have ne : l ≠ (s.heap.push (bareSet w)).objs.size := by rw [z1]; exact fun e => Nat.ne_of_lt (Nat.lt_succ_of_lt hlt) e
    refine set_road_l hl (set_run (IT := "list_iterator") (mixKind P w) hlt ((Walks.list hh3 _ l ne its.toArray).toS) hn hb val ⟨⟨_, Heap.get?_push_size _ rfl, rfl, rfl⟩, (hl.push _).push _⟩ h)
  · obtain ⟨o, ho, -⟩ := id hl
    have hlt : @LT.lt Nat _ l s.heap.objs.size := Heap.lt_size ho
    have ne : l ≠ (s.heap.push (bareSet w)).objs.size := by rw [z1]; exact fun e => Nat.ne_of_lt (Nat.lt_succ_of_lt hlt) e
    refine set_road_t hl (set_run (IT := "tuple_iterator") (mixKind P w) hlt ((Walks.tuple hh3 _ l ne its.toArray).toS) hn hb val ⟨⟨_, Heap.get?_push_size _ rfl, rfl, rfl⟩, (hl.push _).push _⟩ h)
end

section
variable {X : Cx}
def tLSK (K : PySem.W.Frag) (ta : TE) : TE := fun σ H Q => ta σ H fun x H1 => ∃ l, ∃ ks : List L2.Key, x = .ref l ∧ (SqL K H1 l (ks.map kV) ∨ SqT K H1 l (ks.map kV)) ∧ ks.length + 1 < scanBound ∧ Q (.int (uq ks).length) H1
theorem pe_lsk {a : Expr} {ta : TE} {p p2 q pos : Pos} (hc : X.calm = true) (hg : Gl X "len") (hm : X.mg "len" = none) (hg2 : Gl X "set") (hm2 : X.mg "set" = none) (ha : PE X a ta)
    (na : starEach [a] X.env = [(false, eval a X.env)]) : PE X (.Call (.Name "len" p) [.Call (.Name "set" p2) [a] [] q] [] pos) (tLSK X.K ta) := by
  refine ⟨fun pins s σ H Q I h => Call_ (ld_blt I hg hm boot_len (PyProof.Rows.callWith_builtin1 (PyProof.Rows.args_cons ?_ rfl) rfl rfl))⟩
  refine Call_ (ld_blt I hg2 hm2 boot_set (PyProof.Rows.callWith_type1 (PyProof.Rows.args_cons (thn (ha.run pins s σ H _ I h) fun v s1 ⟨x, H1, I1, r1, q1⟩ => PyProof.Rows.args_nil ?_) na) na rfl))
  obtain ⟨l, ks, rfl, hq, hb, q1⟩ := q1
  cases r1
  obtain ⟨its, r, hl⟩ : ∃ its : List Value, Vals (ks.map kV) its ∧ (s1.heap.IsList l its.toArray ∨ s1.heap.IsTuple l its.toArray) := by
    rcases hq with hq | hq
    · obtain ⟨its, r, pl, -⟩ := I1.list hq
      exact ⟨its, r, .inl pl.isList⟩
    · obtain ⟨its, r, pl, -⟩ := I1.tuple hq
      exact ⟨its, r, .inr pl⟩
  refine set_keys (I1.ok.hd hc) hl r hb fun h' tk hS hk => PyProof.Rows.args_nil ?_
  obtain ⟨o, es, ep, t, ho, hex, hd, _, _, _, hf, hn⟩ := hS
  have I2 : Inv X pins σ H1 { s1 with heap := h', toks := tk } := I1.kept fun b o e => hk b o e
  have few : (uq ks).length ≤ ks.length := uq_le _ _ rfl
  have c9 : scanBound ≤ 5000 := by decide
  refine call_len_set ho hex hd hf (by rw [hn]; omega) ⟨.int (uq ks).length, H1, I2.tok _, ⟨_, by rw [hn]⟩, q1⟩
end
def lensetD (d : D) : Option D := (seqD d).bind fun xs => (keysL xs).bind fun ks => if ks.length + 1 < scanBound then some (.int (uq ks).length) else none
section
variable {cl : Wp} {X : Cx} {a : Expr} {ha : HX} {pos p p2 q : Pos}
theorem ge_lenset (hc : X.calm = true) (hg : Gl X "len") (hm : X.mg "len" = none) (hg2 : Gl X "set") (hm2 : X.mg "set" = none) (h : GHd cl X a ha) (hs : starEach [a] X.env = [(false, eval a X.env)]) :
    GE cl X (.Call (.Name "len" p) [.Call (.Name "set" p2) [a] [] q] [] pos) (eH ha lensetD) := fun W tk =>
  PE.weak (pe_lsk hc hg hm hg2 hm2 (h W tk) hs) fun σ H Q ⟨ρ, S, g, sim, c⟩ => Con.go sim c fun v H1 hd S1 g1 e1 s1 f1 r1 c1 => by
    obtain ⟨d, e, c3⟩ := c1.opt
    rw [Option.bind_eq_some_iff] at e
    obtain ⟨dc, e3, e4⟩ := e
    unfold lensetD at e4
    rw [Option.bind_eq_some_iff] at e4
    obtain ⟨xs, e5, e6⟩ := e4
    rw [Option.bind_eq_some_iff] at e6
    obtain ⟨ks, e7, e8⟩ := e6
    obtain ⟨l, ys, rfl, hq, hl⟩ := shown_seq s1.st (shown_of s1 r1 e3) e5
    have e9 := keysL_rep e7 hl
    subst e9
    split at e8
    · rename_i hb
      cases e8
      exact ⟨l, ks, rfl, hq, hb, Con.val c3 s1.st (rep_int.mpr rfl)⟩
    · cases e8
end
end GG
end

section
set_option linter.all false
set_option maxRecDepth 100000
namespace GG
open PySem PySem.Spec PyProof.Rows L2

/-! ### sorted(set(t)), t of ints -/
def insU (a : Int) : List Int → List Int
  | [] => [a]
  | b :: r => if a < b then a :: b :: r else if a = b then b :: r else b :: insU a r
def srtU (xs : List Int) : List Int := xs.foldr insU []
theorem insU_mem (a k : Int) : ∀ xs, k ∈ insU a xs ↔ k = a ∨ k ∈ xs
  | [] => by simp [insU]
  | b :: r => by
    unfold insU
    split
    · simp
    · split
      · rename_i e; subst e; simp
      · simp [insU_mem a k r]; constructor
        · rintro (h | h | h) <;> simp [h]
        · rintro (h | h | h) <;> simp [h]
theorem insU_sorted (a : Int) : ∀ xs, xs.Pairwise (· < ·) → (insU a xs).Pairwise (· < ·)
  | [], _ => by simp [insU]
  | b :: r, h => by
    rw [List.pairwise_cons] at h
    unfold insU
    split
    · rename_i hab
      refine List.pairwise_cons.mpr ⟨fun x hx => ?_, List.pairwise_cons.mpr h⟩
      rcases List.mem_cons.mp hx with rfl | hx
      · exact hab
      · have := h.1 x hx; omega
    · split
      · exact List.pairwise_cons.mpr h
      · refine List.pairwise_cons.mpr ⟨fun x hx => ?_, insU_sorted a r h.2⟩
        rcases (insU_mem a x r).mp hx with rfl | hx
        · omega
        · exact h.1 x hx
theorem srtU_mem (k : Int) : ∀ xs, k ∈ srtU xs ↔ k ∈ xs
  | [] => Iff.rfl
  | a :: r => by
    show k ∈ insU a (srtU r) ↔ _
    rw [insU_mem, srtU_mem k r, List.mem_cons]
theorem srtU_sorted : ∀ xs, (srtU xs).Pairwise (· < ·)
  | [] => .nil
  | a :: r => insU_sorted a _ (srtU_sorted r)
theorem sorted_uniq : ∀ {xs ys : List Int}, xs.Pairwise (· < ·) → ys.Pairwise (· < ·) → (∀ k, k ∈ xs ↔ k ∈ ys) → xs = ys
  | [], [], _, _, _ => rfl
  | [], b :: r, _, _, h => by have := (h b).mpr List.mem_cons_self; cases this
  | a :: r, [], _, _, h => by have := (h a).mp List.mem_cons_self; cases this
  | a :: r, b :: t, h1, h2, h => by
    rw [List.pairwise_cons] at h1 h2
    have e : a = b := by
      rcases List.mem_cons.mp ((h a).mp List.mem_cons_self) with e | m
      · exact e
      · rcases List.mem_cons.mp ((h b).mpr List.mem_cons_self) with e | m2
        · exact e.symm
        · have q1 := h2.1 a m; have q2 := h1.1 b m2; omega
    subst e
    have ne1 : a ∉ r := fun m => by have := h1.1 a m; omega
    have ne2 : a ∉ t := fun m => by have := h2.1 a m; omega
    rw [sorted_uniq h1.2 h2.2 fun k => ?_]
    have hk := h k
    rw [List.mem_cons, List.mem_cons] at hk
    constructor
    · intro m
      rcases hk.mp (.inr m) with rfl | m2
      · exact absurd m ne1
      · exact m2
    · intro m
      rcases hk.mpr (.inr m) with rfl | m2
      · exact absurd m ne2
      · exact m2

section
variable {P : Program} {w : World} {A : Around} {E : Value → Shared → Prop} {s : Shared}
theorem set_ints {l : Addr} {its : List Value} {ns : List Int} {Q : Value → Shared → Prop} (hh : A.handled = none) (hl : s.heap.IsList l its.toArray ∨ s.heap.IsTuple l its.toArray) (r : Vals (ns.map V.int) its) (hb : ns.length + 1 < scanBound)
    (h : ∀ (h' : Heap) (tk c : Nat), SetR w h' s.heap.objs.size (fun j => decide (j ∈ ns)) c → c ≤ ns.length →
      (∀ b o, s.heap.get? b = some o → h'.get? b = some o) → Q (.ref s.heap.objs.size) { s with heap := h', toks := tk }) :
    wpAny (model P w) A (call (.type "set") [.ref l]) Q E s := by
  have hn : its.toArray.size = ns.length := by rw [List.size_toArray, ← r.length, List.length_map]
  have z1 : (s.heap.push (bareSet w)).objs.size = s.heap.objs.size + 1 := Heap.size_push ..
  have hh3 : A.in1.in1.in1.handled = none := by simp [hh]
  have val : ∀ i v, its.toArray[i]? = some v → ∃ (k : Int) (t : Tok), ns[i]? = some k ∧ v = Value.int k t := fun i v e => by
    have hi : i < ns.length := by
      rw [← hn]
      exact (Array.getElem?_eq_some_iff.mp e).1
    obtain ⟨u, e1, q⟩ := r.get (i := i) (x := V.int ns[i]) (by simp [hi])
    rw [show its.toArray[i]? = its[i]? by simp, e1] at e
    cases e
    obtain ⟨t, rfl⟩ := q
    exact ⟨ns[i], t, List.getElem?_eq_getElem hi, rfl⟩
  have ne3 : ∀ {b c d : Addr}, @Ne Nat b c → @Ne Nat b d → b ∉ [c, d] := fun h1 h2 m => by
    rcases List.mem_cons.mp m with q | m
    · exact h1 q
    rcases List.mem_cons.mp m with q | m
    · exact h2 q
    · cases m
  have fin : ∀ {IT : String} {Pv : Nat → Value → Prop} {St : Nat → Shared → Prop} (W : WalksS P w A.in1.in1.in1 (s.heap.push (bareSet w)).objs.size [(s.heap.push (bareSet w)).objs.size, l] [(s.heap.push (bareSet w)).objs.size] (fun a b => b = a) its.toArray.size Pv St),
      @LT.lt Nat _ l s.heap.objs.size → (∀ i v, Pv i v → ∃ (k : Int) (t : Tok), ns[i]? = some k ∧ v = Value.int k t) → St 0 { s with heap := (s.heap.push (bareSet w)).push (itObj IT l) } →
      codeAny (model P w) A.in1.in1 (.builtin "set.update.loop" ⟨[.ref s.heap.objs.size, .ref (s.heap.push (bareSet w)).objs.size], []⟩)
        (fun r s' => r = .ok (.ret .none) ∧ Q (.ref s.heap.objs.size) s') { s with heap := (s.heap.push (bareSet w)).push (itObj IT l) } := fun {IT Pv St} W hlt val st => by
    refine set_update_ints W s.heap.objs.size (by rw [z1]; exact ne3 (by omega) (by omega)) ns hn hb val (its.toArray.size - 0) 0 _ rfl (Nat.zero_le _) st ⟨0, Nat.le_refl 0, ?_⟩ fun t c hm hc hO => ?_
    · exact setR_new_at (Heap.get?_push_of_some _ (Heap.get?_push_size _ rfl))
    · obtain ⟨h', g', d', tk', os'⟩ := t
      have eg : g' = s.gens := hm.gens
      have ed : d' = s.drawn := hm.drawn
      have eo : os' = s.os := hm.os
      subst eg ed eo
      refine ⟨rfl, h h' tk' c hO (by omega) fun b o e => hm.heap b o ?_ (Heap.get?_push_of_some _ (Heap.get?_push_of_some _ e))⟩
      have : @LT.lt Nat _ b s.heap.objs.size := Heap.lt_size e
      rw [z1]
      exact ne3 (by omega) (by omega)
  rcases hl with hl | hl
  · obtain ⟨o, ho, -⟩ := id hl
    have hlt : @LT.lt Nat _ l s.heap.objs.size := Heap.lt_size ho
    have ne : l ≠ (s.heap.push (bareSet w)).objs.size := by rw [z1]; exact fun e => Nat.ne_of_lt (Nat.lt_succ_of_lt hlt) e
    exact set_road_l hl (fin (IT := "list_iterator") ((Walks.list hh3 _ l ne its.toArray).toS) hlt val ⟨⟨_, Heap.get?_push_size _ rfl, rfl, rfl⟩, (hl.push _).push _⟩)
  · obtain ⟨o, ho, -⟩ := id hl
    have hlt : @LT.lt Nat _ l s.heap.objs.size := Heap.lt_size ho
    have ne : l ≠ (s.heap.push (bareSet w)).objs.size := by rw [z1]; exact fun e => Nat.ne_of_lt (Nat.lt_succ_of_lt hlt) e
    exact set_road_t hl (fin (IT := "tuple_iterator") ((Walks.tuple hh3 _ l ne its.toArray).toS) hlt val ⟨⟨_, Heap.get?_push_size _ rfl, rfl, rfl⟩, (hl.push _).push _⟩)
end

section
variable {X : Cx}
def tSSI (K : PySem.W.Frag) (ta : TE) : TE := fun σ H Q => ta σ H fun x H1 => ∃ l, ∃ ns : List Int, x = .ref l ∧ (SqL K H1 l (ns.map V.int) ∨ SqT K H1 l (ns.map V.int)) ∧ ns.length < 64 ∧
  ∀ p, H1 p = none → Q (.ref p) (upd H1 p (.lst ((srtU ns).map V.int)))
theorem boot_srt : bootBuiltins "sorted" = some (.builtin "sorted") := by decide +kernel
theorem run_srt {pins : List (Addr × Obj)} {σ : L2.St} {H1 : Hp} {s2 : Shared} {b : Addr} {ns : List Int} {c : Nat} {Q : VK} (I2 : Inv X pins σ H1 s2) (hc : X.calm = true) (hS : SetR X.w s2.heap b (fun j => decide (j ∈ ns)) c) (h64 : c < 64)
    (q1 : ∀ p, H1 p = none → Q (.ref p) (upd H1 p (.lst ((srtU ns).map V.int)))) : wpAny (model X.prog X.w) X.A (call (.builtin "sorted") [.ref b]) (EP X pins σ Q) X.xe s2 := by
  refine sorted_set hS (I2.ok.hd hc) h64 fun s' p out c' ns' k g o hp hg hi hs hm hl => ?_
  have e9 : ns' = srtU ns := sorted_uniq hs (srtU_sorted ns) fun k => by
    rw [hm k, srtU_mem]
    exact decide_eq_true_iff
  have small : (ns'.map V.int).length ≤ sizeLine := by rw [List.length_map, hl, sizeLine_eq]; omega
  have fresh : H1 p = none := I2.hok.fresh hp
  have J : Inv X pins σ (upd H1 p (.lst (ns'.map V.int))) { s2 with heap := s'.heap, gens := s'.gens, drawn := s'.drawn, toks := s'.toks } :=
    I2.call (ch := []) (Un.laid k hp fresh) (I2.hok.laid k hp ⟨small, out.toList, c', vals_of_ints hi, hg⟩) (by rw [g]; exact I2.bare) (fun _ z => nomatch z)
  have e : s' = { s2 with heap := s'.heap, gens := s'.gens, drawn := s'.drawn, toks := s'.toks } := by
    cases s'
    cases s2
    cases o
    rfl
  rw [e]
  subst e9
  exact ⟨.ref p, _, J, rfl, q1 p fresh⟩
theorem pe_ssi {a : Expr} {ta : TE} {p p2 q pos : Pos} (hc : X.calm = true) (hg : Gl X "sorted") (hm : X.mg "sorted" = none) (hg2 : Gl X "set") (hm2 : X.mg "set" = none) (ha : PE X a ta)
    (na : starEach [a] X.env = [(false, eval a X.env)]) : PE X (.Call (.Name "sorted" p) [.Call (.Name "set" p2) [a] [] q] [] pos) (tSSI X.K ta) := by
  refine ⟨fun pins s σ H Q I h => Call_ (ld_blt I hg hm boot_srt (PyProof.Rows.callWith_builtin1 (PyProof.Rows.args_cons ?_ rfl) rfl rfl))⟩
  refine Call_ (ld_blt I hg2 hm2 boot_set (PyProof.Rows.callWith_type1 (PyProof.Rows.args_cons (thn (ha.run pins s σ H _ I h) fun v s1 ⟨x, H1, I1, r1, q1⟩ => PyProof.Rows.args_nil ?_) na) na rfl))
  obtain ⟨l, ns, rfl, hq, hb, q1⟩ := q1
  cases r1
  obtain ⟨its, r, hl⟩ : ∃ its : List Value, Vals (ns.map V.int) its ∧ (s1.heap.IsList l its.toArray ∨ s1.heap.IsTuple l its.toArray) := by
    rcases hq with hq | hq
    · obtain ⟨its, r, pl, -⟩ := I1.list hq
      exact ⟨its, r, .inl pl.isList⟩
    · obtain ⟨its, r, pl, -⟩ := I1.tuple hq
      exact ⟨its, r, .inr pl⟩
  have c9 : 100 ≤ scanBound := by decide
  refine set_ints (I1.ok.hd hc) hl r (by omega) fun h' tk c hS hc' hk => PyProof.Rows.args_nil ?_
  have I2 : Inv X pins σ H1 { s1 with heap := h', toks := tk } := I1.kept fun b o e => hk b o e
  exact run_srt I2 hc hS (by omega) q1
end
def intsD : List D → Option (List Int)
  | [] => some []
  | .int i :: ds => (intsD ds).map (i :: ·)
  | _ => none
theorem intsD_rep {w : Wd} {g : Gh} : ∀ {ds : List D} {ns : List Int} {vs : List V}, intsD ds = some ns → RepL w g ds vs → vs = ns.map V.int
  | [], _, _, e, r => by cases e; rw [r.cases0]; rfl
  | d :: ds, _, _, e, r => by
    cases d <;> first | (cases e; done) | skip
    simp only [intsD, Option.map_eq_some_iff] at e
    obtain ⟨ns, e1, rfl⟩ := e
    obtain ⟨v, l, rfl, q1, q2⟩ := r.cases
    rw [rep_int.mp q1, intsD_rep e1 q2]; rfl
theorem repL_ints {w : Wd} {g : Gh} : ∀ {ns : List Int}, RepL w g (ns.map D.int) (ns.map V.int)
  | [] => .nil
  | n :: ns => .cons (rep_int.mpr rfl) repL_ints
def srtsetD (d : D) : Option (List Int) := (seqD d).bind fun xs => (intsD xs).bind fun ks => if ks.length < 64 then some (srtU ks) else none
def mSrtSet (h : HX) : MX := fun ρ S => (h ρ S).bind fun p => (Out.opt ((deref ρ p.2 p.1).bind srtsetD)).bind fun xs => .ok (.lst (xs.map D.int), p.2)
section
variable {cl : Wp} {X : Cx} {a : Expr} {ha : HX} {pos p p2 q : Pos}
theorem gm_srtset (hc : X.calm = true) (hg : Gl X "sorted") (hm : X.mg "sorted" = none) (hg2 : Gl X "set") (hm2 : X.mg "set" = none) (h : GHd cl X a ha) (hs : starEach [a] X.env = [(false, eval a X.env)]) :
    GM cl X (.Call (.Name "sorted" p) [.Call (.Name "set" p2) [a] [] q] [] pos) (mSrtSet ha) := fun W tk =>
  PE.weak (pe_ssi hc hg hm hg2 hm2 (h W tk) hs) fun σ H Q ⟨ρ, S, g, sim, c⟩ => Con.fst (R := RH (wd X cl) σ) sim c fun v H1 hd S1 g1 s1 f1 r1 c1 => by
    obtain ⟨xs, e, c2⟩ := c1.opt
    rw [Option.bind_eq_some_iff] at e
    obtain ⟨d, e1, e2⟩ := e
    unfold srtsetD at e2
    rw [Option.bind_eq_some_iff] at e2
    obtain ⟨ys, e5, e6⟩ := e2
    rw [Option.bind_eq_some_iff] at e6
    obtain ⟨ks, e7, e8⟩ := e6
    obtain ⟨l, vs, rfl, hq, hl⟩ := shown_seq s1.st (shown_of s1 r1 e1) e5
    have e9 := intsD_rep e7 hl
    subst e9
    split at e8
    · rename_i hb
      cases e8
      refine ⟨l, ks, rfl, hq, hb, fun p hp => ?_⟩
      obtain ⟨t, f, r⟩ := new_RN (mo := .lst ((srtU ks).map D.int)) (u := .lst ((srtU ks).map V.int)) s1.st f1 hp ⟨_, upd_same, repL_ints⟩
      exact c2 _ _ _ t f r
    · cases e8
end
end GG
end

section
set_option linter.all false
set_option maxRecDepth 100000
namespace GG
open PySem PySem.Spec PyProof.Rows L2

/-! ### t[::-1], t a tuple -/
theorem back_adjust (n : Nat) : Builtin.Slice.sliceAdjust none none (-1) (n : Int) = ((n : Int) - 1, -1) := by
  unfold Builtin.Slice.sliceAdjust
  simp
theorem back_places (n : Nat) : Builtin.Slice.slicePlaces ((n : Int) - 1) (-1) (-1) = n := by
  unfold Builtin.Slice.slicePlaces
  simp
  split <;> omega
theorem fm_map {α β : Type} {f : α → Option β} {g : α → β} : ∀ {l : List α}, (∀ m ∈ l, f m = some (g m)) → l.filterMap f = l.map g
  | [], _ => rfl
  | a :: r, h => by rw [List.filterMap_cons_some (h a List.mem_cons_self), List.map_cons, fm_map fun m q => h m (.tail _ q)]
theorem back_pick (xs : List Value) : ((List.range xs.length).filterMap fun (m : Nat) => xs.toArray[(((xs.length : Int) - 1) + (m : Int) * (-1)).toNat]?) = xs.reverse := by
  apply List.ext_getElem?
  intro i
  have h : (List.range xs.length).filterMap (fun (m : Nat) => xs.toArray[(((xs.length : Int) - 1) + (m : Int) * (-1)).toNat]?) = (List.range xs.length).map fun m => xs.getD (xs.length - 1 - m) .none := by
    refine fm_map fun m hm => ?_
    rw [List.mem_range] at hm
    have e : (((xs.length : Int) - 1) + (m : Int) * (-1)).toNat = xs.length - 1 - m := by omega
    have lt : xs.length - 1 - m < xs.length := by omega
    rw [e]
    simp [List.getD_eq_getElem?_getD, lt]
  rw [h, List.getElem?_map]
  by_cases hi : i < xs.length
  · have lt : xs.length - 1 - i < xs.length := by omega
    rw [List.getElem?_range hi, List.getElem?_reverse hi]
    simp [List.getD_eq_getElem?_getD, lt]
  · rw [List.getElem?_eq_none (by simp; omega), List.getElem?_eq_none (by simp; omega)]
    rfl
section
variable {prog : Program} {w : World} {A : Around} {E : Value → Shared → Prop} {s : Shared}
theorem sliceApplied_back {sl : Addr} {tk : Tok} {n : Nat} {Q : Int × Int × Nat → Shared → Prop} (hs : s.heap.IsSliceOf sl .none .none (.int (-1) tk))
    (h : Q ((n : Int) - 1, -1, n) s) : wpAny (model prog w) A (Builtin.Slice.sliceApplied (.ref sl) (pure (n : Int))) Q E s := by
  obtain ⟨ob, hob, hcb, hdb⟩ := id hs
  unfold Builtin.Slice.sliceApplied Builtin.Slice.sliceFields
  refine wpAny_bind (wpAny_bind (wpAny_field hob hdb (x := .none) rfl (wpAny_bind (wpAny_field hob hdb (x := .none) rfl (wpAny_bind (wpAny_field hob hdb (x := .int (-1) tk) rfl (wpAny_pure ?_)))))))
  refine wpAny_bind (slicePart_int ?_)
  show wpAny _ _ (if ((-1 : Int) == 0) = true then _ else _) _ _ s
  rw [if_neg (by decide)]
  refine wpAny_bind (slicePart_none (wpAny_bind (slicePart_none (wpAny_bind (wpAny_pure ?_)))))
  show wpAny _ _ (match Builtin.Slice.sliceAdjust none none (-1) (n : Int) with | (lo, hi) => pure (lo, (-1 : Int), Builtin.Slice.slicePlaces lo hi (-1))) _ _ s
  rw [back_adjust]
  show wpAny _ _ (pure ((n : Int) - 1, (-1 : Int), Builtin.Slice.slicePlaces ((n : Int) - 1) (-1) (-1))) _ _ s
  rw [back_places]
  exact wpAny_pure h
theorem getItem_tuple_back {t sl : Addr} {its : List Value} {tk : Tok} {Q : Value → Shared → Prop} (ht : IsTup s.heap t its.toArray) (hs : s.heap.IsSliceOf sl .none .none (.int (-1) tk))
    (h : Q (.ref s.heap.objs.size) { s with heap := s.heap.push { cls := .type "tuple", data := .seq its.reverse.toArray } })
    (hsz : its.length ≤ sizeLine) : wpAny (model prog w) A (getItem (.ref t) (.ref sl)) Q E s := by
  have fits : sizeOk (.seq its.reverse.toArray) := by
    show its.reverse.toArray.size ≤ sizeLine
    rw [List.size_toArray, List.length_reverse]
    exact hsz
  obtain ⟨ob, hob, hcb, hdb⟩ := id hs
  have tyS : s.TypeIs (.ref sl) "slice" := ⟨ob, hob, hcb⟩
  unfold getItem
  try with_reducible refine wpAny_holding ?_
  first | refine wpAny_bind (wpAny_pure ?_) | skip
  refine wpAny_bind (wpAny_sequenceKey ht.typeIs (by decide) (wpAny_bind (wpAny_callSpecial?_slot (name := Str.ofString "__getitem__") ht.typeIs PyProof.Rows.slot_tuple_getitem
    (wpAny_call_entry PyProof.Rows.slot_tuple_getitem ht.typeIs entry_tuple_getitem ?_ (args_tuple_getitem _ _)))))
  change wpAny _ _ (Builtin.Tuple.tupleItemsOf (.ref t) >>= _) _ _ s
  refine wpAny_bind (tupleItemsOf_ ht (wpAny_bind (wpAny_typeOf tyS ?_)))
  rw [if_pos (by decide)]
  have hz : its.toArray.size = its.length := List.size_toArray
  refine wpAny_bind ?_
  rw [hz]
  refine sliceApplied_back hs ?_
  have no : ¬ ((((its.length : Int) - 1) == 0 && (-1 : Int) == 1 && its.length == its.length) = true) := by
    intro q
    rw [Bool.and_eq_true, Bool.and_eq_true] at q
    exact absurd q.1.2 (by decide)
  show wpAny _ _ (if (((its.length : Int) - 1) == 0 && (-1 : Int) == 1 && its.length == its.length) = true then _ else _) _ _ s
  rw [if_neg no, back_pick]
  first
    | exact wpAny_bind (m := Builtin.Tuple.tupleExact _) (wpAny_newObj_type (wpAny_pure ⟨_, rfl, wpAny_pure h⟩) fits)
    | exact wpAny_bind (m := Builtin.Tuple.tupleExact _) (wpAny_newObj_type (wpAny_bind (wpAny_pure (wpAny_pure ⟨_, rfl, wpAny_pure h⟩))) fits)
    | exact wpAny_bind (wpAny_bind (m := Builtin.Tuple.tupleExact _) (wpAny_newObj_type (wpAny_pure (wpAny_pure ⟨_, rfl, wpAny_pure h⟩)) fits))
    | exact wpAny_bind (wpAny_bind (m := Builtin.Tuple.tupleExact _) (wpAny_newObj_type (wpAny_pure ⟨_, rfl, wpAny_pure h⟩) fits))
end
section
variable {X : Cx}
def tBack (K : PySem.W.Frag) (te : TE) : TE := fun σ H Q => te σ H fun x H1 => ∃ a xs, x = .ref a ∧
  ((SqL K H1 a xs ∧ ∀ p, H1 p = none → Q (.ref p) (upd H1 p (.lst xs.reverse))) ∨ (SqT K H1 a xs ∧ ∀ p, H1 p = none → Q (.ref p) (upd H1 p (.tup xs.reverse))))
theorem pe_back {e : Expr} {te : TE} {k : Nat} {p1 p2 p3 pos : Pos} (he : PE X e te) : PE X (.Subscript e (.Slice none none (some (.UnaryOp .USub (.Constant (.int 1) k p1) p2)) p3) pos) (tBack X.K te) := by
  refine ⟨fun pins s σ H Q I h => Subscript_ (thn (he.run pins s σ H _ I h) fun v s1 ⟨x, H1, I1, r1, q1⟩ => ?_)⟩
  obtain ⟨a, xs, rfl, q⟩ := q1
  cases r1
  have step : PO X (some (.UnaryOp .USub (.Constant (.int 1) k p1) p2)) (tPart (tUn (rU fun i => .int (-i)) (tC (.int 1)))) := po_some (pe_un un_neg pe_int)
  refine wpAny_Slice (thn (po_none.run pins s1 σ H1 (fun o K => o = none ∧ K = H1) I1 ⟨rfl, rfl⟩) fun lo s2 ⟨o1, H2, I2, g1, d1, d2⟩ => ?_)
  subst d1 d2
  refine thn (po_none.run pins s2 σ H2 (fun o K => o = none ∧ K = H2) I2 ⟨rfl, rfl⟩) fun hi s3 ⟨o2, H3, I3, g2, d1, d2⟩ => ?_
  subst d1 d2
  refine thn (step.run pins s3 σ H3 (fun o K => o = some (-1) ∧ K = H3) I3 ⟨1, rfl, -1, rfl, rfl, rfl⟩) fun st s4 ⟨o3, H4, I4, g3, d1, d2⟩ => ?_
  subst d1 d2
  have I5 : Inv X pins σ H4 { s4 with heap := s4.heap.push { cls := .type "slice", data := .fields #[lo, hi, st] } } := I4.kept (t' := s4.toks) fun b ob q => Heap.get?_push_of_some _ q
  change wpAny (model X.prog X.w) X.A (subscriptTail e (.Slice none none (some (.UnaryOp .USub (.Constant (.int 1) k p1) p2)) p3) (.ref a) (.ref s4.heap.objs.size)) _ _ _
  rcases q with ⟨hq, q⟩ | ⟨hq, q⟩
  · obtain ⟨its, r, ht, hz⟩ := I5.list hq
    have same := r.length
    refine tail_any (ops := [.ref a, .ref s4.heap.objs.size]) ht.isList.typeIs (PySem.slot_list_getitem.lookup) ?_ (by with_unfolding_all rfl)
    refine wpAny_getItem_list_slice ht.isList (Heap.IsSliceOf.new _ lo hi st) g1 g2 g3 (by decide) ?_ (by rw [List.size_toArray]; omega)
    rw [PySem.W.krv_pick]
    refine ⟨.ref _, _, I5.laid (t' := s4.toks) (o := .lst xs.reverse) (fun b ob q => Heap.get?_push_of_some _ q) (Nat.le_refl _) ⟨?_, _, 0, r.reverse, Heap.get?_push_size _ rfl⟩, rfl, q _ (I5.hok.fresh (Nat.le_refl _))⟩
    rw [List.length_reverse]
    exact hz
  · obtain ⟨its, r, ht, hz⟩ := I5.tuple hq
    have same := r.length
    cases g1
    cases g2
    cases g3
    refine tail_any (ops := [.ref a, .ref s4.heap.objs.size]) ht.typeIs (PyProof.Rows.slot_tuple_getitem.lookup) ?_ (by with_unfolding_all rfl)
    refine getItem_tuple_back ht (Heap.IsSliceOf.new _ .none .none _) ?_ (by omega)
    refine ⟨.ref _, _, I5.laid (t' := s4.toks) (o := .tup xs.reverse) (fun b ob q => Heap.get?_push_of_some _ q) (Nat.le_refl _) ⟨?_, _, r.reverse, IsTup.new _ _⟩, rfl, q _ (I5.hok.fresh (Nat.le_refl _))⟩
    rw [List.length_reverse]
    exact hz
end
def revD : D → Option D
  | .lst xs => some (.lst xs.reverse)
  | .frl xs => some (.lst xs.reverse)
  | .tup xs => some (.tup xs.reverse)
  | .ktp xs => some (.tup xs.reverse)
  | _ => none
section
variable {cl : Wp} {X : Cx} {a : Expr} {ha : HX} {k : Nat} {p1 p2 p3 pos : Pos}
theorem ge_rev (h : GHd cl X a ha) : GE cl X (.Subscript a (.Slice none none (some (.UnaryOp .USub (.Constant (.int 1) k p1) p2)) p3) pos) (eH ha revD) := fun W tk =>
  PE.weak (pe_back (h W tk)) fun σ H Q ⟨ρ, S, g, sim, c⟩ => Con.go sim c fun v H1 hd S1 g1 e1 s1 f1 r1 c1 => by
    obtain ⟨d, e, c3⟩ := c1.opt
    rw [Option.bind_eq_some_iff] at e
    obtain ⟨dc, e3, e4⟩ := e
    have sh := shown_of s1 r1 e3
    cases dc <;> first | (cases e4; done) | skip
    · cases e4
      obtain ⟨a, vs, rfl, h, l⟩ := (rep_tup' (w := wd X cl) (g := g1)).mp sh
      refine ⟨a, vs, rfl, .inr ⟨sqT_sub s1.st.sub (SqT.of h), fun p hp => ?_⟩⟩
      obtain ⟨t, f⟩ := s1.st.put (u := .tup vs.reverse) hp
      exact c3 _ _ _ t f (rep_tup f.le (RepL.reverse l))
    · cases e4
      obtain ⟨a, vs, rfl, h, l⟩ := sh
      refine ⟨a, vs, rfl, .inl ⟨SqL.of h, fun p hp => ?_⟩⟩
      obtain ⟨t, f⟩ := s1.st.put (u := .lst vs.reverse) hp
      exact c3 _ _ _ t f (rep_lst f.le (RepL.reverse l))
    · cases e4
      obtain ⟨a, vs, rfl, h, l⟩ := (rep_ktp' (w := wd X cl) (g := g1)).mp sh
      refine ⟨a, vs, rfl, .inr ⟨sqT_sub s1.st.sub h, fun p hp => ?_⟩⟩
      obtain ⟨t, f⟩ := s1.st.put (u := .tup vs.reverse) hp
      exact c3 _ _ _ t f (rep_tup f.le (RepL.reverse l))
    · cases e4
      obtain ⟨a, vs, rfl, h, l⟩ := (rep_frl' (w := wd X cl) (g := g1)).mp sh
      refine ⟨a, vs, rfl, .inl ⟨sqL_sub s1.st.sub h, fun p hp => ?_⟩⟩
      obtain ⟨t, f⟩ := s1.st.put (u := .lst vs.reverse) hp
      exact c3 _ _ _ t f (rep_lst f.le (RepL.reverse l))
end
end GG
end

section
set_option linter.all false
set_option maxRecDepth 100000
set_option maxHeartbeats 4000000
namespace GG
open PySem PySem.Spec PyProof.Rows L2

/-! ### t * 1 -/
theorem tup_once (l : Addr) (its : Array Value) (n : Nat) (dd : Option Addr) (sl : Array (Option Value)) (u : Tok) :
    Meets (Builtin.«tuple.__mul__» ⟨[.ref l, .int 1 u], []⟩) (fun _ R s => s.heap.get? l = some { cls := .type "tuple", dict := dd, data := .seq its n, slots := sl } ∧ R (.ok (.ret (Value.ref l))) s) :=
  .of_wp fun prog w A R s h => by
    obtain ⟨hp, g, d, tk, os⟩ := s
    obtain ⟨hl, h⟩ := h
    have ix := AutoSeq1.idx_int
    wp_walk using AutoSeq1.wpAny_loadPart' hl
    exact ⟨_, rfl, h⟩
def rRep1 (K : PySem.W.Frag) : R2 := fun x y H Q => ∃ l k xs, x = .ref l ∧ y = .int k ∧ SqT K H l xs ∧ xs ≠ [] ∧ 1 ≤ k ∧ k ≤ 1000 ∧ xs.length ≤ 1000 ∧ (k = 1 → Q x H) ∧ (k ≠ 1 → ∀ p, H p = none → Q (.ref p) (upd H p (.tup (List.replicate k.toNat xs).flatten)))
section
variable {X : Cx}
theorem op_rep1 : OpR X (binaryOp .Mult) (rRep1 X.K) := by
  intro pins s σ H x y v u Q I rx ry h
  obtain ⟨l, k, xs, rfl, rfl, hT, hne, h1, h2, hz, qa, qb⟩ := h
  by_cases hk : k = 1
  · subst hk
    have rx0 := rx
    cases rx
    have q := qa rfl
    obtain ⟨t, rfl⟩ := ry
    obtain ⟨its, r, ⟨⟨cls, dd, data, sl⟩, ho, hc, n, hd⟩, hs⟩ := I.tuple hT
    simp only at hc hd
    subst hc hd
    exact wpAny_binaryOp_repeat_ref (T := "tuple") (U := "int") (by decide) ⟨_, ho, rfl⟩ (fun s' => typeIs_int s' 1 t) noFill_tuple_mul F.fills_int_mul F.slot_int_rmul repeat_tuple F.slot_int_index.lookup
      (call_meets F.slot_int_rmul (typeIs_int s 1 t) F.entry_int_rmul (F.args_int_rmul_2 _ _) (int_rmul_tuple 1 t l its.toArray n dd sl)
        ⟨ho, rfl, ⟨_, ho, rfl⟩, call_meets F.slot_tuple_mul ⟨_, ho, rfl⟩ F.entry_tuple_mul (F.args_tuple_mul_2 _ _) (tup_once l its.toArray n dd sl t) ⟨ho, ⟨.ref l, H, I, rx0, q⟩⟩⟩)
  · exact op_repT pins s σ H _ _ v u Q I rx ry ⟨l, k, xs, rfl, rfl, hT, hne, by omega, h2, hz, qb hk⟩
end
def tmulD : D → D → Option D
  | .tup xs, .int k => if xs ≠ [] ∧ 1 ≤ k ∧ k ≤ 1000 ∧ xs.length ≤ 1000 then some (.tup (List.replicate k.toNat xs).flatten) else none
  | _, _ => none
theorem repL_rep {w : Wd} {g : Gh} {ds : List D} {vs : List V} (h : RepL w g ds vs) : ∀ n, RepL w g (List.replicate n ds).flatten (List.replicate n vs).flatten
  | 0 => .nil
  | n + 1 => by
    rw [List.replicate_succ, List.replicate_succ, List.flatten_cons, List.flatten_cons]
    exact h.append (repL_rep h n)
section
variable {cl : Wp} {X : Cx}
theorem ok_tmul : OpR X (binaryOp .Mult) (rD (wd X cl) tmulD) := by
  intro pins s σ H x y v u Q I rx ry h
  obtain ⟨d1, d2, d, g, S, sim, r1, r2, e, q⟩ := h
  unfold tmulD at e
  split at e
  · split at e
    · rename_i hz
      cases e
      rw [rep_int.mp r2] at ry
      have r1' := r1
      obtain ⟨a, vs, rfl, h, l⟩ := (rep_tup' (w := wd X cl) (g := g)).mp r1
      have ln := l.length
      refine op_rep1 pins s σ H _ _ v u Q I rx ry ⟨a, _, vs, rfl, rfl, sqT_sub sim.sub (SqT.of h), ?_, hz.2.1, hz.2.2.1, by omega, ?_, fun hk p hp => ?_⟩
      · intro e
        subst e
        exact hz.1 (List.eq_nil_of_length_eq_zero ln)
      · intro hk
        subst hk
        refine q _ g H sim .refl ?_
        have one : ∀ zs : List D, (List.replicate (1 : Int).toNat zs).flatten = zs := fun zs => by
          show (List.replicate 1 zs).flatten = zs
          rw [List.replicate_one, List.flatten_singleton]
        rw [one]
        exact r1'
      · obtain ⟨t, f⟩ := sim.put (u := .tup (List.replicate _ vs).flatten) hp
        exact q _ _ _ t f (rep_tup f.le (repL_rep l _))
    · cases e
  · cases e
end

/-! ### sep.join(xs) -/
def strsD : List D → Option (List Str)
  | [] => some []
  | .str i :: ds => (strsD ds).map (i :: ·)
  | _ => none
theorem strsD_rep {w : Wd} {g : Gh} : ∀ {ds : List D} {ns : List Str} {vs : List V}, strsD ds = some ns → RepL w g ds vs → vs = ns.map V.str
  | [], _, _, e, r => by cases e; rw [r.cases0]; rfl
  | d :: ds, _, _, e, r => by
    cases d <;> first | (cases e; done) | skip
    simp only [strsD, Option.map_eq_some_iff] at e
    obtain ⟨ns, e1, rfl⟩ := e
    obtain ⟨v, l, rfl, q1, q2⟩ := r.cases
    rw [rep_str.mp q1, strsD_rep e1 q2]; rfl
def joinD : D → D → Option D
  | .str a, d => (seqD d).bind fun xs => (strsD xs).bind fun ys => if (ys.map (·.length)).sum + ys.length * a.length ≤ 16777216 then some (.str (Txt.join a ys)) else none
  | _, _ => none
def eJoin (a : EX) (h : HX) : EX := fun ρ S => (a ρ S).bind fun p => match p.1 with
  | .str _ => (h ρ p.2).bind fun q => (Out.opt ((deref ρ q.2 q.1).bind (joinD p.1))).bind fun d => .ok (d, q.2)
  | _ => .stuck
section
variable {cl : Wp} {X : Cx} {a b : Expr} {da : EX} {hb : HX} {apos pos : Pos}
theorem ge_join (h1 : GE cl X a da) (h2 : GHd cl X b hb) (hs : starEach [b] X.env = [(false, eval b X.env)]) (hbase : attributeBase a "join" X.env (eval a X.env) = eval a X.env) (hline : (apos.endLine == pos.line) = true) :
    GE cl X (.Call (.Attribute a "join" apos) [b] [] pos) (eJoin da hb) := fun W tk =>
  PE.weak (pe_join (h1 W tk) (h2 W tk) hs hbase hline) fun σ H Q ⟨ρ, S, g, sim, c⟩ =>
    Con.go sim c fun v H1 d1 S1 g1 e1 s1 f1 r1 c1 => by
      cases d1 <;> first | (exact c1.elim) | skip
      rename_i z
      have r1 := rep_str.mp r1
      subst r1
      refine ⟨⟨z, rfl⟩, ?_⟩
      exact Con.go (den := hb) s1 c1 fun u H2 d2 S2 g2 e2 s2 f2 r2 c2 => by
        obtain ⟨d, e, c3⟩ := c2.opt
        rw [Option.bind_eq_some_iff] at e
        obtain ⟨dc, e3, e4⟩ := e
        simp only [joinD, Option.bind_eq_some_iff] at e4
        obtain ⟨xs, e5, ys, e6, e7⟩ := e4
        obtain ⟨p, vs, rfl, hq, hl⟩ := shown_seq s2.st (shown_of s2 r2 e3) e5
        have e9 := strsD_rep e6 hl
        subst e9
        split at e7
        · rename_i hz
          cases e7
          exact ⟨z, p, ys, rfl, rfl, hq, hz, Con.val c3 s2.st (rep_str.mpr rfl)⟩
        · cases e7
end
end GG
end

section
set_option linter.all false
set_option maxRecDepth 100000
namespace GG
open PySem PySem.Spec PyProof.Rows L2

/-! ### dict comprehensions, keys ints or texts -/
def putP (ks : List (L2.Key × D)) (k : L2.Key) (d : D) : List (L2.Key × D) :=
  if (ks.any fun p => decide (p.1 = k)) = true then ks.map (fun p => if p.1 = k then (p.1, d) else p) else ks ++ [(k, d)]
inductive RepP (w : Wd) (g : Gh) : List (L2.Key × D) → List (L2.Key × V) → Prop where
  | nil : RepP w g [] []
  | cons {k : L2.Key} {d : D} {v : V} {ds : List (L2.Key × D)} {vs : List (L2.Key × V)} : Rep w g d v → RepP w g ds vs → RepP w g ((k, d) :: ds) ((k, v) :: vs)
section
variable {w : Wd} {g g' : Gh}
theorem RepP.mono (l : Le g g') : ∀ {ds : List (L2.Key × D)} {vs : List (L2.Key × V)}, RepP w g ds vs → RepP w g' ds vs
  | _, _, .nil => .nil
  | _, _, .cons r t => .cons (Rep.mono l r) (RepP.mono l t)
theorem RepP.length : ∀ {ds : List (L2.Key × D)} {vs : List (L2.Key × V)}, RepP w g ds vs → ds.length = vs.length
  | _, _, .nil => rfl
  | _, _, .cons _ t => by rw [List.length_cons, List.length_cons, RepP.length t]
theorem RepP.any (k : L2.Key) : ∀ {ds : List (L2.Key × D)} {vs : List (L2.Key × V)}, RepP w g ds vs → (ds.any fun p => decide (p.1 = k)) = (vs.any fun p => decide (p.1 = k))
  | _, _, .nil => rfl
  | _, _, .cons _ t => by rw [List.any_cons, List.any_cons, RepP.any k t]
theorem RepP.snoc {k : L2.Key} {d : D} {v : V} (r : Rep w g d v) : ∀ {ds : List (L2.Key × D)} {vs : List (L2.Key × V)}, RepP w g ds vs → RepP w g (ds ++ [(k, d)]) (vs ++ [(k, v)])
  | _, _, .nil => .cons r .nil
  | _, _, .cons q t => .cons q (RepP.snoc r t)
theorem RepP.over {k : L2.Key} {d : D} {v : V} (r : Rep w g d v) : ∀ {ds : List (L2.Key × D)} {vs : List (L2.Key × V)}, RepP w g ds vs → RepP w g (ds.map fun p => if p.1 = k then (p.1, d) else p) (vs.map fun p => if p.1 = k then (p.1, v) else p)
  | _, _, .nil => .nil
  | _, _, .cons (k := k0) q t => by
    rw [List.map_cons, List.map_cons]
    by_cases h : k0 = k
    · simp only [h, if_true]
      exact .cons r (RepP.over r t)
    · simp only [h, if_false]
      exact .cons q (RepP.over r t)
theorem RepP.put {k : L2.Key} {d : D} {v : V} (r : Rep w g d v) {ds : List (L2.Key × D)} {vs : List (L2.Key × V)} (h : RepP w g ds vs) : RepP w g (putP ds k d) (putK vs k v) := by
  unfold putP putK
  rw [h.any k]
  split
  · exact h.over r
  · exact h.snoc r
theorem RepP.keys : ∀ {ds : List (L2.Key × D)} {vs : List (L2.Key × V)}, RepP w g ds vs → ds.map (·.1) = vs.map (·.1)
  | _, _, .nil => rfl
  | _, _, .cons _ t => by rw [List.map_cons, List.map_cons, RepP.keys t]
theorem RepP.vals : ∀ {ds : List (L2.Key × D)} {vs : List (L2.Key × V)}, RepP w g ds vs → RepL w g (ds.map (·.2)) (vs.map (·.2))
  | _, _, .nil => .nil
  | _, _, .cons r t => .cons r (RepP.vals t)
theorem zip_self {α β : Type} : ∀ (l : List (α × β)), (l.map (·.1)).zip (l.map (·.2)) = l
  | [] => rfl
  | a :: r => by rw [List.map_cons, List.map_cons, List.zip_cons_cons, zip_self r]
def dicP (ps : List (L2.Key × D)) : MO := .dic ((ps.map (·.1)).map KK.k) (ps.map (·.2))
theorem RepP.mok {ds : List (L2.Key × D)} {vs : List (L2.Key × V)} {H : Hp} {a : Addr} (h : RepP w g ds vs) (e : H a = some (.dK vs)) : MOk w g H a (dicP ds) :=
  ⟨vs.map (·.2), .dK vs, e, ⟨by rw [List.length_map, List.length_map, List.length_map, h.length], .inl ⟨vs.map (·.1), by rw [h.keys], by rw [zip_self]⟩⟩, h.vals⟩
end

def dcL (n : NX) (t : BX) (k e : EX) : List D → List (L2.Key × D) → LEnv → Store → Out (List (L2.Key × D) × Store)
  | [], acc, _, S => .ok (acc, S)
  | d :: ds, acc, ρ, S => match n d ρ with
    | none => .stuck
    | some ρ' => (t ρ' S).calm.bind fun b => if b.1 then (k ρ' b.2).calm.bind fun y => (e ρ' y.2).calm.bind fun z => match keyK y.1 with
        | some q => if acc.length < sizeLine then dcL n t k e ds (putP acc q z.1) ρ z.2 else .stuck
        | none => .stuck
      else dcL n t k e ds acc ρ b.2
def mDc (i : IX) (n : NX) (t : BX) (k e : EX) (vs : List Nat) : MX := fun ρ S => (i ρ S).bind fun p => (dcL n t k e p.1 [] (wipeD ρ vs) p.2).bind fun r => .ok (dicP r.1, r.2)
structure AccD (w : Wd) (g0 : Gh) (H0 : Hp) (L : Addr) (ρ : LEnv) (σ : L2.St) (g1 : Gh) (g : Gh) (H : Hp) (S : Store) (acc : List (L2.Key × D)) (us : List (L2.Key × V)) : Prop where
  sim : Sim w g H ρ σ S
  fr : GG.Fr g0 H0 g H
  le : Le g1 g
  at_ : H L = some (.dK us)
  f0 : H0 L = Option.none
  f1 : g.F L = Option.none
  f2 : ∀ j, g.m j ≠ some L
  rep : RepP w g acc us
theorem AccD.step {w : Wd} {g0 g1 g g' : Gh} {H0 H H' : Hp} {L : Addr} {ρ : LEnv} {σ : L2.St} {S S' : Store} {acc : List (L2.Key × D)} {us : List (L2.Key × V)} (a : AccD w g0 H0 L ρ σ g1 g H S acc us) (f : GG.Fr g H g' H') (s : SimS w g' H' S') : AccD w g0 H0 L ρ σ g1 g' H' S' acc us := by
  obtain ⟨k1, k2, k3⟩ := f.out L _ a.at_ a.f1 a.f2
  exact ⟨a.sim.fr f s, a.fr.trans f, a.le.trans f.le, k1, a.f0, k2, k3, a.rep.mono f.le⟩
theorem AccD.push {w : Wd} {g0 g1 g : Gh} {H0 H : Hp} {L : Addr} {ρ : LEnv} {σ : L2.St} {S : Store} {acc : List (L2.Key × D)} {us : List (L2.Key × V)} {k : L2.Key} {d : D} {v : V} (a : AccD w g0 H0 L ρ σ g1 g H S acc us) (r : Rep w g d v)
    (far : ∀ (i : Nat) o b, ρ[i]? = some (Slot.own o) → σ[i]? = some (some (V.ref b)) → b ≠ L) : AccD w g0 H0 L ρ σ g1 g (upd H L (.dK (putK us k v))) S (putP acc k d) (putK us k v) :=
  ⟨a.sim.off a.f1 a.f2 far, a.fr.off a.f0, a.le, upd_same, a.f0, a.f1, a.f2, a.rep.put r⟩
theorem AccD.done {w : Wd} {W : WX} {σ' : L2.St} {g0 g1 g : Gh} {H0 H : Hp} {L : Addr} {ρ : LEnv} {σ : L2.St} {S : Store} {acc : List (L2.Key × D)} {us : List (L2.Key × V)} {Q : VK} (a : AccD w g0 H0 L ρ σ g1 g H S acc us) (c : GG.Con w W σ' (RN w H0) g0 H0 Q (.ok (dicP acc, S))) : Q (.ref L) H :=
  c _ g H a.sim.st a.fr ⟨L, rfl, a.f0, a.f1, a.f2, a.rep.mok a.at_⟩
theorem rd_dc {w : Wd} {W : WX} {di : IX} {n : NX} {tt : BX} {dk de : EX} {vs us : List Nat} {wi : TI} {g : TG} {t : TT} {tk te : TE} {σ : L2.St} {H : Hp} {Q : VK} (hv : ∀ i ∈ us, i ∈ vs) (hwi : ∀ R, tX w W (RI w) di σ H R → wi σ H R) (hg : ∀ v σ H Q, rN w us n v σ H Q → g v σ H Q)
    (ht : ∀ σ H Q, tX w (fun _ _ _ _ => False) RB tt σ H Q → t σ H Q) (hk : ∀ σ H Q, tX w (fun _ _ _ _ => False) (RE w) dk σ H Q → tk σ H Q) (he : ∀ σ H Q, tX w (fun _ _ _ _ => False) (RE w) de σ H Q → te σ H Q) (h : tX w W (RN w H) (mDc di n tt dk de vs) σ H Q) : tDc wi g t tk te vs σ H Q := by
  obtain ⟨ρ, S, g0, sim, c⟩ := h
  refine hwi _ (Con.fst sim c fun J H1 items S1 g1 s1 f1 r1 c1 L hL => ?_)
  have r1 : ItD w g1 items J := r1
  have hL0 : H L = Option.none := f1.none hL
  obtain ⟨n1, n2⟩ := SimS.none s1.st hL
  have far : ∀ (i : Nat) o b, (wipeD ρ vs)[i]? = some (Slot.own o) → (wipe σ vs)[i]? = some (some (V.ref b)) → b ≠ L := (sim.wipe vs).far hL0
  refine ⟨fun i m Hc => m = items.length - i ∧ i ≤ items.length ∧ ∃ g2 S2 acc ws, AccD w g0 H L (wipeD ρ vs) (wipe σ vs) g1 g2 Hc S2 acc ws ∧ GG.Con w W σ (RN w H) g0 H Q ((dcL n tt dk de (items.drop i) acc (wipeD ρ vs) S2).bind fun r => .ok (dicP r.1, r.2)),
    ⟨_, rfl, Nat.zero_le _, g1, S1, [], [], ⟨(s1.wipe vs).off n1 n2 far, f1.off hL0, .refl, upd_same, hL0, n1, n2, .nil⟩, c1⟩, ?_⟩
  rintro i m Hc ⟨rfl, hi, g2, S2, acc, ws, A, c2⟩
  by_cases hlt : i < items.length
  · right
    rw [List.drop_eq_getElem_cons hlt] at c2
    obtain ⟨hgo, hy⟩ := r1.go g2 Hc S2 A.le A.sim.st i hlt
    refine ⟨hgo, fun Hc => ∃ g2 S2 acc ws, AccD w g0 H L (wipeD ρ vs) (wipe σ vs) g1 g2 Hc S2 acc ws ∧ GG.Con w W σ (RN w H) g0 H Q ((dcL n tt dk de (items.drop (i + 1)) acc (wipeD ρ vs) S2).bind fun r => .ok (dicP r.1, r.2)),
      fun H' h => ⟨items.length - (i + 1), by omega, rfl, hlt, h⟩, fun x H' y => ?_⟩
    obtain ⟨g3, d, ed, rd, s3, f3⟩ := hy x H' y
    rw [List.getElem?_eq_getElem hlt] at ed
    cases ed
    have A3 := A.step f3 s3
    unfold dcL at c2
    cases en : n items[i] (wipeD ρ vs) with
    | none => rw [en] at c2; exact c2.elim
    | some ρ' =>
      rw [en] at c2
      dsimp only at c2
      refine hg _ _ _ _ ⟨_, _, S2, g3, ρ', A3.sim, rd, en, fun σ' s' k => ⟨by rw [k.wipe hv, wipe_wipe], ?_⟩⟩
      rw [Out.bind_assoc] at c2
      refine ht _ _ _ (Con.calm_go s' c2 fun b H4 b' S4 g4 s4 f4 r4 c4 => ?_)
      have r4 : b' = b := r4
      subst r4
      have A4 := A3.step f4 s4.st
      cases b' with
      | false =>
        simp only [Bool.false_eq_true, if_false] at c4 ⊢
        exact ⟨g4, S4, acc, ws, A4, c4⟩
      | true =>
        simp only [if_true] at c4 ⊢
        rw [Out.bind_assoc] at c4
        refine hk _ _ _ (Con.calm_go s4 c4 fun y H5 d5 S5 g5 s5 f5 r5 c5 => ?_)
        rw [Out.bind_assoc] at c5
        refine he _ _ _ (Con.calm_go s5 c5 fun z H6 d6 S6 g6 s6 f6 r6 c6 => ?_)
        have A6 := (A4.step f5 s5.st).step f6 s6.st
        have r5 : Rep w g5 d5 y := r5
        have r6 : Rep w g6 d6 z := r6
        cases eq : keyK d5 with
        | none => simp only [eq] at c6; exact c6.elim
        | some q =>
          simp only [eq] at c6
          split at c6
          · rename_i hz
            exact ⟨ws, q, keyK_rep eq r5, A6.at_, by rw [← A6.rep.length]; exact hz, g6, S6, putP acc q d6, putK ws q z, A6.push r6 far, c6⟩
          · exact c6.elim
  · left
    have e : i = items.length := by omega
    subst e
    rw [List.drop_length] at c2
    exact ⟨r1.done g2 Hc S2 A.le A.sim.st, A.done c2⟩
section
variable {cl : Wp} {X : Cx} {tg it kx vx : Expr} {ifs : List Expr} {scope : Scope} {own : List (Str × Nat)} {di : IX} {n : NX} {tt : BX} {dk de : EX} {us : List Nat} {pos : Pos}
theorem gm_dc (hc : X.calm = true) (hN : X.N.Nodup) (hi : GI cl X tg it di) (ok : BlkOk X.N X.env.scope scope own) (hv : ∀ i ∈ us, i ∈ own.map (·.2)) (hg : BX' X scope fun Y => GN cl Y us tg n) (ht : BX' X scope fun Y => GTs cl Y ifs tt) (hk : BX' X scope fun Y => GE cl Y kx dk) (he : BX' X scope fun Y => GE cl Y vx de)
    (hs : ∀ x, foldedSetIterable it X.env x = pure x) : GM cl X (.DictComp kx vx [⟨tg, it, ifs, 0⟩] scope pos) (mDc di n tt dk de (own.map (·.2))) := fun W tk =>
  PE.weak (pe_dc (g := rN (wd X cl) us n) (tt := tX (wd X cl) (fun _ _ _ _ => False) RB tt) (tk := tX (wd X cl) (fun _ _ _ _ => False) (RE (wd X cl)) dk) (tv := tX (wd X cl) (fun _ _ _ _ => False) (RE (wd X cl)) de) hc hN (hi W tk) ok (fun s H C c' fp => hg s H C c' fp) (fun s H C c' fp => ht s H C c' fp _ takes_none) (fun s H C c' fp => hk s H C c' fp _ takes_none) (fun s H C c' fp => he s H C c' fp _ takes_none) hs)
    fun σ H Q h => rd_dc hv (fun _ z => z) (fun _ _ _ _ z => z) (fun _ _ _ z => z) (fun _ _ _ z => z) (fun _ _ _ z => z) h
end
end GG
end

section
set_option linter.all false
set_option maxRecDepth 100000
namespace GG
open PySem L2
open PyProof.Rows hiding St

/-! ### the law's own def -/
def spLaw (K : PySem.W.Frag) : Sp := fun vs H Q _ => ∃ (a : Addr) (ns : List Int), vs = [.ref a] ∧ SqL K H a (ns.map V.int) ∧ ns.length ≤ 63 ∧ ∀ H', Q (.bl true) H'
/-- what is to be shown of the law in plain Lean -/
def Keeps (den : Den) : Prop := ∀ ns : List Int, ns.length ≤ 63 → ∃ S, den [.frl (ns.map D.int)] [] = .ok (.bl true, S)
theorem fnK_of {P : Program} {w : World} {K : PySem.W.Frag} {mg : Str → Option Value} {base : Heap} {cl : Wp} {f : Addr} {k n : Nat} {x qual : Str} {st : Stmt} {fd : FuncData} {N ps : List Str} {m : Nat} {body : SX} (F : Fun K x qual st f fd) (hS : FnScope N ps (defScope st)) (hn : ps.length = n) (hm : N.length = n + m)
    (B : ∀ (cdv : Value) (A : Around) (outer : List Env) (s : Shared) (H : Hp) (E : XK), Room k (A.deeper (envOfC qual (defScope st) s.heap.objs.size f cdv)) → GSs cl (cxOf (L2.CX P w) P w K mg base N qual (defScope st) f cdv A outer s H E) (defBody st) body) :
    FnOk P w K mg base (L2.CX P w) (k + 1) f fd ps (spD ⟨K, mg, cl.cl, cl.kc, cl.xa⟩ n (runD n m body)) := by
  refine Fun.okX F hS (fun vs H Q E h => by rw [h.1, hn]) fun cdv A outer s H vs Q E hr ⟨hl, ds, S, g, sm, rp, c⟩ => ?_
  unfold runD at c
  split at c
  · refine ⟨_, B cdv A outer s H E hr _ (takes_of (E := E) rfl rfl rfl rfl) (passes_of rfl), _, S, g, ⟨g, H, fun _ => False, none⟩, sim_start sm rp (by rw [hm, hl]), ⟨⟨.refl, fun _ _ h f m _ => ⟨h, f, m⟩, fun _ _ h => ⟨_, h⟩⟩, fun i o a e => ?_, fun p o e => nomatch e⟩, conS_end c⟩
    have e := List.mem_of_getElem? e
    unfold startD at e
    simp only [List.mem_append, List.mem_map, List.mem_replicate] at e
    rcases e with ⟨_, _, e⟩ | ⟨_, e⟩ <;> cases e
  · exact c.elim
/-- the heap cut to one address -/
def oneF (H : Hp) (a : Addr) : Hp := fun b => if b = a then H a else none
theorem sqL_one {K : PySem.W.Frag} {H : Hp} {a : Addr} {xs : List V} (h : SqL K H a xs) : SqL K (oneF H a) a xs := by
  have e : oneF H a a = H a := by unfold oneF; rw [if_pos rfl]
  rcases h with (h | ⟨o, h⟩) | h
  · exact .inl (.inl (e.trans h))
  · exact .inl (.inr ⟨o, e.trans h⟩)
  · exact .inr h
theorem law_ok {P : Program} {w : World} {K : PySem.W.Frag} {mg : Str → Option Value} {base : Heap} {cl : Wp} {f : Addr} {k : Nat} {x qual p : Str} {st : Stmt} {fd : FuncData} {N : List Str} {m : Nat} {body : SX} (F : Fun K x qual st f fd) (hS : FnScope N [p] (defScope st)) (hm : N.length = 1 + m)
    (B : ∀ (cdv : Value) (A : Around) (outer : List Env) (s : Shared) (H : Hp) (E : XK), Room k (A.deeper (envOfC qual (defScope st) s.heap.objs.size f cdv)) → GSs cl (cxOf (L2.CX P w) P w K mg base N qual (defScope st) f cdv A outer s H E) (defBody st) body)
    (hk : Keeps (runD 1 m body)) : FnOk P w K mg base (L2.CX P w) (k + 1) f fd [p] (spLaw K) := by
  refine (fnK_of F hS rfl hm B).imp fun vs H Q E ⟨a, ns, e, hq, hl, q⟩ => ?_
  subst e
  obtain ⟨S, e⟩ := hk ns hl
  refine ⟨rfl, [.frl (ns.map D.int)], [], ⟨oneF H a, fun _ => none⟩, ⟨fun b u e => ?_, fun i => ⟨fun h => absurd h (Nat.not_lt_zero _), fun ⟨_, h⟩ => (nomatch h)⟩, fun _ _ _ h => (nomatch h), fun _ _ _ h => (nomatch h)⟩, .cons (rep_frl'.mpr ⟨a, _, rfl, sqL_one hq, repL_ints⟩) .nil, ?_⟩
  · by_cases hb : b = a
    · subst hb
      exact .inl (by rw [← e]; exact (if_pos rfl).symm)
    · have e : oneF H a b = some u := e
      rw [show oneF H a b = none from if_neg hb] at e
      cases e
  · change ConD _ _ H Q E (runD 1 m body [.frl (ns.map D.int)] [])
    rw [e]
    intro v g' H' s f r
    rw [rep_bl.mp r]
    exact q H'
end GG
end

section
set_option linter.all false
set_option maxRecDepth 100000
namespace GG
open PySem L2
open PyProof.Rows hiding St
section
variable {K : PySem.W.Frag}
theorem kit_ref {t : Value} {C : Addr} {b : Bool} (h2 : PySem.W.isClsIn K C = true) (h3 : PySem.W.typeIn K (.ref C) = some (.type "type")) (h4 : PySem.W.subIn K t (.ref C) = some b) (ne : (t == .ref C) = false) : PySem.W.kitOne K t (.ref C) = some b := by
  have e2 : ((PySem.W.clsIn K C).isSome && PySem.W.typeIn K (.ref C) == some (.type "type")) = true := by
    have z : (PySem.W.clsIn K C).isSome = true := h2
    rw [z, h3]
    rfl
  unfold PySem.W.kitOne
  rw [ne]
  show (if ((PySem.W.clsIn K C).isSome && PySem.W.typeIn K (.ref C) == some (.type "type")) = true then PySem.W.subIn K t (.ref C) else none) = some b
  rw [if_pos e2, h4]
theorem kit_same {C : Addr} : PySem.W.kitOne K (.ref C) (.ref C) = some true := by
  unfold PySem.W.kitOne
  rw [beq_self_eq_true]
  rfl
theorem ref_ne {a b : Addr} (h : @Ne Nat a b) : (Value.ref a == Value.ref b) = false := beq_eq_false_iff_ne.mpr fun e => h (by cases e; rfl)
theorem kit_rr {a C : Addr} {b : Bool} (h2 : PySem.W.isClsIn K C = true) (h3 : PySem.W.typeIn K (.ref C) = some (.type "type")) (h4 : PySem.W.subIn K (.ref a) (.ref C) = some b) (hs : a = C → b = true) : PySem.W.kitOne K (.ref a) (.ref C) = some b := by
  by_cases e : a = C
  · subst e
    rw [hs rfl]
    exact kit_same
  · exact kit_ref h2 h3 h4 (beq_eq_false_iff_ne.mpr fun q => e (by cases q; rfl))
theorem exm_rr {a C : Addr} {b : Bool} (h1 : PySem.W.subIn K (.ref C) (.type "BaseException") = some true) (h2 : PySem.W.isClsIn K C = true) (h3 : PySem.W.typeIn K (.ref C) = some (.type "type")) (h4 : PySem.W.subIn K (.ref a) (.ref C) = some b) : PySem.W.exmOne K (.ref a) (.ref C) = some b := by
  have e1 : (PySem.W.subIn K (.ref C) (.type "BaseException") == some true) = true := by rw [h1]; rfl
  have e2 : ((PySem.W.clsIn K C).isSome && PySem.W.typeIn K (.ref C) == some (.type "type")) = true := by
    have z : (PySem.W.clsIn K C).isSome = true := h2
    rw [z, h3]
    rfl
  unfold PySem.W.exmOne
  rw [if_pos e1]
  show (if ((PySem.W.clsIn K C).isSome && PySem.W.typeIn K (.ref C) == some (.type "type")) = true then PySem.W.subIn K (.ref a) (.ref C) else none) = some b
  rw [if_pos e2, h4]
theorem kit_rt {C : Addr} {T : String} {b : Bool} (hk : PySem.W.kitMeta T = true) (h4 : PySem.W.subIn K (.ref C) (.type T) = some b) : PySem.W.kitOne K (.ref C) (.type T) = some b := by
  unfold PySem.W.kitOne
  show (if (PySem.W.kitMeta T) = true then PySem.W.subIn K (.ref C) (.type T) else none) = some b
  rw [if_pos hk, h4]
theorem kit_tr {C : Addr} {T : String} {b : Bool} (h2 : PySem.W.isClsIn K C = true) (h3 : PySem.W.typeIn K (.ref C) = some (.type "type")) (h4 : PySem.W.subIn K (.type T) (.ref C) = some b) : PySem.W.kitOne K (.type T) (.ref C) = some b :=
  kit_ref h2 h3 h4 rfl
/-- what the top tells of an own class -/
structure ClsF (K : PySem.W.Frag) (C : Addr) : Prop where
  pg : PySem.W.plainGet K C Str.empty = true
  hd : PySem.W.hasDictIn K C = true
  po : PySem.W.plainOver K C = true
  sa : PySem.W.findIn K (.ref C) "__setattr__" = some (some (.builtin "object.__setattr__"))
  mks : PySem.W.makesIn K C = true
  kp : PySem.W.keepIn K (.ref C) = true
  ha : PySem.W.findIn K (.ref C) "__class__" = some (some (.builtin "object.__class__"))
  hm : PySem.W.mroIn K C (.type "object") = some true
  ic : PySem.W.isClsIn K C = true
  ty : PySem.W.typeIn K (.ref C) = some (.type "type")
  t1 : PySem.W.subIn K (.ref C) (.type "int") = some false
  t2 : PySem.W.subIn K (.ref C) (.type "bool") = some false
  t3 : PySem.W.subIn K (.ref C) (.type "str") = some false
  t4 : PySem.W.subIn K (.ref C) (.type "tuple") = some false
  t5 : PySem.W.subIn K (.ref C) (.type "list") = some false
  t6 : PySem.W.subIn K (.ref C) (.type "dict") = some false
  u0 : PySem.W.subIn K (.type "NoneType") (.ref C) = some false
  u1 : PySem.W.subIn K (.type "int") (.ref C) = some false
  u2 : PySem.W.subIn K (.type "bool") (.ref C) = some false
  u3 : PySem.W.subIn K (.type "str") (.ref C) = some false
  u4 : PySem.W.subIn K (.type "tuple") (.ref C) = some false
  u5 : PySem.W.subIn K (.type "list") (.ref C) = some false
  u6 : PySem.W.subIn K (.type "dict") (.ref C) = some false
theorem ClsF.cls {C : Addr} (c : ClsF K C) : Cls K C := ⟨c.pg, c.hd, c.po, c.sa⟩
theorem ClsF.fact {C : Addr} (c : ClsF K C) (hn : PySem.W.specialIn K (.builtin "object.__class__") "__get__" = some (some (.builtin "getset_descriptor.__get__"))) (ht : PySem.W.takesIn K (.builtin "object.__class__") = some true) : CFact K C := by
  refine ⟨c.cls, c.ha, hn, ht, c.hm, fun m hm => ?_, fun n hn => ?_⟩
  · have hm : m ∈ biTypes := by simpa using hm
    simp only [biTypes, List.mem_cons, List.not_mem_nil, or_false] at hm
    rcases hm with rfl | rfl | rfl | rfl | rfl | rfl
    · exact kit_rt (by decide +kernel) c.t1
    · exact kit_rt (by decide +kernel) c.t2
    · exact kit_rt (by decide +kernel) c.t3
    · exact kit_rt (by decide +kernel) c.t4
    · exact kit_rt (by decide +kernel) c.t5
    · exact kit_rt (by decide +kernel) c.t6
  · have hn : n ∈ srcTypes := by simpa using hn
    simp only [srcTypes, List.mem_cons, List.not_mem_nil, or_false] at hn
    rcases hn with rfl | rfl | rfl | rfl | rfl | rfl | rfl
    · exact kit_tr c.ic c.ty c.u0
    · exact kit_tr c.ic c.ty c.u1
    · exact kit_tr c.ic c.ty c.u2
    · exact kit_tr c.ic c.ty c.u3
    · exact kit_tr c.ic c.ty c.u4
    · exact kit_tr c.ic c.ty c.u5
    · exact kit_tr c.ic c.ty c.u6
/-- what the top tells of an own exception class, one with no __init__ -/
structure ExcF (K : PySem.W.Frag) (C : Addr) : Prop where
  xk : PySem.W.keepIn K (.ref C) = true
  xs : PySem.W.subIn K (.ref C) (.type "BaseException") = some true
  xv : PySem.W.subIn K (.ref C) (.type "ValueError") = some true
  xt : PySem.W.typeIn K (.ref C) = some (.type "type")
  ic : PySem.W.isClsIn K C = true
  hg : PySem.W.findIn K (.ref C) "__getattribute__" = some (some (.builtin "BaseException.__getattribute__"))
  hk : PySem.W.findIn K (.ref C) "__getattr__" = some none
  hd : PySem.W.hasDictIn K C = true
  ha : PySem.W.findIn K (.ref C) "__class__" = some (some (.builtin "object.__class__"))
  hm : PySem.W.mroIn K C (.type "object") = some true
theorem ExcF.excC {C : Addr} (c : ExcF K C) (hn : PySem.W.specialIn K (.builtin "object.__class__") "__get__" = some (some (.builtin "getset_descriptor.__get__"))) (ht : PySem.W.takesIn K (.builtin "object.__class__") = some true) : ExcC K C :=
  ⟨c.hg, c.hk, c.xs, c.hd, c.ha, hn, ht, c.hm⟩
theorem ExcF.ve {C : Addr} (c : ExcF K C) : PySem.W.kitOne K (.ref C) (.type "ValueError") = some true := kit_rt (by decide +kernel) c.xv
theorem kit_sub {a C : Addr} {b : Bool} (h2 : PySem.W.isClsIn K C = true) (h3 : PySem.W.typeIn K (.ref C) = some (.type "type")) (self : PySem.W.subIn K (.ref C) (.ref C) = some true) (h4 : PySem.W.subIn K (.ref a) (.ref C) = some b) : PySem.W.kitOne K (.ref a) (.ref C) = some b :=
  kit_rr h2 h3 h4 fun e => by
    subst e
    rw [self] at h4
    cases h4
    rfl
theorem tab_at {α : Type} {mg : Str → Option Value} {tab : List (Str × α × Addr)} {c : Str} {l : α} (h : (tab.map fun p => (p.1, p.2.1)).lookup c = some l) : ∃ p ∈ tab, p.1 = c ∧ p.2.1 = l := by
  induction tab with
  | nil => cases h
  | cons p r ih =>
    rw [List.map_cons, List.lookup_cons] at h
    split at h
    · rename_i e
      cases h
      exact ⟨p, List.mem_cons_self, (eq_of_beq e).symm, rfl⟩
    · obtain ⟨q, m, h1, h2⟩ := ih h
      exact ⟨q, .tail _ m, h1, h2⟩
theorem ctab_of {mg : Str → Option Value} (L : List (Str × List Str × Addr)) (h1 : ∀ p ∈ L, mg p.1 = some (.ref p.2.2) ∧ CFact K p.2.2) (h2 : ∀ p ∈ L, ∀ q ∈ L, PySem.W.kitOne K (.ref p.2.2) (.ref q.2.2) = some (p.2.1.contains q.1)) : CTabOk K mg (L.map fun p => (p.1, p.2.1)) := by
  refine ⟨fun c l h => ?_, fun c d l l' C D a b e f => ?_⟩
  · obtain ⟨p, m, rfl, rfl⟩ := tab_at (mg := mg) h
    exact ⟨p.2.2, h1 p m⟩
  · obtain ⟨p, m, rfl, rfl⟩ := tab_at (mg := mg) a
    obtain ⟨q, m2, rfl, rfl⟩ := tab_at (mg := mg) b
    have e1 := (h1 p m).1.symm.trans e
    have e2 := (h1 q m2).1.symm.trans f
    cases e1
    cases e2
    exact h2 p m q m2
theorem etab_of {mg : Str → Option Value} (L : List (Str × List Str × Addr)) (h1 : ∀ p ∈ L, mg p.1 = some (.ref p.2.2) ∧ ExcC K p.2.2 ∧ PySem.W.kitOne K (.ref p.2.2) (.type "ValueError") = some true)
    (h2 : ∀ p ∈ L, ∀ q ∈ L, PySem.W.kitOne K (.ref p.2.2) (.ref q.2.2) = some (p.2.1.contains q.1) ∧ PySem.W.exmOne K (.ref p.2.2) (.ref q.2.2) = some (p.2.1.contains q.1)) : ETabOk K mg (L.map fun p => (p.1, p.2.1)) := by
  refine ⟨fun c l h => ?_, fun c d l l' C D a b e f => ?_, fun c l C a e => ?_⟩
  · obtain ⟨p, m, rfl, rfl⟩ := tab_at (mg := mg) h
    exact ⟨p.2.2, (h1 p m).1, (h1 p m).2.1⟩
  · obtain ⟨p, m, rfl, rfl⟩ := tab_at (mg := mg) a
    obtain ⟨q, m2, rfl, rfl⟩ := tab_at (mg := mg) b
    have e1 := (h1 p m).1.symm.trans e
    have e2 := (h1 q m2).1.symm.trans f
    cases e1
    cases e2
    exact h2 p m q m2
  · obtain ⟨p, m, rfl, rfl⟩ := tab_at (mg := mg) a
    have e1 := (h1 p m).1.symm.trans e
    cases e1
    exact (h1 p m).2.2
theorem ex_sub {a C : Addr} {b : Bool} (c : ExcF K C) (self : PySem.W.subIn K (.ref C) (.ref C) = some true) (h4 : PySem.W.subIn K (.ref a) (.ref C) = some b) : PySem.W.kitOne K (.ref a) (.ref C) = some b ∧ PySem.W.exmOne K (.ref a) (.ref C) = some b :=
  ⟨kit_sub c.ic c.xt self h4, exm_rr c.xs c.ic c.xt h4⟩
theorem fld_of {mg : Str → Option Value} {cl : Wp} {f : Str} (cs : List (Str × Addr)) (hk : ∀ c, cl.kc c → c ∈ cs.map (·.1)) (h : ∀ p ∈ cs, mg p.1 = some (.ref p.2) ∧ Cls K p.2 ∧ PySem.W.findIn K (.ref p.2) f = some none) : FldOk K mg cl f := by
  refine ⟨fun c C hc e => ?_⟩
  obtain ⟨p, m, rfl⟩ := List.mem_map.mp (hk c hc)
  obtain ⟨h1, h2, h3⟩ := h p m
  rw [h1] at e
  cases e
  exact ⟨h2, h3⟩
end
end GG
end

section
/-! G.Q: evaluation of combinators by rules; loops and comprehensions by induction. Plain Lean, no heap. -/
set_option linter.all false
set_option maxRecDepth 100000
namespace GG
open PySem L2
theorem nd {α : Type} {a b : α} (h : a = b) : a = b := h
section
variable {ρ ρ' : LEnv} {S S' : Store}
theorem eC_a {d : D} : eC d ρ S = .ok (d, S) := nd rfl
theorem eV_a {i : Nat} : eV i ρ S = match ρ[i]? with
  | some (.val d) => .ok (d, S)
  | _ => .stuck := nd rfl
theorem hE_a {e : EX} : hE e ρ S = (e ρ S).bind fun p => .ok (.d p.1, p.2) := nd rfl
theorem hV_a {i : Nat} : hV i ρ S = match ρ[i]? with
  | some (.val d) => .ok (.d d, S)
  | some (.own _) => .ok (.own i, S)
  | _ => .stuck := nd rfl
theorem eH_a {h : HX} {f : D → Option D} : eH h f ρ S = (h ρ S).bind fun p => (Out.opt ((deref ρ p.2 p.1).bind f)).bind fun d => .ok (d, p.2) := nd rfl
theorem eHB_a {h : HX} {b : EX} {f : D → D → Option D} : eHB h b f ρ S = (h ρ S).bind fun p => (b ρ p.2).bind fun q => (Out.opt ((deref ρ q.2 p.1).bind fun d => f d q.1)).bind fun d => .ok (d, q.2) := nd rfl
theorem eBin_a {f : D → D → Option D} {a b : EX} : eBin f a b ρ S = (a ρ S).bind fun p => (b ρ p.2).bind fun q => (Out.opt (f p.1 q.1)).bind fun d => .ok (d, q.2) := nd rfl
theorem eUn_a {f : D → Option D} {a : EX} : eUn f a ρ S = (a ρ S).bind fun p => (Out.opt (f p.1)).bind fun d => .ok (d, p.2) := nd rfl
theorem eAnd_a {a b : EX} : eAnd a b ρ S = (a ρ S).bind fun p => (Out.opt (bD p.1)).bind fun c => if c then b ρ p.2 else .ok (.bl false, p.2) := nd rfl
theorem eOr_a {a b : EX} : eOr a b ρ S = (a ρ S).bind fun p => (Out.opt (bD p.1)).bind fun c => if c then .ok (.bl true, p.2) else b ρ p.2 := nd rfl
theorem eNot_a {a : EX} : eNot a ρ S = (a ρ S).bind fun p => (Out.opt (bD p.1)).bind fun c => .ok (.bl (!c), p.2) := nd rfl
theorem eIf_a {t : BX} {a b : EX} : eIf t a b ρ S = (t ρ S).bind fun p => if p.1 then a ρ p.2 else b ρ p.2 := nd rfl
theorem eCmp_a {f : D → D → Option Bool} {a b : EX} : eCmp f a b ρ S = (a ρ S).bind fun p => (b ρ p.2).bind fun q => (Out.opt (f p.1 q.1)).bind fun d => .ok (.bl d, q.2) := nd rfl
theorem eChain_a {f g : D → D → Option Bool} {a b c : EX} : eChain f g a b c ρ S = (a ρ S).bind fun p => (b ρ p.2).bind fun q => (Out.opt (f p.1 q.1)).bind fun k =>
  if k then (c ρ q.2).bind fun r => (Out.opt (g q.1 r.1)).bind fun d => .ok (.bl d, r.2) else .ok (.bl false, q.2) := nd rfl
theorem aN_a : aN ρ S = .ok ([], S) := nd rfl
theorem aC_a {e : EX} {r : AX} : aC e r ρ S = (e ρ S).bind fun p => (r ρ p.2).bind fun q => .ok (p.1 :: q.1, q.2) := nd rfl
theorem eTup_a {a : AX} : eTup a ρ S = (a ρ S).bind fun p => if szOk p.1.length then .ok (.tup p.1, p.2) else .stuck := nd rfl
theorem eLst_a {a : AX} : eLst a ρ S = (a ρ S).bind fun p => if szOk p.1.length then .ok (.lst p.1, p.2) else .stuck := nd rfl
theorem eCall_a {f : Den} {a : AX} : eCall f a ρ S = (a ρ S).bind fun p => f p.1 p.2 := nd rfl
theorem eB_a {f : List D → Option D} {a : AX} : eB f a ρ S = (a ρ S).bind fun p => (Out.opt (f p.1)).bind fun d => .ok (d, p.2) := nd rfl
theorem eFz_a {n : MX} : eFz n ρ S = (n ρ S).bind fun p => .ok (p.1.frz, p.2) := nd rfl
theorem eAl_a {n : MX} : eAl n ρ S = (n ρ S).bind fun p => .ok (.ptr p.2.length, p.2 ++ [p.1]) := nd rfl
theorem mLst_a {t : AX} : mLst t ρ S = (t ρ S).bind fun p => if szOk p.1.length then .ok (.lst p.1, p.2) else .stuck := nd rfl
theorem mLc_a {i : IX} {n : NX} {t : BX} {e : EX} {vs : List Nat} : mLc i n t e vs ρ S = (i ρ S).bind fun p => (lcL n t e p.1 (wipeD ρ vs) p.2).bind fun r => .ok (.lst r.1, r.2) := nd rfl
theorem mLc2_a {i : IX} {n : NX} {t : BX} {i1 : IX} {n1 : NX} {t1 : BX} {e : EX} {vs vs1 : List Nat} : mLc2 i n t i1 n1 t1 e vs vs1 ρ S = (i ρ S).bind fun p => (lc2L n t i1 n1 t1 e vs1 p.1 (wipeD ρ vs) p.2).calm.bind (lcEnd []) := nd rfl
theorem mDc_a {i : IX} {n : NX} {t : BX} {k e : EX} {vs : List Nat} : mDc i n t k e vs ρ S = (i ρ S).bind fun p => (dcL n t k e p.1 [] (wipeD ρ vs) p.2).bind fun r => .ok (dicP r.1, r.2) := nd rfl
theorem mMk_a {c : Str} {den : DenO} {t : AX} : mMk c den t ρ S = (t ρ S).bind fun p => den (.ins c [] []) p.1 p.2 := nd rfl
theorem mDic0_a : mDic0 ρ S = .ok (.dic [] [], S) := nd rfl
theorem mList_a {h : HX} : mList h ρ S = (h ρ S).bind fun p => (Out.opt ((deref ρ p.2 p.1).bind seqD)).bind fun xs => .ok (.lst xs, p.2) := nd rfl
theorem eMeth_a {m : Str} {tab : GTab} {o : EX} {t : AX} : eMeth m tab o t ρ S = (o ρ S).bind fun p => (Out.opt (methAt m tab p.2 p.1)).bind fun den => (t ρ p.2).bind fun q => den (p.1 :: q.1) q.2 := nd rfl
theorem eIsi1_a {tab : CTab} {t : IsT} {a : EX} : eIsi1 tab t a ρ S = (a ρ S).bind fun p => (Out.opt ((typN p.2 p.1).bind fun u => isOne tab u t)).bind fun b => .ok (.bl b, p.2) := nd rfl
theorem eIsi_a {tab : CTab} {ts : List IsT} {a : EX} : eIsi tab ts a ρ S = (a ρ S).bind fun p => (Out.opt ((typN p.2 p.1).bind fun t => isAny tab t ts)).bind fun b => .ok (.bl b, p.2) := nd rfl
theorem eInH_a {neg : Bool} {a : EX} {h : HX} : eInH neg a h ρ S = (a ρ S).bind fun p => (h ρ p.2).bind fun q => (Out.opt ((deref ρ q.2 q.1).bind (inD p.1))).bind fun b => .ok (.bl (if neg then !b else b), q.2) := nd rfl
theorem eSl_a {h : HX} {lo hi : Option EX} : eSl h lo hi ρ S = (h ρ S).bind fun p => (oX lo ρ p.2).bind fun l => (oX hi ρ l.2).bind fun u => (Out.opt ((deref ρ u.2 p.1).bind (sliceD l.1 u.1))).bind fun d => .ok (d, u.2) := nd rfl
theorem oX_none : oX none ρ S = .ok (none, S) := nd rfl
theorem oX_some {e : EX} : oX (some e) ρ S = (e ρ S).bind fun q => match q.1 with
    | .int i => Out.ok (some i, q.2)
    | _ => Out.stuck := nd rfl
theorem bV_a {e : EX} : bV e ρ S = (e ρ S).bind fun p => (Out.opt (bD p.1)).bind fun c => .ok (c, p.2) := nd rfl
theorem bT_a {e : EX} : bT e ρ S = (e ρ S).bind fun p => (Out.opt (truD p.1)).bind fun c => .ok (c, p.2) := nd rfl
theorem bAnd_a {a b : BX} : bAnd a b ρ S = (a ρ S).bind fun p => if p.1 then b ρ p.2 else .ok (false, p.2) := nd rfl
theorem bOr_a {a b : BX} : bOr a b ρ S = (a ρ S).bind fun p => if p.1 then .ok (true, p.2) else b ρ p.2 := nd rfl
theorem bNot_a {a : BX} : bNot a ρ S = (a ρ S).bind fun p => .ok (!p.1, p.2) := nd rfl
theorem bTrue_a : bTrue ρ S = .ok (true, S) := nd rfl
theorem iS_a {e : EX} : iS e ρ S = (e ρ S).bind fun p => (Out.opt (walkD p.1)).bind fun xs => .ok (xs, p.2) := nd rfl
theorem iEn_a {e : EX} : iEn e ρ S = (e ρ S).bind fun p => (Out.opt (seqD p.1)).bind fun xs => .ok (xs.zipIdx.map fun q => .tup [.int (q.2 : Nat), q.1], p.2) := nd rfl
theorem iZ_a {a b : EX} : iZ a b ρ S = (a ρ S).bind fun p => (b ρ p.2).bind fun q => (Out.opt (seqD p.1)).bind fun xs => (Out.opt (seqD q.1)).bind fun ys => .ok ((xs.zip ys).map fun q => .tup [q.1, q.2], q.2) := nd rfl
theorem iR1_a {a : AX} : iR1 a ρ S = (a ρ S).bind fun p => (Out.opt (rngD1 p.1)).bind fun xs => .ok (xs, p.2) := nd rfl
theorem iR2_a {a : AX} : iR2 a ρ S = (a ρ S).bind fun p => (Out.opt (rngD2 p.1)).bind fun xs => .ok (xs, p.2) := nd rfl
theorem iR3_a {a : AX} : iR3 a ρ S = (a ρ S).bind fun p => (Out.opt (rngD3 p.1)).bind fun xs => .ok (xs, p.2) := nd rfl
theorem sSeq_a {a b : SX} : sSeq a b ρ S = (a ρ S).seq b := nd rfl
theorem sNil_a : sNil ρ S = .nx ρ S := nd rfl
theorem sExpr_a {e : EX} : sExpr e ρ S = (e ρ S).st ρ fun _ S => .nx ρ S := nd rfl
theorem sRet_a {e : EX} : sRet e ρ S = (e ρ S).st ρ fun d S => .rt d S := nd rfl
theorem sRetN_a : sRetN ρ S = .rt .non S := nd rfl
theorem sIf_a {c : BX} {a b : SX} : sIf c a b ρ S = (c ρ S).st ρ fun k S => if k then a ρ S else b ρ S := nd rfl
theorem sBrk_a : sBrk ρ S = .bk ρ S := nd rfl
theorem sCnt_a : sCnt ρ S = .ct ρ S := nd rfl
theorem sSet_a {i : Nat} {e : EX} : sSet i e ρ S = (e ρ S).st ρ fun d S => .nx (ρ.set i (.val d)) S := nd rfl
theorem sOwn_a {i : Nat} {n : MX} : sOwn i n ρ S = (n ρ S).st ρ fun mo S => .nx (ρ.set i (.own mo)) S := nd rfl
theorem sFz_a {i : Nat} {k : SX} : sFz i k ρ S = k (frzAt i ρ) S := nd rfl
theorem sFor_a {it : IX} {n : NX} {body : SX} : sFor it n body ρ S = (it ρ S).st ρ fun items S => forL n body items ρ S := nd rfl
theorem sMt_a {h : HX} {a : AX} {f : List D → MO → Option MO} : sMt h a f ρ S = (h ρ S).st ρ fun hd S => optS ((curH ρ S hd).bind MO.isL) fun _ => (a ρ S).st ρ fun ds S => optS ((curH ρ S hd).bind (f ds)) fun mo => optS (putO ρ S mo hd) fun p => .nx p.1 p.2 := nd rfl
theorem sFld_a {h : HX} {f : Str} {e : EX} : sFld h f e ρ S = (e ρ S).st ρ fun d S => (h ρ S).st ρ fun hd S => optS ((curH ρ S hd).bind (setFD f d)) fun mo => optS (putO ρ S mo hd) fun p => .nx p.1 p.2 := nd rfl
theorem sAsg_a {e : EX} {t : TX} : sAsg e t ρ S = (e ρ S).st ρ fun d S => optS (t d ρ S) fun p => .nx p.1 p.2 := nd rfl
theorem sRaise_a {c : Str} : sRaise c ρ S = .ex c [] ρ S := nd rfl
theorem sTry_a {tab : ETab} {cH : Str} {i : Nat} {body : SX} {su : List Str → SX} : sTry tab cH i body su ρ S = catchX tab cH i su (body ρ S) := nd rfl
theorem sMethO_a {i : Nat} {m : Str} {tab : OTab} {t : AX} : sMethO i m tab t ρ S = optS (ownAt m tab ρ i) fun q => (t ρ S).st ρ fun ds S => (q.2 q.1 ds S).calm.st ρ fun mo S => .nx (ρ.set i (.own mo)) S := nd rfl
theorem bok {α β : Type} (a : α) (f : α → Out β) : (Out.ok a).bind f = f a := nd rfl
theorem bex {α β : Type} (c : Str) (fs : List (Str × D)) (S : Store) (f : α → Out β) : (Out.exc c fs S).bind f = .exc c fs S := nd rfl
theorem oso {α : Type} (a : α) : Out.opt (some a) = .ok a := nd rfl
theorem sok {α : Type} (ρ : LEnv) (p : α × Store) (k : α → Store → SOut) : (Out.ok p).st ρ k = k p.1 p.2 := nd rfl
theorem sxc {α : Type} (ρ : LEnv) (c : Str) (fs : List (Str × D)) (S : Store) (k : α → Store → SOut) : (Out.exc c fs S).st ρ k = .ex c fs ρ S := nd rfl
theorem cok {α : Type} (a : α) : (Out.ok a).calm = .ok a := nd rfl
theorem qnx (ρ : LEnv) (S : Store) (k : SX) : (SOut.nx ρ S).seq k = k ρ S := nd rfl
theorem qrt (d : D) (S : Store) (k : SX) : (SOut.rt d S).seq k = .rt d S := nd rfl
theorem qbk (ρ : LEnv) (S : Store) (k : SX) : (SOut.bk ρ S).seq k = .bk ρ S := nd rfl
theorem qct (ρ : LEnv) (S : Store) (k : SX) : (SOut.ct ρ S).seq k = .ct ρ S := nd rfl
theorem qex (c : Str) (fs : List (Str × D)) (ρ : LEnv) (S : Store) (k : SX) : (SOut.ex c fs ρ S).seq k = .ex c fs ρ S := nd rfl
theorem lnx (ρ : LEnv) (S : Store) (k : SX) : (SOut.nx ρ S).loop k = k ρ S := nd rfl
theorem lct (ρ : LEnv) (S : Store) (k : SX) : (SOut.ct ρ S).loop k = k ρ S := nd rfl
theorem lbk (ρ : LEnv) (S : Store) (k : SX) : (SOut.bk ρ S).loop k = .nx ρ S := nd rfl
theorem lrt (d : D) (S : Store) (k : SX) : (SOut.rt d S).loop k = .rt d S := nd rfl
theorem lxc (c : Str) (fs : List (Str × D)) (ρ : LEnv) (S : Store) (k : SX) : (SOut.ex c fs ρ S).loop k = .ex c fs ρ S := nd rfl
theorem oss {α : Type} (x : α) (k : α → SOut) : optS (some x) k = k x := nd rfl
theorem okk {α : Type} (a : α) : okO (.ok a) = some a := nd rfl
theorem obs {α β : Type} (a : α) (f : α → Option β) : (some a).bind f = f a := nd rfl
theorem oms {α β : Type} (a : α) (f : α → β) : (some a).map f = some (f a) := nd rfl
theorem add_i (i j : Int) : addD (.int i) (.int j) = some (.int (i + j)) := nd rfl
theorem add_s {x y : Str} (h : x.length + y.length ≤ 16777216) : addD (.str x) (.str y) = some (.str (x ++ y)) := if_pos h
theorem add_t {x y : List D} (h : x.length + y.length ≤ 16777216) : addD (.tup x) (.tup y) = some (.tup (x ++ y)) := if_pos h
theorem add_l {x y : List D} (h : x.length + y.length ≤ 16777216) : addD (.lst x) (.lst y) = some (.lst (x ++ y)) := if_pos h
theorem sub_i (i j : Int) : subD (.int i) (.int j) = some (.int (i - j)) := nd rfl
theorem mul_i {i j : Int} (h : mulOk i j = true) : mulD (.int i) (.int j) = some (.int (i * j)) := if_pos h
theorem fdiv_i {i j : Int} (h : divOk j = true) : fdivD (.int i) (.int j) = some (.int (i / j)) := if_pos h
theorem mod_i {i j : Int} (h : 0 < j) : modD (.int i) (.int j) = some (.int (i % j)) := if_pos h
theorem neg_i (i : Int) : negD (.int i) = some (.int (-i)) := nd rfl
theorem lt_i (i j : Int) : ltD (.int i) (.int j) = some (decide (i < j)) := nd rfl
theorem le_i (i j : Int) : leD (.int i) (.int j) = some (decide (i ≤ j)) := nd rfl
theorem gt_i (i j : Int) : gtD (.int i) (.int j) = some (decide (j < i)) := nd rfl
theorem ge_i (i j : Int) : geD (.int i) (.int j) = some (decide (j ≤ i)) := nd rfl
theorem len_l (xs : List D) : lenD (.lst xs) = some (.int xs.length) := nd rfl
theorem len_t (xs : List D) : lenD (.tup xs) = some (.int xs.length) := nd rfl
theorem len_f (xs : List D) : lenD (.frl xs) = some (.int xs.length) := nd rfl
theorem len_k (xs : List D) : lenD (.ktp xs) = some (.int xs.length) := nd rfl
theorem len_s {z : Str} (h : z.length ≤ 16777216) : lenD (.str z) = some (.int z.length) := if_pos h
theorem len_d (ks : List KK) (vs : List D) : lenD (.dic ks vs) = some (.int ks.length) := nd rfl
theorem idx_l (xs : List D) (i : Int) : idxD (.lst xs) (.int i) = atI xs i := nd rfl
theorem idx_t (xs : List D) (i : Int) : idxD (.tup xs) (.int i) = atI xs i := nd rfl
theorem idx_f (xs : List D) (i : Int) : idxD (.frl xs) (.int i) = atI xs i := nd rfl
theorem walk_l (xs : List D) : walkD (.lst xs) = some xs := nd rfl
theorem walk_t (xs : List D) : walkD (.tup xs) = some xs := nd rfl
theorem walk_s {z : Str} (h : z.length ≤ 16777216) : walkD (.str z) = some (charsD z) := if_pos h
theorem walk_f (xs : List D) : walkD (.frl xs) = some xs := nd rfl
theorem seq_l (xs : List D) : seqD (.lst xs) = some xs := nd rfl
theorem seq_t (xs : List D) : seqD (.tup xs) = some xs := nd rfl
theorem tuple_l (xs : List D) : tupleD (.lst xs) = some (.tup xs) := nd rfl
theorem tuple_t (xs : List D) : tupleD (.tup xs) = some (.tup xs) := nd rfl
theorem int_i (i : Int) : intD (.int i) = some (.int i) := nd rfl
theorem bD_b (b : Bool) : bD (.bl b) = some b := nd rfl
theorem tru_n : truD .non = some false := nd rfl
theorem tru_b (b : Bool) : truD (.bl b) = some b := nd rfl
theorem tru_l (xs : List D) : truD (.lst xs) = some (!xs.isEmpty) := nd rfl
theorem tru_t (xs : List D) : truD (.tup xs) = some (!xs.isEmpty) := nd rfl
theorem dr_n {ρ : LEnv} {S : Store} : deref ρ S (.d .non) = some .non := nd rfl
theorem dr_b {ρ : LEnv} {S : Store} {b : Bool} : deref ρ S (.d (.bl b)) = some (.bl b) := nd rfl
theorem dr_i {ρ : LEnv} {S : Store} {i : Int} : deref ρ S (.d (.int i)) = some (.int i) := nd rfl
theorem dr_s {ρ : LEnv} {S : Store} {z : Str} : deref ρ S (.d (.str z)) = some (.str z) := nd rfl
theorem dr_l {ρ : LEnv} {S : Store} {xs : List D} : deref ρ S (.d (.lst xs)) = some (.lst xs) := nd rfl
theorem dr_t {ρ : LEnv} {S : Store} {xs : List D} : deref ρ S (.d (.tup xs)) = some (.tup xs) := nd rfl
theorem dr_k {ρ : LEnv} {S : Store} {xs : List D} : deref ρ S (.d (.ktp xs)) = some (.ktp xs) := nd rfl
theorem dr_f {ρ : LEnv} {S : Store} {xs : List D} : deref ρ S (.d (.frl xs)) = some (.frl xs) := nd rfl
theorem dr_d {ρ : LEnv} {S : Store} {ks : List KK} {xs : List D} : deref ρ S (.d (.dic ks xs)) = some (.dic ks xs) := nd rfl
theorem dr_o {ρ : LEnv} {S : Store} {c : Str} {fs : List Str} {xs : List D} : deref ρ S (.d (.obj c fs xs)) = some (.obj c fs xs) := nd rfl
theorem dr_p {ρ : LEnv} {S : Store} {n : Nat} : deref ρ S (.d (.ptr n)) = (S[n]?).map MO.now := nd rfl
theorem dr_w {ρ : LEnv} {S : Store} {i : Nat} : deref ρ S (.own i) = match ρ[i]? with
    | some (.own o) => some o.now
    | _ => none := nd rfl
theorem now_l (xs : List D) : MO.now (.lst xs) = .lst xs := nd rfl
theorem now_d (ks : List KK) (xs : List D) : MO.now (.dic ks xs) = .dic ks xs := nd rfl
theorem now_o (c : Str) (fs : List Str) (xs : List D) : MO.now (.ins c fs xs) = .obj c fs xs := nd rfl
theorem frz_l (xs : List D) : MO.frz (.lst xs) = .lst xs := nd rfl
theorem frz_d (ks : List KK) (xs : List D) : MO.frz (.dic ks xs) = .dic ks xs := nd rfl
theorem frz_o (c : Str) (fs : List Str) (xs : List D) : MO.frz (.ins c fs xs) = .obj c fs xs := nd rfl
theorem isL_l (xs : List D) : MO.isL (.lst xs) = some () := nd rfl
theorem cu_p {ρ : LEnv} {S : Store} {n : Nat} : curH ρ S (.d (.ptr n)) = S[n]? := nd rfl
theorem cu_w {ρ : LEnv} {S : Store} {i : Nat} : curH ρ S (.own i) = match ρ[i]? with
    | some (Slot.own o) => some o
    | _ => none := nd rfl
theorem pu_p {ρ : LEnv} {S : Store} {n : Nat} {mo : MO} : putO ρ S mo (.d (.ptr n)) = some (ρ, S.set n mo) := nd rfl
theorem pu_w {ρ : LEnv} {S : Store} {i : Nat} {mo : MO} : putO ρ S mo (.own i) = some (ρ.set i (.own mo), S) := nd rfl
theorem gN_a {i : Nat} {d : D} {ρ : LEnv} : gN i d ρ = some (ρ.set i (.val d)) := nd rfl
theorem gT_t {ns : List NX} {ds : List D} {ρ : LEnv} : gT ns (.tup ds) ρ = gAll ns ds ρ := nd rfl
theorem gAll_n {ρ : LEnv} : gAll [] [] ρ = some ρ := nd rfl
theorem gAll_c {n : NX} {ns : List NX} {d : D} {ds : List D} {ρ : LEnv} : gAll (n :: ns) (d :: ds) ρ = (n d ρ).bind (gAll ns ds) := nd rfl
theorem app_l {xs : List D} {d : D} (h : xs.length < 16777216) : appD [d] (.lst xs) = some (.lst (xs ++ [d])) := if_pos h
theorem ext_l {xs ys : List D} (h : xs.length + ys.length ≤ 16777216) : extD [.lst ys] (.lst xs) = some (.lst (xs ++ ys)) := if_pos h
theorem szOk_t {n : Nat} (h : n ≤ 16777216) : szOk n = true := decide_eq_true h
theorem szOk_1 : szOk 1 = true := by decide +kernel
theorem szOk_0 : szOk 0 = true := by decide +kernel
theorem szOk_2 : szOk 2 = true := by decide +kernel
theorem szOk_3 : szOk 3 = true := by decide +kernel
theorem szOk_4 : szOk 4 = true := by decide +kernel
theorem ite_and {k d : Bool} {S : Store} : (if k = true then (Out.ok (D.bl d, S) : Out (D × Store)) else Out.ok (D.bl false, S)) = Out.ok (D.bl (k && d), S) := by cases k <;> rfl
theorem ite_or {k d : Bool} {S : Store} : (if k = true then (Out.ok (D.bl true, S) : Out (D × Store)) else Out.ok (D.bl d, S)) = Out.ok (D.bl (k || d), S) := by cases k <;> rfl
theorem ite_andB {k d : Bool} {S : Store} : (if k = true then (Out.ok (d, S) : Out (Bool × Store)) else Out.ok (false, S)) = Out.ok (k && d, S) := by cases k <;> rfl
theorem ite_orB {k d : Bool} {S : Store} : (if k = true then (Out.ok (true, S) : Out (Bool × Store)) else Out.ok (d, S)) = Out.ok (k || d, S) := by cases k <;> rfl
theorem atI_0 {α : Type} (a : α) (xs : List α) : atI (a :: xs) 0 = some a := by
  unfold atI ixN
  rw [if_pos (Int.le_refl 0), if_pos (by rw [List.length_cons]; omega)]
  rfl
theorem atI_1 {α : Type} (a b : α) (xs : List α) : atI (a :: b :: xs) 1 = some b := by
  unfold atI ixN
  rw [if_pos (by decide), if_pos (by rw [List.length_cons, List.length_cons]; omega)]
  rfl
theorem atI_2 {α : Type} (a b c : α) (xs : List α) : atI (a :: b :: c :: xs) 2 = some c := by
  unfold atI ixN
  rw [if_pos (by decide), if_pos (by rw [List.length_cons, List.length_cons, List.length_cons]; omega)]
  rfl
theorem runD_a {n m : Nat} {body : SX} {ds : List D} (h : ds.length = n) : runD n m body ds S = endD (body (startD m ds) S) := by
  unfold runD; rw [if_pos h]
theorem runO_a {n m : Nat} {body : SX} {mo : MO} {ds : List D} (h : ds.length = n) : runO n m body mo ds S = endO (body (startO m mo ds) S) := by
  unfold runO; rw [if_pos h]
theorem endD_rt (d : D) (S : Store) : endD (.rt d S) = .ok (d, S) := rfl
theorem endD_nx (ρ : LEnv) (S : Store) : endD (.nx ρ S) = .ok (.non, S) := rfl
theorem endD_ex (c : Str) (fs : List (Str × D)) (ρ : LEnv) (S : Store) : endD (.ex c fs ρ S) = .exc c fs S := rfl
theorem deref_val {x : D} (h : ∀ n, x ≠ .ptr n) : deref ρ S (.d x) = some x := by
  cases x <;> first | rfl | exact absurd rfl (h _)
theorem seq_nx {a b : SX} (h : a ρ S = .nx ρ' S') : sSeq a b ρ S = b ρ' S' := by
  show (a ρ S).seq b = _
  rw [h]
  rfl
theorem seq_rt {a b : SX} {d : D} (h : a ρ S = .rt d S') : sSeq a b ρ S = .rt d S' := by
  show (a ρ S).seq b = _
  rw [h]
  rfl
theorem for_run {it : IX} {n : NX} {body : SX} {items : List D} (h : it ρ S = .ok (items, S')) : sFor it n body ρ S = forL n body items ρ S' := by
  show (it ρ S).st ρ _ = _
  rw [h]
  rfl

/-! ### loops -/
theorem forL_nil {n : NX} {body : SX} : forL n body [] ρ S = .nx ρ S := rfl
theorem forL_cons {n : NX} {body : SX} {d : D} {ds : List D} (h : n d ρ = some ρ') : forL n body (d :: ds) ρ S = (body ρ' S).loop (forL n body ds) := by
  show (match n d ρ with | some ρ' => (body ρ' S).loop (forL n body ds) | none => .stuck) = _
  rw [h]
/-- a loop by an invariant that counts -/
theorem forL_inv {α : Type} {enc : α → D} {n : NX} {body : SX} (P : Nat → LEnv → Store → Prop) : ∀ (xs : List α) (k : Nat) (ρ : LEnv) (S : Store), P k ρ S →
    (∀ i x ρ S, xs[i]? = some x → P (k + i) ρ S → ∃ ρ1 ρ2 S2, n (enc x) ρ = some ρ1 ∧ (body ρ1 S = .nx ρ2 S2 ∨ body ρ1 S = .ct ρ2 S2) ∧ P (k + i + 1) ρ2 S2) →
    ∃ ρ' S', forL n body (xs.map enc) ρ S = .nx ρ' S' ∧ P (k + xs.length) ρ' S'
  | [], k, ρ, S, h, _ => ⟨ρ, S, rfl, h⟩
  | x :: xs, k, ρ, S, h, st => by
    obtain ⟨ρ1, ρ2, S2, h1, h2, h3⟩ := st 0 x ρ S rfl h
    obtain ⟨ρ', S', e, q⟩ := forL_inv P xs (k + 1) ρ2 S2 h3 fun i y ρ S e p => by
      have := st (i + 1) y ρ S e (by rw [show k + (i + 1) = k + 1 + i from by omega]; exact p)
      rw [show k + (i + 1) + 1 = k + 1 + i + 1 from by omega] at this
      exact this
    refine ⟨ρ', S', ?_, by rw [List.length_cons, show k + (xs.length + 1) = k + 1 + xs.length from by omega]; exact q⟩
    rw [List.map_cons, forL_cons h1]
    rcases h2 with h2 | h2 <;> (rw [h2]; exact e)
/-- a loop that folds -/
theorem forL_fold {α σ : Type} {enc : α → D} {n : NX} {body : SX} (R : σ → LEnv → Store → Prop) (f : σ → α → σ) : ∀ (xs : List α) (s : σ) (ρ : LEnv) (S : Store), R s ρ S →
    (∀ s x ρ S, x ∈ xs → R s ρ S → ∃ ρ1 ρ2 S2, n (enc x) ρ = some ρ1 ∧ (body ρ1 S = .nx ρ2 S2 ∨ body ρ1 S = .ct ρ2 S2) ∧ R (f s x) ρ2 S2) →
    ∃ ρ' S', forL n body (xs.map enc) ρ S = .nx ρ' S' ∧ R (xs.foldl f s) ρ' S'
  | [], s, ρ, S, h, _ => ⟨ρ, S, rfl, h⟩
  | x :: xs, s, ρ, S, h, st => by
    obtain ⟨ρ1, ρ2, S2, h1, h2, h3⟩ := st s x ρ S List.mem_cons_self h
    obtain ⟨ρ', S', e, q⟩ := forL_fold R f xs (f s x) ρ2 S2 h3 fun s y ρ S m p => st s y ρ S (.tail _ m) p
    refine ⟨ρ', S', ?_, q⟩
    rw [List.map_cons, forL_cons h1]
    rcases h2 with h2 | h2 <;> (rw [h2]; exact e)
/-- a loop that may end early, nothing changing -/
theorem forL_find {α : Type} {enc : α → D} {n : NX} {body : SX} {o : α → SOut} (R : LEnv → Prop) (b : α → Bool) : ∀ (xs : List α) (ρ : LEnv), R ρ →
    (∀ x ρ, x ∈ xs → R ρ → ∃ ρ1, n (enc x) ρ = some ρ1 ∧ (b x = false → ∃ ρ2, body ρ1 S = .nx ρ2 S ∧ R ρ2) ∧ (b x = true → ∃ d, body ρ1 S = .rt d S ∧ o x = .rt d S)) →
    (xs.find? b = none → ∃ ρ', forL n body (xs.map enc) ρ S = .nx ρ' S ∧ R ρ') ∧ (∀ x, xs.find? b = some x → forL n body (xs.map enc) ρ S = o x)
  | [], ρ, h, _ => ⟨fun _ => ⟨ρ, rfl, h⟩, fun x e => by cases e⟩
  | x :: xs, ρ, h, st => by
    obtain ⟨ρ1, h1, h2, h3⟩ := st x ρ List.mem_cons_self h
    rw [List.map_cons, forL_cons h1, List.find?_cons]
    cases hb : b x with
    | true =>
      obtain ⟨d, e1, e2⟩ := h3 hb
      refine ⟨fun e => by simp at e, fun y e => ?_⟩
      have e : x = y := by simpa using e
      rw [← e, e1, e2]
      rfl
    | false =>
      obtain ⟨ρ2, e1, e2⟩ := h2 hb
      rw [e1]
      exact forL_find R b xs ρ2 e2 fun y ρ m p => st y ρ (.tail _ m) p
theorem forL_foldD {σ : Type} {n : NX} {body : SX} (R : σ → LEnv → Store → Prop) (f : σ → D → σ) (xs : List D) (s : σ) (ρ : LEnv) (S : Store) (h0 : R s ρ S)
    (h : ∀ s x ρ S, x ∈ xs → R s ρ S → ∃ ρ1 ρ2 S2, n x ρ = some ρ1 ∧ (body ρ1 S = .nx ρ2 S2 ∨ body ρ1 S = .ct ρ2 S2) ∧ R (f s x) ρ2 S2) :
    ∃ ρ' S', forL n body xs ρ S = .nx ρ' S' ∧ R (xs.foldl f s) ρ' S' := by
  have := forL_fold (enc := id) R f xs s ρ S h0 h
  rw [List.map_id] at this
  exact this
theorem forL_findD {n : NX} {body : SX} {o : D → SOut} (R : LEnv → Prop) (b : D → Bool) (xs : List D) (ρ : LEnv) (h0 : R ρ)
    (h : ∀ x ρ, x ∈ xs → R ρ → ∃ ρ1, n x ρ = some ρ1 ∧ (b x = false → ∃ ρ2, body ρ1 S = .nx ρ2 S ∧ R ρ2) ∧ (b x = true → ∃ d, body ρ1 S = .rt d S ∧ o x = .rt d S)) :
    (xs.find? b = none → ∃ ρ', forL n body xs ρ S = .nx ρ' S ∧ R ρ') ∧ (∀ x, xs.find? b = some x → forL n body xs ρ S = o x) := by
  have := forL_find (S := S) (enc := id) (o := o) R b xs ρ h0 h
  rw [List.map_id] at this
  exact this
/-- one turn of a while loop -/
theorem while_t {c : BX} {body : SX} (h : c ρ S = .ok (true, S')) : sWhile c body ρ S = (body ρ S').loop (sWhile c body) := by
  rw [sWhile_eq, h]
  rfl
theorem while_f {c : BX} {body : SX} (h : c ρ S = .ok (false, S')) : sWhile c body ρ S = .nx ρ S' := by
  rw [sWhile_eq, h]
  rfl

/-! ### comprehensions -/
theorem lcL_cons {n : NX} {t : BX} {e : EX} {d : D} {ds : List D} (h : n d ρ = some ρ') : lcL n t e (d :: ds) ρ S = (t ρ' S).calm.bind fun b => if b.1 then (e ρ' b.2).calm.bind fun y => (lcL n t e ds ρ y.2).bind fun r => .ok (y.1 :: r.1, r.2) else lcL n t e ds ρ b.2 := by
  unfold lcL
  rw [h]
  cases ds <;> rfl
/-- a comprehension that leaves the store -/
theorem lcL_if {α : Type} {enc : α → D} {n : NX} {t : BX} {e : EX} {f : α → D} {b : α → Bool} : ∀ {xs : List α}, (∀ x ∈ xs, ∃ ρ', n (enc x) ρ = some ρ' ∧ t ρ' S = .ok (b x, S) ∧ (b x = true → e ρ' S = .ok (f x, S))) → lcL n t e (xs.map enc) ρ S = .ok ((xs.filter b).map f, S)
  | [], _ => rfl
  | x :: xs, h => by
    obtain ⟨ρ', h1, h2, h3⟩ := h x List.mem_cons_self
    have ih := lcL_if (xs := xs) fun x m => h x (.tail _ m)
    rw [List.map_cons, lcL_cons h1]
    simp only [h2, Out.calm_ok, Out.bind_ok]
    cases hb : b x with
    | false =>
      simp only [Bool.false_eq_true, if_false, List.filter_cons, hb]
      exact ih
    | true =>
      simp only [if_true, h3 hb, Out.calm_ok, Out.bind_ok, ih, List.filter_cons, hb, List.map_cons]
theorem lcL_map {α : Type} {enc : α → D} {n : NX} {e : EX} {f : α → D} {xs : List α} (h : ∀ x ∈ xs, ∃ ρ', n (enc x) ρ = some ρ' ∧ e ρ' S = .ok (f x, S)) : lcL n bTrue e (xs.map enc) ρ S = .ok (xs.map f, S) := by
  rw [lcL_if (b := fun _ => true) (f := f) fun x m => ?_]
  · rw [List.filter_eq_self.mpr fun _ _ => rfl]
  · obtain ⟨ρ', h1, h2⟩ := h x m
    exact ⟨ρ', h1, rfl, fun _ => h2⟩
theorem lcL_ifD {n : NX} {t : BX} {e : EX} {f : D → D} {b : D → Bool} {xs : List D} (h : ∀ x ∈ xs, ∃ ρ', n x ρ = some ρ' ∧ t ρ' S = .ok (b x, S) ∧ (b x = true → e ρ' S = .ok (f x, S))) : lcL n t e xs ρ S = .ok ((xs.filter b).map f, S) := by
  have := lcL_if (enc := id) h
  rw [List.map_id] at this
  exact this
theorem lcL_mapD {n : NX} {e : EX} {f : D → D} {xs : List D} (h : ∀ x ∈ xs, ∃ ρ', n x ρ = some ρ' ∧ e ρ' S = .ok (f x, S)) : lcL n bTrue e xs ρ S = .ok (xs.map f, S) := by
  have := lcL_map (enc := id) h
  rw [List.map_id] at this
  exact this
/-- a comprehension that changes the store, by an invariant -/
theorem lcL_inv {α : Type} {enc : α → D} {n : NX} {e : EX} (P : Nat → List D → Store → Prop) : ∀ (xs : List α) (k : Nat) (acc : List D) (S : Store), P k acc S →
    (∀ i x acc S, xs[i]? = some x → P (k + i) acc S → ∃ ρ1 d S2, n (enc x) ρ = some ρ1 ∧ e ρ1 S = .ok (d, S2) ∧ P (k + i + 1) (acc ++ [d]) S2) →
    ∃ ds S', lcL n bTrue e (xs.map enc) ρ S = .ok (ds, S') ∧ P (k + xs.length) (acc ++ ds) S'
  | [], k, acc, S, h, _ => ⟨[], S, rfl, by rw [List.append_nil]; exact h⟩
  | x :: xs, k, acc, S, h, st => by
    obtain ⟨ρ1, d, S2, h1, h2, h3⟩ := st 0 x acc S rfl h
    obtain ⟨ds, S', e, q⟩ := lcL_inv P xs (k + 1) (acc ++ [d]) S2 h3 fun i y acc S e p => by
      have := st (i + 1) y acc S e (by rw [show k + (i + 1) = k + 1 + i from by omega]; exact p)
      rw [show k + (i + 1) + 1 = k + 1 + i + 1 from by omega] at this
      exact this
    refine ⟨d :: ds, S', ?_, by rw [List.length_cons, show k + (xs.length + 1) = k + 1 + xs.length from by omega, show acc ++ d :: ds = acc ++ [d] ++ ds from by simp]; exact q⟩
    rw [List.map_cons, lcL_cons h1]
    simp only [bTrue_a, Out.calm_ok, Out.bind_ok, if_true, h2, e]
/-- .. that maps, the store going along -/
theorem lcL_st {α σ : Type} {enc : α → D} {n : NX} {e : EX} (R : σ → Store → Prop) (f : σ → α → D × σ) : ∀ (xs : List α) (s : σ) (S : Store), R s S →
    (∀ s x S, x ∈ xs → R s S → ∃ ρ1 S2, n (enc x) ρ = some ρ1 ∧ e ρ1 S = .ok ((f s x).1, S2) ∧ R (f s x).2 S2) →
    ∃ S', lcL n bTrue e (xs.map enc) ρ S = .ok ((xs.foldl (fun (p : List D × σ) x => (p.1 ++ [(f p.2 x).1], (f p.2 x).2)) ([], s)).1, S') ∧ R (xs.foldl (fun (p : List D × σ) x => (p.1 ++ [(f p.2 x).1], (f p.2 x).2)) ([], s)).2 S' := by
  have gen : ∀ (xs : List α) (acc : List D) (s : σ), xs.foldl (fun (p : List D × σ) x => (p.1 ++ [(f p.2 x).1], (f p.2 x).2)) (acc, s) = (acc ++ (xs.foldl (fun (p : List D × σ) x => (p.1 ++ [(f p.2 x).1], (f p.2 x).2)) ([], s)).1, (xs.foldl (fun (p : List D × σ) x => (p.1 ++ [(f p.2 x).1], (f p.2 x).2)) ([], s)).2) := by
    intro xs
    induction xs with
    | nil => intro acc s; simp
    | cons x xs ih =>
      intro acc s
      rw [List.foldl_cons, List.foldl_cons, ih, ih ([] ++ _)]
      simp
  intro xs
  induction xs with
  | nil => intro s S h _; exact ⟨S, rfl, h⟩
  | cons x xs ih =>
    intro s S h st
    obtain ⟨ρ1, S2, h1, h2, h3⟩ := st s x S List.mem_cons_self h
    obtain ⟨S', e1, e2⟩ := ih (f s x).2 S2 h3 fun s y S m p => st s y S (.tail _ m) p
    refine ⟨S', ?_, ?_⟩
    · rw [List.map_cons, lcL_cons h1, List.foldl_cons, gen]
      simp only [bTrue_a, Out.calm_ok, Out.bind_ok, if_true, h2, e1, List.nil_append, List.singleton_append]
    · rw [List.foldl_cons, gen]
      exact e2
theorem lc2L_cons {n : NX} {t : BX} {i1 : IX} {n1 : NX} {t1 : BX} {e : EX} {vs1 : List Nat} {d : D} {ds : List D} (h : n d ρ = some ρ') : lc2L n t i1 n1 t1 e vs1 (d :: ds) ρ S = (t ρ' S).calm.bind fun b => if b.1 then (i1 ρ' b.2).calm.bind fun p => (lcL n1 t1 e p.1 (wipeD ρ' vs1) p.2).calm.bind fun q => (lc2L n t i1 n1 t1 e vs1 ds ρ q.2).calm.bind fun r => .ok (q.1 ++ r.1, r.2)
        else lc2L n t i1 n1 t1 e vs1 ds ρ b.2 := by
  unfold lc2L
  rw [h]
  cases ds <;> rfl
/-- two sources, the store staying: flat map -/
theorem lc2L_map {α : Type} {enc : α → D} {n : NX} {i1 : IX} {n1 : NX} {t1 : BX} {e : EX} {vs1 : List Nat} {f : α → List D} : ∀ {xs : List α}, (∀ x ∈ xs, ∃ ρ' items, n (enc x) ρ = some ρ' ∧ i1 ρ' S = .ok (items, S) ∧ lcL n1 t1 e items (wipeD ρ' vs1) S = .ok (f x, S)) → lc2L n bTrue i1 n1 t1 e vs1 (xs.map enc) ρ S = .ok (xs.flatMap f, S)
  | [], _ => rfl
  | x :: xs, h => by
    obtain ⟨ρ', items, h1, h2, h3⟩ := h x List.mem_cons_self
    have ih := lc2L_map (xs := xs) fun x m => h x (.tail _ m)
    rw [List.map_cons, lc2L_cons h1]
    simp only [bTrue_a, Out.calm_ok, Out.bind_ok, if_true, h2, h3, ih, List.flatMap_cons]

/-! ### built-in things -/
theorem boolsOf_map {α : Type} (f : α → Bool) : ∀ xs : List α, boolsOf (xs.map fun x => D.bl (f x)) = some (xs.map f)
  | [] => rfl
  | x :: xs => by rw [List.map_cons]; unfold boolsOf; rw [boolsOf_map f xs]; rfl
theorem intsOf_map {α : Type} (f : α → Int) : ∀ xs : List α, intsOf (xs.map fun x => D.int (f x)) = some (xs.map f)
  | [] => rfl
  | x :: xs => by rw [List.map_cons]; unfold intsOf; rw [intsOf_map f xs]; rfl
theorem strsOf_map {α : Type} (f : α → Str) : ∀ xs : List α, strsOf (xs.map fun x => D.str (f x)) = some (xs.map f)
  | [] => rfl
  | x :: xs => by rw [List.map_cons]; unfold strsOf; rw [strsOf_map f xs]; rfl
theorem strsD_map {α : Type} (f : α → Str) : ∀ xs : List α, strsD (xs.map fun x => D.str (f x)) = some (xs.map f)
  | [] => rfl
  | x :: xs => by rw [List.map_cons]; unfold strsD; rw [strsD_map f xs]; rfl
theorem allD_map {α : Type} (f : α → Bool) (xs : List α) : allD (.lst (xs.map fun x => D.bl (f x))) = some (.bl (xs.all f)) := by
  show (boolsOf _).map _ = _
  rw [boolsOf_map]
  show some (D.bl ((xs.map f).all id)) = _
  rw [List.all_map]
  rfl
theorem anyD_map {α : Type} (f : α → Bool) (xs : List α) : anyD (.lst (xs.map fun x => D.bl (f x))) = some (.bl (xs.any f)) := by
  show (boolsOf _).map _ = _
  rw [boolsOf_map]
  show some (D.bl ((xs.map f).any id)) = _
  rw [List.any_map]
  rfl
theorem sumD_map {α : Type} (f : α → Int) (xs : List α) : sumD (.lst (xs.map fun x => D.int (f x))) = some (.int (xs.map f).sum) := by
  show (intsOf _).map _ = _
  rw [intsOf_map]
  rfl
theorem atI_nat {α : Type} {xs : List α} {i : Nat} {x : α} (h : xs[i]? = some x) : atI xs (i : Int) = some x := by
  have hl : i < xs.length := (List.getElem?_eq_some_iff.mp h).1
  unfold atI ixN
  rw [if_pos (by omega), if_pos (by omega), Option.bind_some, Int.toNat_natCast]
  exact h
theorem ixN_nat {n i : Nat} (h : i < n) : ixN n (i : Int) = some i := by
  unfold ixN
  rw [if_pos (by omega), if_pos (by omega), Int.toNat_natCast]
theorem ix_at {n : Nat} {i : Int} (h0 : 0 ≤ i) (h1 : i < n) : ixN n i = some i.toNat := by
  unfold ixN
  rw [if_pos h0, if_pos h1]
theorem size_big : sizeLine = 16777216 := rfl
theorem szOk_of {n : Nat} (h : n ≤ 16777216) : szOk n = true := decide_eq_true h
theorem fit_of {i : Int} (h0 : -1000000000000000000 ≤ i) (h1 : i ≤ 1000000000000000000) : fitI i = true := by
  unfold fitI
  rw [decide_eq_true (by omega), decide_eq_true (by omega)]
  rfl
theorem rng1 (n : Nat) (h : n ≤ 16777216) : rngD1 [.int (n : Nat)] = some ((List.range n).map fun i => D.int (i : Nat)) := by
  show (if (fitI ((n : Nat) : Int) && szOk ((n : Nat) : Int).toNat) = true then some (rngL 0 1 ((n : Nat) : Int).toNat) else none) = _
  rw [Int.toNat_natCast, fit_of (by omega) (by omega), szOk_of h]
  show some (rngL 0 1 n) = _
  unfold rngL
  congr 1
  refine List.map_congr_left fun i _ => ?_
  congr 1
  omega
end
end GG
namespace GG
theorem tab_c {α : Type} {c c' : PySem.Str} {d d' : α} {r : List (PySem.Str × α)} (h : List.lookup c ((c', d') :: r) = some d) : (c = c' ∧ d' = d) ∨ List.lookup c r = some d := by
  rw [List.lookup_cons] at h
  cases e : (c == c') with
  | true => rw [e] at h; exact .inl ⟨by simpa using e, Option.some.inj h⟩
  | false => rw [e] at h; exact .inr h
theorem tab_nil {α : Type} {c : PySem.Str} {d : α} {p : Prop} (h : List.lookup c ([] : List (PySem.Str × α)) = some d) : p := by cases h
end GG
end

section
set_option linter.all false
set_option maxRecDepth 100000
namespace LW
open PySem L2 GG
open PyProof.Rows hiding St

def top (i : Nat) : Stmt := PySem.Challenge.pw_flatrounds_k87_making_refused.main.body.getD i (.Pass ⟨0, 0, 0, 0⟩)
def clW : Wp := ⟨fun _ _ _ => False, fun c => c ∈ (["Program", "RawProgram", "Table", "Maker"] : List Str), none⟩
structure Ad where
  f_is_integer : Addr
  f_is_number : Addr
  f_is_name : Addr
  f_are_names : Addr
  f_are_numbers : Addr
  f_RawProgram___init__ : Addr
  f_are_bounds : Addr
  f_are_measures : Addr
  f_many_cells : Addr
  f_cells_of : Addr
  f_is_great : Addr
  f_is_form : Addr
  f_is_row : Addr
  f_Table_keep : Addr
  f_Table___init__ : Addr
  f_many_results : Addr
  f_name_by_number : Addr
  f_Maker___init__ : Addr
  f_Maker_fresh : Addr
  f_Maker_many_fresh : Addr
  f_Maker_put : Addr
  f_Maker_one : Addr
  f_Maker_copied_if : Addr
  f_Maker_reached : Addr
  f_Maker_divided : Addr
  f_Maker_parted : Addr
  f_Maker_cell_flag : Addr
  f_Maker_constants : Addr
  f_Maker_add_steps : Addr
  f_Maker_result : Addr
  f_program_for : Addr
  f__law_pot : Addr
  f__law_draw : Addr
  f__law_mixed : Addr
  f__law_cells : Addr
  f__law_table : Addr
  f__law_deep : Addr
  f__law_is_names : Addr
  f__law_word : Addr
  f__law_bent : Addr
  f_law : Addr
  c_BadProgram : Addr
  c_BadTable : Addr
  c_Maker : Addr
  c_NoNames : Addr
  c_Program : Addr
  c_RawProgram : Addr
  c_RoundError : Addr
  c_Table : Addr
def ctab : CTab := [("Program", ["Program"]), ("RawProgram", ["RawProgram", "Program"]), ("Table", ["Table"]), ("Maker", ["Maker"])]
def etab : ETab := [("RoundError", ["RoundError", "ValueError"]), ("BadProgram", ["BadProgram", "RoundError", "ValueError"]), ("BadTable", ["BadTable", "RoundError", "ValueError"]), ("NoNames", ["NoNames", "RoundError", "ValueError"])]
structure Tx (K : PySem.W.Frag) (mg : Str → Option Value) (A : Ad) : Prop where
  g_BadProgram : mg "BadProgram" = some (.ref A.c_BadProgram)
  g_BadTable : mg "BadTable" = some (.ref A.c_BadTable)
  g_Maker : mg "Maker" = some (.ref A.c_Maker)
  g_NoNames : mg "NoNames" = some (.ref A.c_NoNames)
  g_Program : mg "Program" = some (.ref A.c_Program)
  g_RawProgram : mg "RawProgram" = some (.ref A.c_RawProgram)
  g_RoundError : mg "RoundError" = some (.ref A.c_RoundError)
  g_Table : mg "Table" = some (.ref A.c_Table)
  g__law_bent : mg "_law_bent" = some (.ref A.f__law_bent)
  g__law_cells : mg "_law_cells" = some (.ref A.f__law_cells)
  g__law_deep : mg "_law_deep" = some (.ref A.f__law_deep)
  g__law_draw : mg "_law_draw" = some (.ref A.f__law_draw)
  g__law_is_names : mg "_law_is_names" = some (.ref A.f__law_is_names)
  g__law_mixed : mg "_law_mixed" = some (.ref A.f__law_mixed)
  g__law_pot : mg "_law_pot" = some (.ref A.f__law_pot)
  g__law_table : mg "_law_table" = some (.ref A.f__law_table)
  g__law_word : mg "_law_word" = some (.ref A.f__law_word)
  g_are_bounds : mg "are_bounds" = some (.ref A.f_are_bounds)
  g_are_measures : mg "are_measures" = some (.ref A.f_are_measures)
  g_are_names : mg "are_names" = some (.ref A.f_are_names)
  g_are_numbers : mg "are_numbers" = some (.ref A.f_are_numbers)
  g_cells_of : mg "cells_of" = some (.ref A.f_cells_of)
  g_is_form : mg "is_form" = some (.ref A.f_is_form)
  g_is_great : mg "is_great" = some (.ref A.f_is_great)
  g_is_integer : mg "is_integer" = some (.ref A.f_is_integer)
  g_is_name : mg "is_name" = some (.ref A.f_is_name)
  g_is_number : mg "is_number" = some (.ref A.f_is_number)
  g_is_row : mg "is_row" = some (.ref A.f_is_row)
  g_many_cells : mg "many_cells" = some (.ref A.f_many_cells)
  g_many_results : mg "many_results" = some (.ref A.f_many_results)
  g_name_by_number : mg "name_by_number" = some (.ref A.f_name_by_number)
  g_program_for : mg "program_for" = some (.ref A.f_program_for)
  g_LETTERS : ∃ u, mg "LETTERS" = some u ∧ RelV (.str "abcdefghijklmnopqrstuvwxyz") u
  g_MOST_CELLS : ∃ u, mg "MOST_CELLS" = some u ∧ RelV (.int 1000) u
  g_MOST_FORMS : ∃ u, mg "MOST_FORMS" = some u ∧ RelV (.int 12) u
  g_MOST_NUMBERS : ∃ u, mg "MOST_NUMBERS" = some u ∧ RelV (.int 2) u
  g_MOST_STATEMENTS : ∃ u, mg "MOST_STATEMENTS" = some u ∧ RelV (.int 5000) u
  g_MOST_TOLD : ∃ u, mg "MOST_TOLD" = some u ∧ RelV (.int 4) u
  n_ValueError : mg "ValueError" = none
  n_abs : mg "abs" = none
  n_all : mg "all" = none
  n_bool : mg "bool" = none
  n_enumerate : mg "enumerate" = none
  n_int : mg "int" = none
  n_isinstance : mg "isinstance" = none
  n_len : mg "len" = none
  n_list : mg "list" = none
  n_max : mg "max" = none
  n_range : mg "range" = none
  n_set : mg "set" = none
  n_sorted : mg "sorted" = none
  n_str : mg "str" = none
  n_sum : mg "sum" = none
  n_tuple : mg "tuple" = none
  n_zip : mg "zip" = none
  f_block : FldOk K mg clW "block"
  f_bounds : FldOk K mg clW "bounds"
  f_given : FldOk K mg clW "given"
  f_measures : FldOk K mg clW "measures"
  f_rows : FldOk K mg clW "rows"
  f_taken : FldOk K mg clW "taken"
  f_told : FldOk K mg clW "told"
  f_used : FldOk K mg clW "used"
  tc : CTabOk K mg ctab
  te : ETabOk K mg etab
  mk_RawProgram : Mk K A.c_RawProgram A.f_RawProgram___init__
  mk_Table : Mk K A.c_Table A.f_Table___init__
  mk_Maker : Mk K A.c_Maker A.f_Maker___init__
  xi_NoNames : PySem.W.excIn K A.c_NoNames [.type "ValueError", .type "Exception", .type "BaseException", .type "object"] "ValueError.__new__" = true
  xk_NoNames : PySem.W.keepIn K (.ref A.c_NoNames) = true
  xs_NoNames : PySem.W.subIn K (.ref A.c_NoNames) (.type "BaseException") = some true
  xt_NoNames : PySem.W.typeIn K (.ref A.c_NoNames) = some (.type "type")
  xi_RoundError : PySem.W.excIn K A.c_RoundError [.type "ValueError", .type "Exception", .type "BaseException", .type "object"] "ValueError.__new__" = true
  xk_RoundError : PySem.W.keepIn K (.ref A.c_RoundError) = true
  xs_RoundError : PySem.W.subIn K (.ref A.c_RoundError) (.type "BaseException") = some true
  xt_RoundError : PySem.W.typeIn K (.ref A.c_RoundError) = some (.type "type")
  me_Maker_fresh : Cls K A.c_Maker ∧ Meth K A.c_Maker "fresh" A.f_Maker_fresh
  me_Maker_put : Cls K A.c_Maker ∧ Meth K A.c_Maker "put" A.f_Maker_put
  me_Maker_many_fresh : Cls K A.c_Maker ∧ Meth K A.c_Maker "many_fresh" A.f_Maker_many_fresh
  me_Maker_one : Cls K A.c_Maker ∧ Meth K A.c_Maker "one" A.f_Maker_one
  me_Maker_copied_if : Cls K A.c_Maker ∧ Meth K A.c_Maker "copied_if" A.f_Maker_copied_if
  me_Maker_reached : Cls K A.c_Maker ∧ Meth K A.c_Maker "reached" A.f_Maker_reached
  me_Maker_divided : Cls K A.c_Maker ∧ Meth K A.c_Maker "divided" A.f_Maker_divided
  me_Maker_add_steps : Cls K A.c_Maker ∧ Meth K A.c_Maker "add_steps" A.f_Maker_add_steps
  me_Maker_cell_flag : Cls K A.c_Maker ∧ Meth K A.c_Maker "cell_flag" A.f_Maker_cell_flag
  me_Maker_result : Cls K A.c_Maker ∧ Meth K A.c_Maker "result" A.f_Maker_result
  me_Maker_parted : Cls K A.c_Maker ∧ Meth K A.c_Maker "parted" A.f_Maker_parted
  me_Maker_constants : Cls K A.c_Maker ∧ Meth K A.c_Maker "constants" A.f_Maker_constants
  me_Table_keep : Cls K A.c_Table ∧ Meth K A.c_Table "keep" A.f_Table_keep
theorem kc_Program : clW.kc "Program" := by simp [clW]
theorem kc_RawProgram : clW.kc "RawProgram" := by simp [clW]
theorem kc_Table : clW.kc "Table" := by simp [clW]
theorem kc_Maker : clW.kc "Maker" := by simp [clW]
variable {P : Program} {w : World} {K : PySem.W.Frag} {mg : Str → Option Value} {base : Heap} {A : Ad}
/-! ### is_integer -/
theorem sc_is_integer : FnScope ["thing"] ["thing"] (defScope (top 6)) := ⟨rfl, rfl, rfl, by decide +kernel, rfl, by decide +kernel, by decide +kernel⟩
noncomputable def b_is_integer : SX := (sRet (eAnd (eIsi1 ctab (.ty "int") (eV 0)) (eNot (eIsi1 ctab (.ty "bool") (eV 0)))))
noncomputable def d_is_integer : Den := runD 1 0 b_is_integer
theorem p_is_integer (T : Tx K mg A)  {f : Addr} : ∀ (cdv : Value) (A : Around) (outer : List Env) (s : Shared) (H : Hp) (E : XK), Room 0 (A.deeper (envOfC "is_integer" (defScope (top 6)) s.heap.objs.size f cdv)) →
    GSs clW (cxOf (L2.CX P w) P w K mg base ["thing"] "is_integer" (defScope (top 6)) f cdv A outer s H E) (defBody (top 6)) b_is_integer := fun cdv A outer s H E hr => by
  have sc := sc_is_integer
  have hu := hr.units
  have hu1 := hu_of hr
  have TC := T.tc
  have TE := T.te
  exact (gss_one (gs_ret (ge_and (ge_isi1 (k := (.ty "int")) TC rfl T.n_isinstance (ge_var rfl (.inl rfl) rfl rfl) (pe_bltn (v := .ty "int") (u := .type "int") rfl T.n_int (by decide +kernel) rfl (by decide) (by decide)) rfl rfl) (ge_one (ge_not (ge_isi1 (k := (.ty "bool")) TC rfl T.n_isinstance (ge_var rfl (.inl rfl) rfl rfl) (pe_bltn (v := .ty "bool") (u := .type "bool") rfl T.n_bool (by decide +kernel) rfl (by decide) (by decide)) rfl rfl))))))

/-! ### is_number -/
theorem sc_is_number : FnScope ["thing"] ["thing"] (defScope (top 7)) := ⟨rfl, rfl, rfl, by decide +kernel, rfl, by decide +kernel, by decide +kernel⟩
noncomputable def b_is_number : SX := (sRet (eAnd (eCall d_is_integer (aC (eV 0) aN)) (eCmp geD (eV 0) (eC (.int 0)))))
noncomputable def d_is_number : Den := runD 1 0 b_is_number
theorem p_is_number (T : Tx K mg A) (F_is_integer : FnD P w K mg base clW 1 1 A.f_is_integer d_is_integer) {f : Addr} : ∀ (cdv : Value) (A : Around) (outer : List Env) (s : Shared) (H : Hp) (E : XK), Room 1 (A.deeper (envOfC "is_number" (defScope (top 7)) s.heap.objs.size f cdv)) →
    GSs clW (cxOf (L2.CX P w) P w K mg base ["thing"] "is_number" (defScope (top 7)) f cdv A outer s H E) (defBody (top 7)) b_is_number := fun cdv A outer s H E hr => by
  have sc := sc_is_number
  have hu := hr.units
  have hu1 := hu_of hr
  have TC := T.tc
  have TE := T.te
  exact (gss_one (gs_ret (ge_and (ge_call F_is_integer (hr.mono (by decide)) rfl T.g_is_integer (ga_cons (ge_var rfl (.inl rfl) rfl rfl) ga_nil rfl) rfl rfl rfl) (ge_one (ge_cmp ok_ge (ge_var rfl (.inl rfl) rfl rfl) ge_int rfl)))))

/-! ### is_name -/
theorem sc_is_name : FnScope ["thing", "sign"] ["thing"] (defScope (top 8)) := ⟨rfl, rfl, rfl, by decide +kernel, rfl, by decide +kernel, by decide +kernel⟩
noncomputable def b_is_name : SX := (sRet (eAnd (eIsi1 ctab (.ty "str") (eV 0)) (eAnd (eChain leD leD (eC (.int 1)) (eH (hV 0) lenD) (eC (.int 8))) (eH (hE (eFz (mLc (iS (eV 0)) (gN 1) bTrue (eChain leD leD (eC (.str "a")) (eV 1) (eC (.str "z"))) [1]))) allD))))
noncomputable def d_is_name : Den := runD 1 1 b_is_name
theorem p_is_name (T : Tx K mg A)  {f : Addr} : ∀ (cdv : Value) (A : Around) (outer : List Env) (s : Shared) (H : Hp) (E : XK), Room 0 (A.deeper (envOfC "is_name" (defScope (top 8)) s.heap.objs.size f cdv)) →
    GSs clW (cxOf (L2.CX P w) P w K mg base ["thing", "sign"] "is_name" (defScope (top 8)) f cdv A outer s H E) (defBody (top 8)) b_is_name := fun cdv A outer s H E hr => by
  have sc := sc_is_name
  have hu := hr.units
  have hu1 := hu_of hr
  have TC := T.tc
  have TE := T.te
  exact (gss_one (gs_ret (ge_and (ge_isi1 (k := (.ty "str")) TC rfl T.n_isinstance (ge_var rfl (.inl rfl) rfl rfl) (pe_bltn (v := .ty "str") (u := .type "str") rfl T.n_str (by decide +kernel) rfl (by decide) (by decide)) rfl rfl) (ge_and (ge_chain ok_le ok_le ge_int (ge_b1 ok_len rfl T.n_len (by decide +kernel) (gh_var rfl (.inl rfl) rfl rfl) (by decide) rfl rfl) ge_int rfl) (ge_one (ge_b1 (ok_all rfl) rfl T.n_all (by decide +kernel) (gh_of (ge_fz (gm_lc (own := [("sign", 1)]) rfl sc.nd (gi_any (ge_var rfl (.inl rfl) rfl rfl)) (blkOk_by (by kernel_rfl)) (by decide) (fun _ _ _ _ _ => (gn_name sc.nd rfl (.inl rfl) (.inr rfl))) (fun _ _ _ _ _ => gts_nil) (fun _ _ _ _ _ => (ge_chain ok_le ok_le ge_str (ge_var rfl (.inl rfl) rfl rfl) ge_str rfl)) (fun _ => rfl)))) (by decide) rfl rfl))))))

/-! ### are_names -/
theorem sc_are_names : FnScope ["thing", "least", "most", "item"] ["thing", "least", "most"] (defScope (top 9)) := ⟨rfl, rfl, rfl, by decide +kernel, rfl, by decide +kernel, by decide +kernel⟩
noncomputable def b_are_names : SX := (sSeq (sIf (bOr (bNot (bT (eIsi1 ctab (.ty "tuple") (eV 0)))) (bNot (bV (eChain leD leD (eV 1) (eH (hV 0) lenD) (eV 2))))) ((sRet (eC (.bl false)))) (sNil))
    (sRet (eAnd (eH (hE (eFz (mLc (iS (eV 0)) (gN 3) bTrue (eCall d_is_name (aC (eV 3) aN)) [3]))) allD) (eCmp eqD (eH (hV 0) lensetD) (eH (hV 0) lenD)))))
noncomputable def d_are_names : Den := runD 3 1 b_are_names
theorem p_are_names (T : Tx K mg A) (F_is_name : FnD P w K mg base clW 1 1 A.f_is_name d_is_name) {f : Addr} : ∀ (cdv : Value) (A : Around) (outer : List Env) (s : Shared) (H : Hp) (E : XK), Room 1 (A.deeper (envOfC "are_names" (defScope (top 9)) s.heap.objs.size f cdv)) →
    GSs clW (cxOf (L2.CX P w) P w K mg base ["thing", "least", "most", "item"] "are_names" (defScope (top 9)) f cdv A outer s H E) (defBody (top 9)) b_are_names := fun cdv A outer s H E hr => by
  have sc := sc_are_names
  have hu := hr.units
  have hu1 := hu_of hr
  have TC := T.tc
  have TE := T.te
  exact (gss_cons (gs_if (gw_pt (gw_or (gt_not (gt_val (ge_isi1 (k := (.ty "tuple")) TC rfl T.n_isinstance (ge_var rfl (.inl rfl) rfl rfl) (pe_bltn (v := .ty "tuple") (u := .type "tuple") rfl T.n_tuple (by decide +kernel) rfl (by decide) (by decide)) rfl rfl) (fun _ => rfl))) (gw_or1 (gt_not (gt_chain ok_le ok_le (ge_var rfl (.inl rfl) rfl rfl) (ge_b1 ok_len rfl T.n_len (by decide +kernel) (gh_var rfl (.inl rfl) rfl rfl) (by decide) rfl rfl) (ge_var rfl (.inl rfl) rfl rfl) rfl))))) (gss_one (gs_ret ge_bl)) gss_nil) (gss_one (gs_ret (ge_and (ge_b1 (ok_all rfl) rfl T.n_all (by decide +kernel) (gh_of (ge_fz (gm_lc (own := [("item", 3)]) rfl sc.nd (gi_any (ge_var rfl (.inl rfl) rfl rfl)) (blkOk_by (by kernel_rfl)) (by decide) (fun _ _ _ _ _ => (gn_name sc.nd rfl (.inl rfl) (.inr rfl))) (fun _ _ _ _ _ => gts_nil) (fun _ _ _ _ _ => (ge_call F_is_name (hr.mono (by decide)) rfl T.g_is_name (ga_cons (ge_var rfl (.inl rfl) rfl rfl) ga_nil rfl) rfl rfl rfl)) (fun _ => rfl)))) (by decide) rfl rfl) (ge_one (ge_cmp (ok_eq hu) (ge_lenset rfl rfl T.n_len rfl T.n_set (gh_var rfl (.inl rfl) rfl rfl) rfl) (ge_b1 ok_len rfl T.n_len (by decide +kernel) (gh_var rfl (.inl rfl) rfl rfl) (by decide) rfl rfl) rfl))))))

/-! ### are_numbers -/
theorem sc_are_numbers : FnScope ["thing", "many", "item"] ["thing", "many"] (defScope (top 10)) := ⟨rfl, rfl, rfl, by decide +kernel, rfl, by decide +kernel, by decide +kernel⟩
noncomputable def b_are_numbers : SX := (sRet (eAnd (eIsi1 ctab (.ty "tuple") (eV 0)) (eAnd (eCmp eqD (eH (hV 0) lenD) (eV 1)) (eH (hE (eFz (mLc (iS (eV 0)) (gN 2) bTrue (eCall d_is_number (aC (eV 2) aN)) [2]))) allD))))
noncomputable def d_are_numbers : Den := runD 2 1 b_are_numbers
theorem p_are_numbers (T : Tx K mg A) (F_is_number : FnD P w K mg base clW 2 1 A.f_is_number d_is_number) {f : Addr} : ∀ (cdv : Value) (A : Around) (outer : List Env) (s : Shared) (H : Hp) (E : XK), Room 2 (A.deeper (envOfC "are_numbers" (defScope (top 10)) s.heap.objs.size f cdv)) →
    GSs clW (cxOf (L2.CX P w) P w K mg base ["thing", "many", "item"] "are_numbers" (defScope (top 10)) f cdv A outer s H E) (defBody (top 10)) b_are_numbers := fun cdv A outer s H E hr => by
  have sc := sc_are_numbers
  have hu := hr.units
  have hu1 := hu_of hr
  have TC := T.tc
  have TE := T.te
  exact (gss_one (gs_ret (ge_and (ge_isi1 (k := (.ty "tuple")) TC rfl T.n_isinstance (ge_var rfl (.inl rfl) rfl rfl) (pe_bltn (v := .ty "tuple") (u := .type "tuple") rfl T.n_tuple (by decide +kernel) rfl (by decide) (by decide)) rfl rfl) (ge_and (ge_cmp (ok_eq hu) (ge_b1 ok_len rfl T.n_len (by decide +kernel) (gh_var rfl (.inl rfl) rfl rfl) (by decide) rfl rfl) (ge_var rfl (.inl rfl) rfl rfl) rfl) (ge_one (ge_b1 (ok_all rfl) rfl T.n_all (by decide +kernel) (gh_of (ge_fz (gm_lc (own := [("item", 2)]) rfl sc.nd (gi_any (ge_var rfl (.inl rfl) rfl rfl)) (blkOk_by (by kernel_rfl)) (by decide) (fun _ _ _ _ _ => (gn_name sc.nd rfl (.inl rfl) (.inr rfl))) (fun _ _ _ _ _ => gts_nil) (fun _ _ _ _ _ => (ge_call F_is_number (hr.mono (by decide)) rfl T.g_is_number (ga_cons (ge_var rfl (.inl rfl) rfl rfl) ga_nil rfl) rfl rfl rfl)) (fun _ => rfl)))) (by decide) rfl rfl))))))

/-! ### RawProgram.__init__ -/
theorem sc_RawProgram___init__ : FnScope ["self", "given", "told", "block"] ["self", "given", "told", "block"] (defScope (inClass (top 18) 0)) := ⟨rfl, rfl, rfl, by decide +kernel, rfl, by decide +kernel, by decide +kernel⟩
noncomputable def b_RawProgram___init__ : SX := (sSeq (sFld (hV 0) "given" (eV 1))
    (sSeq (sFld (hV 0) "told" (eV 2))
    (sFld (hV 0) "block" (eV 3))))
noncomputable def d_RawProgram___init__ : DenO := runO 3 0 b_RawProgram___init__
theorem p_RawProgram___init__ (T : Tx K mg A)  {f : Addr} : ∀ (cdv : Value) (A : Around) (outer : List Env) (s : Shared) (H : Hp) (E : XK), Room 0 (A.deeper (envOfC "RawProgram.__init__" (defScope (inClass (top 18) 0)) s.heap.objs.size f cdv)) →
    GSs clW (cxOf (L2.CX P w) P w K mg base ["self", "given", "told", "block"] "RawProgram.__init__" (defScope (inClass (top 18) 0)) f cdv A outer s H E) (defBody (inClass (top 18) 0)) b_RawProgram___init__ := fun cdv A outer s H E hr => by
  have sc := sc_RawProgram___init__
  have hu := hr.units
  have hu1 := hu_of hr
  have TC := T.tc
  have TE := T.te
  exact (gss_cons (gs_fld (T.f_given) (gh_var rfl (.inl rfl) rfl rfl) (ge_var rfl (.inl rfl) rfl rfl) rfl) (gss_cons (gs_fld (T.f_told) (gh_var rfl (.inl rfl) rfl rfl) (ge_var rfl (.inl rfl) rfl rfl) rfl) (gss_one (gs_fld (T.f_block) (gh_var rfl (.inl rfl) rfl rfl) (ge_var rfl (.inl rfl) rfl rfl) rfl))))

/-! ### are_bounds -/
theorem sc_are_bounds : FnScope ["thing"] ["thing"] (defScope (top 23)) := ⟨rfl, rfl, rfl, by decide +kernel, rfl, by decide +kernel, by decide +kernel⟩
noncomputable def b_are_bounds : SX := (sRet (eAnd (eIsi1 ctab (.ty "tuple") (eV 0)) (eAnd (eCmp leD (eH (hV 0) lenD) (eC (.int 2))) (eCall d_are_numbers (aC (eV 0) (aC (eH (hV 0) lenD) aN))))))
noncomputable def d_are_bounds : Den := runD 1 0 b_are_bounds
theorem p_are_bounds (T : Tx K mg A) (F_are_numbers : FnD P w K mg base clW 3 2 A.f_are_numbers d_are_numbers) {f : Addr} : ∀ (cdv : Value) (A : Around) (outer : List Env) (s : Shared) (H : Hp) (E : XK), Room 3 (A.deeper (envOfC "are_bounds" (defScope (top 23)) s.heap.objs.size f cdv)) →
    GSs clW (cxOf (L2.CX P w) P w K mg base ["thing"] "are_bounds" (defScope (top 23)) f cdv A outer s H E) (defBody (top 23)) b_are_bounds := fun cdv A outer s H E hr => by
  have sc := sc_are_bounds
  have hu := hr.units
  have hu1 := hu_of hr
  have TC := T.tc
  have TE := T.te
  exact (gss_one (gs_ret (ge_and (ge_isi1 (k := (.ty "tuple")) TC rfl T.n_isinstance (ge_var rfl (.inl rfl) rfl rfl) (pe_bltn (v := .ty "tuple") (u := .type "tuple") rfl T.n_tuple (by decide +kernel) rfl (by decide) (by decide)) rfl rfl) (ge_and (ge_cmp ok_le (ge_b1 ok_len rfl T.n_len (by decide +kernel) (gh_var rfl (.inl rfl) rfl rfl) (by decide) rfl rfl) (ge_cst rfl T.g_MOST_NUMBERS (fun _ => rep_int.mpr rfl) rfl) rfl) (ge_one (ge_call F_are_numbers (hr.mono (by decide)) rfl T.g_are_numbers (ga_cons (ge_var rfl (.inl rfl) rfl rfl) (ga_cons (ge_b1 ok_len rfl T.n_len (by decide +kernel) (gh_var rfl (.inl rfl) rfl rfl) (by decide) rfl rfl) ga_nil rfl) rfl) rfl rfl rfl))))))

/-! ### are_measures -/
theorem sc_are_measures : FnScope ["thing", "many", "item"] ["thing", "many"] (defScope (top 24)) := ⟨rfl, rfl, rfl, by decide +kernel, rfl, by decide +kernel, by decide +kernel⟩
noncomputable def b_are_measures : SX := (sRet (eAnd (eCall d_are_numbers (aC (eV 0) (aC (eV 1) aN))) (eH (hE (eFz (mLc (iS (eV 0)) (gN 2) bTrue (eCmp gtD (eV 2) (eC (.int 0))) [2]))) allD)))
noncomputable def d_are_measures : Den := runD 2 1 b_are_measures
theorem p_are_measures (T : Tx K mg A) (F_are_numbers : FnD P w K mg base clW 3 2 A.f_are_numbers d_are_numbers) {f : Addr} : ∀ (cdv : Value) (A : Around) (outer : List Env) (s : Shared) (H : Hp) (E : XK), Room 3 (A.deeper (envOfC "are_measures" (defScope (top 24)) s.heap.objs.size f cdv)) →
    GSs clW (cxOf (L2.CX P w) P w K mg base ["thing", "many", "item"] "are_measures" (defScope (top 24)) f cdv A outer s H E) (defBody (top 24)) b_are_measures := fun cdv A outer s H E hr => by
  have sc := sc_are_measures
  have hu := hr.units
  have hu1 := hu_of hr
  have TC := T.tc
  have TE := T.te
  exact (gss_one (gs_ret (ge_and (ge_call F_are_numbers (hr.mono (by decide)) rfl T.g_are_numbers (ga_cons (ge_var rfl (.inl rfl) rfl rfl) (ga_cons (ge_var rfl (.inl rfl) rfl rfl) ga_nil rfl) rfl) rfl rfl rfl) (ge_one (ge_b1 (ok_all rfl) rfl T.n_all (by decide +kernel) (gh_of (ge_fz (gm_lc (own := [("item", 2)]) rfl sc.nd (gi_any (ge_var rfl (.inl rfl) rfl rfl)) (blkOk_by (by kernel_rfl)) (by decide) (fun _ _ _ _ _ => (gn_name sc.nd rfl (.inl rfl) (.inr rfl))) (fun _ _ _ _ _ => gts_nil) (fun _ _ _ _ _ => (ge_cmp ok_gt (ge_var rfl (.inl rfl) rfl rfl) ge_int rfl)) (fun _ => rfl)))) (by decide) rfl rfl)))))

/-! ### many_cells -/
theorem sc_many_cells : FnScope ["bounds", "measures", "found", "bound", "measure"] ["bounds", "measures"] (defScope (top 25)) := ⟨rfl, rfl, rfl, by decide +kernel, rfl, by decide +kernel, by decide +kernel⟩
noncomputable def L0_many_cells : SX := (sSet 2 (eBin mulD (eV 2) (eBin addD (eV 3) (eV 4))))
noncomputable def b_many_cells : SX := (sSeq (sSet 2 (eC (.int 1)))
    (sSeq (sFor (iZ (eV 0) (eV 1)) (gT [(gN 3), (gN 4)]) L0_many_cells)
    (sRet (eV 2))))
noncomputable def d_many_cells : Den := runD 2 3 b_many_cells
theorem p_many_cells (T : Tx K mg A)  {f : Addr} : ∀ (cdv : Value) (A : Around) (outer : List Env) (s : Shared) (H : Hp) (E : XK), Room 0 (A.deeper (envOfC "many_cells" (defScope (top 25)) s.heap.objs.size f cdv)) →
    GSs clW (cxOf (L2.CX P w) P w K mg base ["bounds", "measures", "found", "bound", "measure"] "many_cells" (defScope (top 25)) f cdv A outer s H E) (defBody (top 25)) b_many_cells := fun cdv A outer s H E hr => by
  have sc := sc_many_cells
  have hu := hr.units
  have hu1 := hu_of hr
  have TC := T.tc
  have TE := T.te
  exact (gss_cons (gs_set sc.nd rfl (.inl rfl) ge_int rfl (.inr rfl)) (gss_cons (gs_for rfl (gi_zip rfl T.n_zip (ge_var rfl (.inl rfl) rfl rfl) (ge_var rfl (.inl rfl) rfl rfl) rfl rfl rfl) (gn_tup rfl (gns_cons (gn_name sc.nd rfl (.inl rfl) (.inr rfl)) (gns_cons (gn_name sc.nd rfl (.inl rfl) (.inr rfl)) gns_nil rfl) rfl) rfl rfl) (gss_one (gs_set sc.nd rfl (.inl rfl) (ge_bin ok_mul (ge_var rfl (.inl rfl) rfl rfl) (ge_bin ok_add (ge_var rfl (.inl rfl) rfl rfl) (ge_var rfl (.inl rfl) rfl rfl))) rfl (.inr rfl))) (fun _ => rfl)) (gss_one (gs_ret (ge_var rfl (.inl rfl) rfl rfl)))))

/-! ### cells_of -/
theorem sc_cells_of : FnScope ["bounds", "measures", "found", "bound", "measure", "cell", "number"] ["bounds", "measures"] (defScope (top 26)) := ⟨rfl, rfl, rfl, by decide +kernel, rfl, by decide +kernel, by decide +kernel⟩
noncomputable def L0_cells_of : SX := (sSet 2 (eFz (mLc2 (iS (eV 2)) (gN 5) bTrue (iR1 (aC (eBin addD (eV 3) (eV 4)) aN)) (gN 6) bTrue (eBin addD (eV 5) (eTup (aC (eV 6) aN))) [5, 6] [6])))
noncomputable def b_cells_of : SX := (sSeq (sSet 2 (eFz (mLst (aC (eTup aN) aN))))
    (sSeq (sFor (iZ (eV 0) (eV 1)) (gT [(gN 3), (gN 4)]) L0_cells_of)
    (sRet (eV 2))))
noncomputable def d_cells_of : Den := runD 2 5 b_cells_of
theorem p_cells_of (T : Tx K mg A)  {f : Addr} : ∀ (cdv : Value) (A : Around) (outer : List Env) (s : Shared) (H : Hp) (E : XK), Room 0 (A.deeper (envOfC "cells_of" (defScope (top 26)) s.heap.objs.size f cdv)) →
    GSs clW (cxOf (L2.CX P w) P w K mg base ["bounds", "measures", "found", "bound", "measure", "cell", "number"] "cells_of" (defScope (top 26)) f cdv A outer s H E) (defBody (top 26)) b_cells_of := fun cdv A outer s H E hr => by
  have sc := sc_cells_of
  have hu := hr.units
  have hu1 := hu_of hr
  have TC := T.tc
  have TE := T.te
  exact (gss_cons (gs_set sc.nd rfl (.inl rfl) (ge_fz (gm_lst (ga_cons (ge_tup ga_nil) ga_nil rfl))) rfl (.inr rfl)) (gss_cons (gs_for rfl (gi_zip rfl T.n_zip (ge_var rfl (.inl rfl) rfl rfl) (ge_var rfl (.inl rfl) rfl rfl) rfl rfl rfl) (gn_tup rfl (gns_cons (gn_name sc.nd rfl (.inr rfl) (.inl rfl)) (gns_cons (gn_name sc.nd rfl (.inr rfl) (.inl rfl)) gns_nil rfl) rfl) rfl rfl) (gss_one (gs_setF (gms_lc2 (own := [("cell", 5), ("number", 6)]) (vs1 := [6]) rfl sc.nd rfl rfl (sw_true rfl rfl rfl rfl) (gi_any (ge_var rfl (.inl rfl) rfl rfl)) (blkOk_by (by kernel_rfl)) (by decide) (by decide) (by decide) (fun _ _ _ _ _ => (gn_name sc.nd rfl (.inl rfl) (.inr rfl))) (fun _ _ _ _ _ => gts_nil) (fun _ _ _ _ _ => (gi_r1 rfl T.n_range (ga_cons (ge_bin ok_add (ge_var rfl (.inr (.inl rfl)) rfl rfl) (ge_var rfl (.inr (.inl rfl)) rfl rfl)) ga_nil rfl) rfl)) (fun _ _ _ _ _ => (gn_name sc.nd rfl (.inl rfl) (.inr rfl))) (fun _ _ _ _ _ => gts_nil) (fun _ _ _ _ _ => (ge_bin ok_add (ge_var rfl (.inl rfl) rfl rfl) (ge_tup (ga_cons (ge_var rfl (.inl rfl) rfl rfl) ga_nil rfl)))) (fun _ => rfl) (fun _ _ => rfl)))) (fun _ => rfl)) (gss_one (gs_ret (ge_var rfl (.inl rfl) rfl rfl)))))

/-! ### is_great -/
theorem sc_is_great : FnScope ["bounds", "cell", "k"] ["bounds", "cell", "k"] (defScope (top 27)) := ⟨rfl, rfl, rfl, by decide +kernel, rfl, by decide +kernel, by decide +kernel⟩
noncomputable def b_is_great : SX := (sRet (eCmp geD (eHB (hV 1) (eV 2) idxD) (eHB (hV 0) (eV 2) idxD)))
noncomputable def d_is_great : Den := runD 3 0 b_is_great
theorem p_is_great (T : Tx K mg A)  {f : Addr} : ∀ (cdv : Value) (A : Around) (outer : List Env) (s : Shared) (H : Hp) (E : XK), Room 0 (A.deeper (envOfC "is_great" (defScope (top 27)) s.heap.objs.size f cdv)) →
    GSs clW (cxOf (L2.CX P w) P w K mg base ["bounds", "cell", "k"] "is_great" (defScope (top 27)) f cdv A outer s H E) (defBody (top 27)) b_is_great := fun cdv A outer s H E hr => by
  have sc := sc_is_great
  have hu := hr.units
  have hu1 := hu_of hr
  have TC := T.tc
  have TE := T.te
  exact (gss_one (gs_ret (ge_cmp ok_ge (ge_sub hu1 (gh_var rfl (.inl rfl) rfl rfl) (ge_var rfl (.inl rfl) rfl rfl) (fun _ _ => rfl)) (ge_sub hu1 (gh_var rfl (.inl rfl) rfl rfl) (ge_var rfl (.inl rfl) rfl rfl) (fun _ _ => rfl)) rfl)))

/-! ### is_form -/
theorem sc_is_form : FnScope ["thing", "bounds", "cell", "k"] ["thing", "bounds", "cell"] (defScope (top 28)) := ⟨rfl, rfl, rfl, by decide +kernel, rfl, by decide +kernel, by decide +kernel⟩
noncomputable def b_is_form : SX := (sSeq (sIf (bOr (bNot (bT (eIsi1 ctab (.ty "tuple") (eV 0)))) (bOr (bV (eCmp neD (eH (hV 0) lenD) (eC (.int 2)))) (bNot (bT (eCall d_is_number (aC (eHB (hV 0) (eC (.int 0)) idxD) aN)))))) ((sRet (eC (.bl false)))) (sNil))
    (sSeq (sIf (bNot (bT (eCall d_are_numbers (aC (eHB (hV 0) (eC (.int 1)) idxD) (aC (eH (hV 2) lenD) aN))))) ((sRet (eC (.bl false)))) (sNil))
    (sRet (eH (hE (eFz (mLc (iR1 (aC (eH (hV 2) lenD) aN)) (gN 3) bTrue (eOr (eCmp eqD (eHB (hE (eHB (hV 0) (eC (.int 1)) idxD)) (eV 3) idxD) (eC (.int 0))) (eCall d_is_great (aC (eV 1) (aC (eV 2) (aC (eV 3) aN))))) [3]))) allD))))
noncomputable def d_is_form : Den := runD 3 1 b_is_form
theorem p_is_form (T : Tx K mg A) (F_are_numbers : FnD P w K mg base clW 3 2 A.f_are_numbers d_are_numbers) (F_is_great : FnD P w K mg base clW 1 3 A.f_is_great d_is_great) (F_is_number : FnD P w K mg base clW 2 1 A.f_is_number d_is_number) {f : Addr} : ∀ (cdv : Value) (A : Around) (outer : List Env) (s : Shared) (H : Hp) (E : XK), Room 3 (A.deeper (envOfC "is_form" (defScope (top 28)) s.heap.objs.size f cdv)) →
    GSs clW (cxOf (L2.CX P w) P w K mg base ["thing", "bounds", "cell", "k"] "is_form" (defScope (top 28)) f cdv A outer s H E) (defBody (top 28)) b_is_form := fun cdv A outer s H E hr => by
  have sc := sc_is_form
  have hu := hr.units
  have hu1 := hu_of hr
  have TC := T.tc
  have TE := T.te
  exact (gss_cons (gs_if (gw_pt (gw_or (gt_not (gt_val (ge_isi1 (k := (.ty "tuple")) TC rfl T.n_isinstance (ge_var rfl (.inr (.inl rfl)) rfl rfl) (pe_bltn (v := .ty "tuple") (u := .type "tuple") rfl T.n_tuple (by decide +kernel) rfl (by decide) (by decide)) rfl rfl) (fun _ => rfl))) (gw_or (gt_cmp (ok_ne hu) (ge_b1 ok_len rfl T.n_len (by decide +kernel) (gh_var rfl (.inr (.inl rfl)) rfl rfl) (by decide) rfl rfl) ge_int rfl) (gw_or1 (gt_not (gt_val (ge_call F_is_number (hr.mono (by decide)) rfl T.g_is_number (ga_cons (ge_sub hu1 (gh_var rfl (.inr (.inl rfl)) rfl rfl) ge_int (fun _ _ => rfl)) ga_nil rfl) rfl rfl rfl) (fun _ => rfl))))))) (gss_one (gs_ret ge_bl)) gss_nil) (gss_cons (gs_if (gt_not (gt_val (ge_call F_are_numbers (hr.mono (by decide)) rfl T.g_are_numbers (ga_cons (ge_sub hu1 (gh_var rfl (.inr (.inl rfl)) rfl rfl) ge_int (fun _ _ => rfl)) (ga_cons (ge_b1 ok_len rfl T.n_len (by decide +kernel) (gh_var rfl (.inr (.inl rfl)) rfl rfl) (by decide) rfl rfl) ga_nil rfl) rfl) rfl rfl rfl) (fun _ => rfl))) (gss_one (gs_ret ge_bl)) gss_nil) (gss_one (gs_ret (ge_b1 (ok_all rfl) rfl T.n_all (by decide +kernel) (gh_of (ge_fz (gm_lc (own := [("k", 3)]) rfl sc.nd (gi_r1 rfl T.n_range (ga_cons (ge_b1 ok_len rfl T.n_len (by decide +kernel) (gh_var rfl (.inr (.inl rfl)) rfl rfl) (by decide) rfl rfl) ga_nil rfl) rfl) (blkOk_by (by kernel_rfl)) (by decide) (fun _ _ _ _ _ => (gn_name sc.nd rfl (.inl rfl) (.inr rfl))) (fun _ _ _ _ _ => gts_nil) (fun _ _ _ _ _ => (ge_or (ge_cmp (ok_eq hu) (ge_sub hu1 (gh_of (ge_sub hu1 (gh_var rfl (.inr (.inl rfl)) rfl rfl) ge_int (fun _ _ => rfl))) (ge_var rfl (.inl rfl) rfl rfl) (fun _ _ => rfl)) ge_int rfl) (ge_one (ge_call F_is_great (hr.mono (by decide)) rfl T.g_is_great (ga_cons (ge_var rfl (.inr (.inl rfl)) rfl rfl) (ga_cons (ge_var rfl (.inr (.inl rfl)) rfl rfl) (ga_cons (ge_var rfl (.inl rfl) rfl rfl) ga_nil rfl) rfl) rfl) rfl rfl rfl)))) (fun _ => rfl)))) (by decide) rfl rfl)))))

/-! ### is_row -/
theorem sc_is_row : FnScope ["thing", "bounds", "cell", "item"] ["thing", "bounds", "cell"] (defScope (top 29)) := ⟨rfl, rfl, rfl, by decide +kernel, rfl, by decide +kernel, by decide +kernel⟩
noncomputable def b_is_row : SX := (sSeq (sIf (bOr (bNot (bT (eIsi1 ctab (.ty "tuple") (eV 0)))) (bNot (bV (eChain leD leD (eC (.int 1)) (eH (hV 0) lenD) (eC (.int 12)))))) ((sRet (eC (.bl false)))) (sNil))
    (sRet (eH (hE (eFz (mLc (iS (eV 0)) (gN 3) bTrue (eCall d_is_form (aC (eV 3) (aC (eV 1) (aC (eV 2) aN)))) [3]))) allD)))
noncomputable def d_is_row : Den := runD 3 1 b_is_row
theorem p_is_row (T : Tx K mg A) (F_is_form : FnD P w K mg base clW 4 3 A.f_is_form d_is_form) {f : Addr} : ∀ (cdv : Value) (A : Around) (outer : List Env) (s : Shared) (H : Hp) (E : XK), Room 4 (A.deeper (envOfC "is_row" (defScope (top 29)) s.heap.objs.size f cdv)) →
    GSs clW (cxOf (L2.CX P w) P w K mg base ["thing", "bounds", "cell", "item"] "is_row" (defScope (top 29)) f cdv A outer s H E) (defBody (top 29)) b_is_row := fun cdv A outer s H E hr => by
  have sc := sc_is_row
  have hu := hr.units
  have hu1 := hu_of hr
  have TC := T.tc
  have TE := T.te
  exact (gss_cons (gs_if (gw_pt (gw_or (gt_not (gt_val (ge_isi1 (k := (.ty "tuple")) TC rfl T.n_isinstance (ge_var rfl (.inl rfl) rfl rfl) (pe_bltn (v := .ty "tuple") (u := .type "tuple") rfl T.n_tuple (by decide +kernel) rfl (by decide) (by decide)) rfl rfl) (fun _ => rfl))) (gw_or1 (gt_not (gt_chain ok_le ok_le ge_int (ge_b1 ok_len rfl T.n_len (by decide +kernel) (gh_var rfl (.inl rfl) rfl rfl) (by decide) rfl rfl) (ge_cst rfl T.g_MOST_FORMS (fun _ => rep_int.mpr rfl) rfl) rfl))))) (gss_one (gs_ret ge_bl)) gss_nil) (gss_one (gs_ret (ge_b1 (ok_all rfl) rfl T.n_all (by decide +kernel) (gh_of (ge_fz (gm_lc (own := [("item", 3)]) rfl sc.nd (gi_any (ge_var rfl (.inl rfl) rfl rfl)) (blkOk_by (by kernel_rfl)) (by decide) (fun _ _ _ _ _ => (gn_name sc.nd rfl (.inl rfl) (.inr rfl))) (fun _ _ _ _ _ => gts_nil) (fun _ _ _ _ _ => (ge_call F_is_form (hr.mono (by decide)) rfl T.g_is_form (ga_cons (ge_var rfl (.inl rfl) rfl rfl) (ga_cons (ge_var rfl (.inr (.inl rfl)) rfl rfl) (ga_cons (ge_var rfl (.inr (.inl rfl)) rfl rfl) ga_nil rfl) rfl) rfl) rfl rfl rfl)) (fun _ => rfl)))) (by decide) rfl rfl))))

/-! ### Table.keep -/
theorem sc_Table_keep : FnScope ["self", "bounds", "measures", "rows"] ["self", "bounds", "measures", "rows"] (defScope (inClass (top 30) 1)) := ⟨rfl, rfl, rfl, by decide +kernel, rfl, by decide +kernel, by decide +kernel⟩
noncomputable def b_Table_keep : SX := (sSeq (sFld (hV 0) "bounds" (eV 1))
    (sSeq (sFld (hV 0) "measures" (eV 2))
    (sFld (hV 0) "rows" (eV 3))))
noncomputable def d_Table_keep : DenO := runO 3 0 b_Table_keep
theorem p_Table_keep (T : Tx K mg A)  {f : Addr} : ∀ (cdv : Value) (A : Around) (outer : List Env) (s : Shared) (H : Hp) (E : XK), Room 0 (A.deeper (envOfC "Table.keep" (defScope (inClass (top 30) 1)) s.heap.objs.size f cdv)) →
    GSs clW (cxOf (L2.CX P w) P w K mg base ["self", "bounds", "measures", "rows"] "Table.keep" (defScope (inClass (top 30) 1)) f cdv A outer s H E) (defBody (inClass (top 30) 1)) b_Table_keep := fun cdv A outer s H E hr => by
  have sc := sc_Table_keep
  have hu := hr.units
  have hu1 := hu_of hr
  have TC := T.tc
  have TE := T.te
  exact (gss_cons (gs_fld (T.f_bounds) (gh_var rfl (.inl rfl) rfl rfl) (ge_var rfl (.inl rfl) rfl rfl) rfl) (gss_cons (gs_fld (T.f_measures) (gh_var rfl (.inl rfl) rfl rfl) (ge_var rfl (.inl rfl) rfl rfl) rfl) (gss_one (gs_fld (T.f_rows) (gh_var rfl (.inl rfl) rfl rfl) (ge_var rfl (.inl rfl) rfl rfl) rfl))))

/-! ### Table.__init__ -/
theorem sc_Table___init__ : FnScope ["self", "bounds", "measures", "rows", "cells", "k", "row"] ["self", "bounds", "measures", "rows"] (defScope (inClass (top 30) 0)) := ⟨rfl, rfl, rfl, by decide +kernel, rfl, by decide +kernel, by decide +kernel⟩
noncomputable def ot_keep : OTab := [("Table", d_Table_keep)]
noncomputable def L0_Table___init__ : SX := (sIf (bOr (bNot (bT (eCall d_is_row (aC (eV 6) (aC (eV 1) (aC (eHB (hV 4) (eV 5) idxD) aN)))))) (bV (eCmp neD (eH (hV 6) lenD) (eH (hE (eHB (hV 3) (eC (.int 0)) idxD)) lenD)))) (sNo) (sNil))
noncomputable def b_Table___init__ : SX := (sSeq (sIf (bNot (bT (eCall d_are_bounds (aC (eV 1) aN)))) (sNo) (sNil))
    (sSeq (sIf (bNot (bT (eCall d_are_measures (aC (eV 2) (aC (eH (hV 1) lenD) aN))))) (sNo) (sNil))
    (sSeq (sIf (bV (eCmp gtD (eCall d_many_cells (aC (eV 1) (aC (eV 2) aN))) (eC (.int 1000)))) (sNo) (sNil))
    (sSeq (sSet 4 (eCall d_cells_of (aC (eV 1) (aC (eV 2) aN))))
    (sSeq (sIf (bOr (bNot (bT (eIsi1 ctab (.ty "tuple") (eV 3)))) (bV (eCmp neD (eH (hV 3) lenD) (eH (hV 4) lenD)))) (sNo) (sNil))
    (sSeq (sFor (iEn (eV 3)) (gT [(gN 5), (gN 6)]) L0_Table___init__)
    (sMethO 0 "keep" ot_keep (aC (eV 1) (aC (eV 2) (aC (eV 3) aN))))))))))
noncomputable def d_Table___init__ : DenO := runO 3 3 b_Table___init__
theorem p_Table___init__ (T : Tx K mg A) (F_Table_keep : FnO P w K mg base clW 1 3 A.f_Table_keep d_Table_keep) (F_are_bounds : FnD P w K mg base clW 4 1 A.f_are_bounds d_are_bounds) (F_are_measures : FnD P w K mg base clW 4 2 A.f_are_measures d_are_measures) (F_cells_of : FnD P w K mg base clW 1 2 A.f_cells_of d_cells_of) (F_is_row : FnD P w K mg base clW 5 3 A.f_is_row d_is_row) (F_many_cells : FnD P w K mg base clW 1 2 A.f_many_cells d_many_cells) {f : Addr} : ∀ (cdv : Value) (A : Around) (outer : List Env) (s : Shared) (H : Hp) (E : XK), Room 5 (A.deeper (envOfC "Table.__init__" (defScope (inClass (top 30) 0)) s.heap.objs.size f cdv)) →
    GSs clW (cxOf (L2.CX P w) P w K mg base ["self", "bounds", "measures", "rows", "cells", "k", "row"] "Table.__init__" (defScope (inClass (top 30) 0)) f cdv A outer s H E) (defBody (inClass (top 30) 0)) b_Table___init__ := fun cdv A outer s H E hr => by
  have sc := sc_Table___init__
  have hu := hr.units
  have hu1 := hu_of hr
  have TC := T.tc
  have TE := T.te
  have O_keep : OOk P w K mg base clW 1 "keep" ot_keep := ⟨fun c den h => by
    rcases tab_c h with ⟨rfl, rfl⟩ | h
    · exact ⟨_, _, _, T.g_Table, T.me_Table_keep.1, T.me_Table_keep.2, F_Table_keep.mono (by decide)⟩
    exact tab_nil h⟩
  exact (gss_cons (gs_if (gt_not (gt_val (ge_call F_are_bounds (hr.mono (by decide)) rfl T.g_are_bounds (ga_cons (ge_var rfl (.inl rfl) rfl rfl) ga_nil rfl) rfl rfl rfl) (fun _ => rfl))) (gss_one gs_no) gss_nil) (gss_cons (gs_if (gt_not (gt_val (ge_call F_are_measures (hr.mono (by decide)) rfl T.g_are_measures (ga_cons (ge_var rfl (.inl rfl) rfl rfl) (ga_cons (ge_b1 ok_len rfl T.n_len (by decide +kernel) (gh_var rfl (.inl rfl) rfl rfl) (by decide) rfl rfl) ga_nil rfl) rfl) rfl rfl rfl) (fun _ => rfl))) (gss_one gs_no) gss_nil) (gss_cons (gs_if (gt_cmp ok_gt (ge_call F_many_cells (hr.mono (by decide)) rfl T.g_many_cells (ga_cons (ge_var rfl (.inl rfl) rfl rfl) (ga_cons (ge_var rfl (.inl rfl) rfl rfl) ga_nil rfl) rfl) rfl rfl rfl) (ge_cst rfl T.g_MOST_CELLS (fun _ => rep_int.mpr rfl) rfl) rfl) (gss_one gs_no) gss_nil) (gss_cons (gs_set sc.nd rfl (.inl rfl) (ge_call F_cells_of (hr.mono (by decide)) rfl T.g_cells_of (ga_cons (ge_var rfl (.inl rfl) rfl rfl) (ga_cons (ge_var rfl (.inl rfl) rfl rfl) ga_nil rfl) rfl) rfl rfl rfl) rfl (.inr rfl)) (gss_cons (gs_if (gw_pt (gw_or (gt_not (gt_val (ge_isi1 (k := (.ty "tuple")) TC rfl T.n_isinstance (ge_var rfl (.inl rfl) rfl rfl) (pe_bltn (v := .ty "tuple") (u := .type "tuple") rfl T.n_tuple (by decide +kernel) rfl (by decide) (by decide)) rfl rfl) (fun _ => rfl))) (gw_or1 (gt_cmp (ok_ne hu) (ge_b1 ok_len rfl T.n_len (by decide +kernel) (gh_var rfl (.inl rfl) rfl rfl) (by decide) rfl rfl) (ge_b1 ok_len rfl T.n_len (by decide +kernel) (gh_var rfl (.inl rfl) rfl rfl) (by decide) rfl rfl) rfl)))) (gss_one gs_no) gss_nil) (gss_cons (gs_for rfl (gi_en rfl T.n_enumerate (ge_var rfl (.inl rfl) rfl rfl) rfl) (gn_tup rfl (gns_cons (gn_name sc.nd rfl (.inl rfl) (.inr rfl)) (gns_cons (gn_name sc.nd rfl (.inl rfl) (.inr rfl)) gns_nil rfl) rfl) rfl rfl) (gss_one (gs_if (gw_pt (gw_or (gt_not (gt_val (ge_call F_is_row (hr.mono (by decide)) rfl T.g_is_row (ga_cons (ge_var rfl (.inl rfl) rfl rfl) (ga_cons (ge_var rfl (.inl rfl) rfl rfl) (ga_cons (ge_sub hu1 (gh_var rfl (.inl rfl) rfl rfl) (ge_var rfl (.inl rfl) rfl rfl) (fun _ _ => rfl)) ga_nil rfl) rfl) rfl) rfl rfl rfl) (fun _ => rfl))) (gw_or1 (gt_cmp (ok_ne hu) (ge_b1 ok_len rfl T.n_len (by decide +kernel) (gh_var rfl (.inl rfl) rfl rfl) (by decide) rfl rfl) (ge_b1 ok_len rfl T.n_len (by decide +kernel) (gh_of (ge_sub hu1 (gh_var rfl (.inl rfl) rfl rfl) ge_int (fun _ _ => rfl))) (by decide) rfl rfl) rfl)))) (gss_one gs_no) gss_nil)) (fun _ => rfl)) (gss_one (gs_methO O_keep (hr.mono (by decide)) rfl (.inl rfl) rfl rfl (ga_cons (ge_var rfl (.inl rfl) rfl rfl) (ga_cons (ge_var rfl (.inl rfl) rfl rfl) (ga_cons (ge_var rfl (.inl rfl) rfl rfl) ga_nil rfl) rfl) rfl) rfl rfl rfl rfl))))))))

/-! ### many_results -/
theorem sc_many_results : FnScope ["table"] ["table"] (defScope (top 31)) := ⟨rfl, rfl, rfl, by decide +kernel, rfl, by decide +kernel, by decide +kernel⟩
noncomputable def b_many_results : SX := (sRet (eH (hE (eHB (hE (eH (hV 0) (fldD "rows"))) (eC (.int 0)) idxD)) lenD))
noncomputable def d_many_results : Den := runD 1 0 b_many_results
theorem p_many_results (T : Tx K mg A)  {f : Addr} : ∀ (cdv : Value) (A : Around) (outer : List Env) (s : Shared) (H : Hp) (E : XK), Room 0 (A.deeper (envOfC "many_results" (defScope (top 31)) s.heap.objs.size f cdv)) →
    GSs clW (cxOf (L2.CX P w) P w K mg base ["table"] "many_results" (defScope (top 31)) f cdv A outer s H E) (defBody (top 31)) b_many_results := fun cdv A outer s H E hr => by
  have sc := sc_many_results
  have hu := hr.units
  have hu1 := hu_of hr
  have TC := T.tc
  have TE := T.te
  exact (gss_one (gs_ret (ge_b1 ok_len rfl T.n_len (by decide +kernel) (gh_of (ge_sub hu1 (gh_of (ge_fld (T.f_rows) (gh_var rfl (.inl rfl) rfl rfl) rfl)) ge_int (fun _ _ => rfl))) (by decide) rfl rfl)))

/-! ### name_by_number -/
theorem sc_name_by_number : FnScope ["number", "found", "place"] ["number"] (defScope (top 35)) := ⟨rfl, rfl, rfl, by decide +kernel, rfl, by decide +kernel, by decide +kernel⟩
noncomputable def L0_name_by_number : SX := (sSeq (sSet 1 (eBin addD (eHB (hE (eC (.str "abcdefghijklmnopqrstuvwxyz"))) (eBin modD (eV 0) (eC (.int 26))) idxD) (eV 1)))
    (sSet 0 (eBin fdivD (eV 0) (eC (.int 26)))))
noncomputable def b_name_by_number : SX := (sSeq (sSet 1 (eC (.str "")))
    (sSeq (sFor (iR1 (aC (eC (.int 4)) aN)) (gN 2) L0_name_by_number)
    (sRet (eV 1))))
noncomputable def d_name_by_number : Den := runD 1 2 b_name_by_number
theorem p_name_by_number (T : Tx K mg A)  {f : Addr} : ∀ (cdv : Value) (A : Around) (outer : List Env) (s : Shared) (H : Hp) (E : XK), Room 0 (A.deeper (envOfC "name_by_number" (defScope (top 35)) s.heap.objs.size f cdv)) →
    GSs clW (cxOf (L2.CX P w) P w K mg base ["number", "found", "place"] "name_by_number" (defScope (top 35)) f cdv A outer s H E) (defBody (top 35)) b_name_by_number := fun cdv A outer s H E hr => by
  have sc := sc_name_by_number
  have hu := hr.units
  have hu1 := hu_of hr
  have TC := T.tc
  have TE := T.te
  exact (gss_cons (gs_set sc.nd rfl (.inl rfl) ge_str rfl (.inr rfl)) (gss_cons (gs_for rfl (gi_r1 rfl T.n_range (ga_cons ge_int ga_nil rfl) rfl) (gn_name sc.nd rfl (.inl rfl) (.inr rfl)) (gss_cons (gs_set sc.nd rfl (.inl rfl) (ge_bin ok_add (ge_sub hu1 (gh_of (ge_cst rfl T.g_LETTERS (fun _ => rep_str.mpr rfl) rfl)) (ge_bin ok_mod (ge_var rfl (.inl rfl) rfl rfl) ge_int) (fun _ _ => rfl)) (ge_var rfl (.inl rfl) rfl rfl)) rfl (.inr rfl)) (gss_one (gs_set sc.nd rfl (.inl rfl) (ge_bin ok_fdiv (ge_var rfl (.inl rfl) rfl rfl) ge_int) rfl (.inr rfl)))) (fun _ => rfl)) (gss_one (gs_ret (ge_var rfl (.inl rfl) rfl rfl)))))

/-! ### Maker.__init__ -/
theorem sc_Maker___init__ : FnScope ["self", "taken", "name"] ["self", "taken"] (defScope (inClass (top 36) 0)) := ⟨rfl, rfl, rfl, by decide +kernel, rfl, by decide +kernel, by decide +kernel⟩
noncomputable def b_Maker___init__ : SX := (sSeq (sFld (hV 0) "taken" (eFz (mDc (iS (eV 1)) (gN 2) bTrue (eV 2) (eC (.bl true)) [2])))
    (sSeq (sFld (hV 0) "used" (eC (.int 0)))
    (sFld (hV 0) "block" (eAl (mLst aN)))))
noncomputable def d_Maker___init__ : DenO := runO 1 1 b_Maker___init__
theorem p_Maker___init__ (T : Tx K mg A)  {f : Addr} : ∀ (cdv : Value) (A : Around) (outer : List Env) (s : Shared) (H : Hp) (E : XK), Room 0 (A.deeper (envOfC "Maker.__init__" (defScope (inClass (top 36) 0)) s.heap.objs.size f cdv)) →
    GSs clW (cxOf (L2.CX P w) P w K mg base ["self", "taken", "name"] "Maker.__init__" (defScope (inClass (top 36) 0)) f cdv A outer s H E) (defBody (inClass (top 36) 0)) b_Maker___init__ := fun cdv A outer s H E hr => by
  have sc := sc_Maker___init__
  have hu := hr.units
  have hu1 := hu_of hr
  have TC := T.tc
  have TE := T.te
  exact (gss_cons (gs_fld (T.f_taken) (gh_var rfl (.inl rfl) rfl rfl) (ge_fz (gm_dc (own := [("name", 2)]) rfl sc.nd (gi_any (ge_var rfl (.inl rfl) rfl rfl)) (blkOk_by (by kernel_rfl)) (by decide) (fun _ _ _ _ _ => (gn_name sc.nd rfl (.inl rfl) (.inr rfl))) (fun _ _ _ _ _ => gts_nil) (fun _ _ _ _ _ => (ge_var rfl (.inl rfl) rfl rfl)) (fun _ _ _ _ _ => ge_bl) (fun _ => rfl))) rfl) (gss_cons (gs_fld (T.f_used) (gh_var rfl (.inl rfl) rfl rfl) ge_int rfl) (gss_one (gs_fld (T.f_block) (gh_var rfl (.inl rfl) rfl rfl) (ge_al (gm_lst ga_nil)) rfl))))

/-! ### Maker.fresh -/
theorem sc_Maker_fresh : FnScope ["self", "name"] ["self"] (defScope (inClass (top 36) 1)) := ⟨rfl, rfl, rfl, by decide +kernel, rfl, by decide +kernel, by decide +kernel⟩
noncomputable def W0_Maker_fresh : SX := (sSeq (sFld (hV 0) "used" (eBin addD (eH (hV 0) (fldD "used")) (eC (.int 1))))
    (sSet 1 (eCall d_name_by_number (aC (eH (hV 0) (fldD "used")) aN))))
noncomputable def b_Maker_fresh : SX := (sSeq (sSet 1 (eCall d_name_by_number (aC (eH (hV 0) (fldD "used")) aN)))
    (sSeq (sWhile (bV (eInH false (eV 1) (hE (eH (hV 0) (fldD "taken"))))) W0_Maker_fresh)
    (sSeq (sFld (hV 0) "used" (eBin addD (eH (hV 0) (fldD "used")) (eC (.int 1))))
    (sRet (eV 1)))))
noncomputable def d_Maker_fresh : Den := runD 1 1 b_Maker_fresh
theorem p_Maker_fresh (T : Tx K mg A) (F_name_by_number : FnD P w K mg base clW 1 1 A.f_name_by_number d_name_by_number) {f : Addr} : ∀ (cdv : Value) (A : Around) (outer : List Env) (s : Shared) (H : Hp) (E : XK), Room 1 (A.deeper (envOfC "Maker.fresh" (defScope (inClass (top 36) 1)) s.heap.objs.size f cdv)) →
    GSs clW (cxOf (L2.CX P w) P w K mg base ["self", "name"] "Maker.fresh" (defScope (inClass (top 36) 1)) f cdv A outer s H E) (defBody (inClass (top 36) 1)) b_Maker_fresh := fun cdv A outer s H E hr => by
  have sc := sc_Maker_fresh
  have hu := hr.units
  have hu1 := hu_of hr
  have TC := T.tc
  have TE := T.te
  exact (gss_cons (gs_set sc.nd rfl (.inl rfl) (ge_call F_name_by_number (hr.mono (by decide)) rfl T.g_name_by_number (ga_cons (ge_fld (T.f_used) (gh_var rfl (.inl rfl) rfl rfl) rfl) ga_nil rfl) rfl rfl rfl) rfl (.inr rfl)) (gss_cons (gs_while (gt_in hu1 false (ge_var rfl (.inl rfl) rfl rfl) (gh_of (ge_fld (T.f_taken) (gh_var rfl (.inl rfl) rfl rfl) rfl)) rfl) (gss_cons (gs_fld (T.f_used) (gh_var rfl (.inl rfl) rfl rfl) (ge_bin ok_add (ge_fld (T.f_used) (gh_var rfl (.inl rfl) rfl rfl) rfl) ge_int) rfl) (gss_one (gs_set sc.nd rfl (.inl rfl) (ge_call F_name_by_number (hr.mono (by decide)) rfl T.g_name_by_number (ga_cons (ge_fld (T.f_used) (gh_var rfl (.inl rfl) rfl rfl) rfl) ga_nil rfl) rfl rfl rfl) rfl (.inr rfl))))) (gss_cons (gs_fld (T.f_used) (gh_var rfl (.inl rfl) rfl rfl) (ge_bin ok_add (ge_fld (T.f_used) (gh_var rfl (.inl rfl) rfl rfl) rfl) ge_int) rfl) (gss_one (gs_ret (ge_var rfl (.inl rfl) rfl rfl))))))

/-! ### Maker.many_fresh -/
theorem sc_Maker_many_fresh : FnScope ["self", "many", "at"] ["self", "many"] (defScope (inClass (top 36) 2)) := ⟨rfl, rfl, rfl, by decide +kernel, rfl, by decide +kernel, by decide +kernel⟩
noncomputable def mt_fresh : GTab := [("Maker", d_Maker_fresh)]
noncomputable def b_Maker_many_fresh : SX := (sRet (eFz (mLc (iR1 (aC (eV 1) aN)) (gN 2) bTrue (eMeth "fresh" mt_fresh (eV 0) aN) [2])))
noncomputable def d_Maker_many_fresh : Den := runD 2 1 b_Maker_many_fresh
theorem p_Maker_many_fresh (T : Tx K mg A) (F_Maker_fresh : FnD P w K mg base clW 2 1 A.f_Maker_fresh d_Maker_fresh) {f : Addr} : ∀ (cdv : Value) (A : Around) (outer : List Env) (s : Shared) (H : Hp) (E : XK), Room 2 (A.deeper (envOfC "Maker.many_fresh" (defScope (inClass (top 36) 2)) s.heap.objs.size f cdv)) →
    GSs clW (cxOf (L2.CX P w) P w K mg base ["self", "many", "at"] "Maker.many_fresh" (defScope (inClass (top 36) 2)) f cdv A outer s H E) (defBody (inClass (top 36) 2)) b_Maker_many_fresh := fun cdv A outer s H E hr => by
  have sc := sc_Maker_many_fresh
  have hu := hr.units
  have hu1 := hu_of hr
  have TC := T.tc
  have TE := T.te
  have M_fresh : MOk' P w K mg base clW 2 "fresh" mt_fresh := ⟨fun c den h => by
    rcases tab_c h with ⟨rfl, rfl⟩ | h
    · exact ⟨_, _, _, T.g_Maker, T.me_Maker_fresh.1, T.me_Maker_fresh.2, F_Maker_fresh.mono (by decide)⟩
    exact tab_nil h⟩
  exact (gss_one (gs_ret (ge_fz (gm_lc (own := [("at", 2)]) rfl sc.nd (gi_r1 rfl T.n_range (ga_cons (ge_var rfl (.inl rfl) rfl rfl) ga_nil rfl) rfl) (blkOk_by (by kernel_rfl)) (by decide) (fun _ _ _ _ _ => (gn_name sc.nd rfl (.inl rfl) (.inr rfl))) (fun _ _ _ _ _ => gts_nil) (fun _ _ _ _ _ => (ge_meth0 M_fresh (hr.mono (by decide)) (ge_var rfl (.inr (.inl rfl)) rfl rfl) rfl)) (fun _ => rfl)))))

/-! ### Maker.put -/
theorem sc_Maker_put : FnScope ["self", "statement"] ["self", "statement"] (defScope (inClass (top 36) 3)) := ⟨rfl, rfl, rfl, by decide +kernel, rfl, by decide +kernel, by decide +kernel⟩
noncomputable def b_Maker_put : SX := (sMt (hE (eH (hV 0) (fldD "block"))) (aC (eV 1) aN) appD)
noncomputable def d_Maker_put : Den := runD 2 0 b_Maker_put
theorem p_Maker_put (T : Tx K mg A)  {f : Addr} : ∀ (cdv : Value) (A : Around) (outer : List Env) (s : Shared) (H : Hp) (E : XK), Room 0 (A.deeper (envOfC "Maker.put" (defScope (inClass (top 36) 3)) s.heap.objs.size f cdv)) →
    GSs clW (cxOf (L2.CX P w) P w K mg base ["self", "statement"] "Maker.put" (defScope (inClass (top 36) 3)) f cdv A outer s H E) (defBody (inClass (top 36) 3)) b_Maker_put := fun cdv A outer s H E hr => by
  have sc := sc_Maker_put
  have hu := hr.units
  have hu1 := hu_of hr
  have TC := T.tc
  have TE := T.te
  exact (gss_one (gs_mt PySem.F.slot_list_append PySem.F.type_list_append mt_append mt_app (gh_of (ge_fld (T.f_block) (gh_var rfl (.inl rfl) rfl rfl) rfl)) (ga_cons (ge_var rfl (.inl rfl) rfl rfl) ga_nil rfl) rfl rfl rfl rfl rfl rfl))

/-! ### Maker.one -/
theorem sc_Maker_one : FnScope ["self", "name"] ["self"] (defScope (inClass (top 36) 4)) := ⟨rfl, rfl, rfl, by decide +kernel, rfl, by decide +kernel, by decide +kernel⟩
noncomputable def mt_put : GTab := [("Maker", d_Maker_put)]
noncomputable def b_Maker_one : SX := (sSeq (sSet 1 (eMeth "fresh" mt_fresh (eV 0) aN))
    (sSeq (sExpr (eMeth "put" mt_put (eV 0) (aC (eTup (aC (eC (.str "more")) (aC (eV 1) aN))) aN)))
    (sRet (eV 1))))
noncomputable def d_Maker_one : Den := runD 1 1 b_Maker_one
theorem p_Maker_one (T : Tx K mg A) (F_Maker_fresh : FnD P w K mg base clW 2 1 A.f_Maker_fresh d_Maker_fresh) (F_Maker_put : FnD P w K mg base clW 1 2 A.f_Maker_put d_Maker_put) {f : Addr} : ∀ (cdv : Value) (A : Around) (outer : List Env) (s : Shared) (H : Hp) (E : XK), Room 2 (A.deeper (envOfC "Maker.one" (defScope (inClass (top 36) 4)) s.heap.objs.size f cdv)) →
    GSs clW (cxOf (L2.CX P w) P w K mg base ["self", "name"] "Maker.one" (defScope (inClass (top 36) 4)) f cdv A outer s H E) (defBody (inClass (top 36) 4)) b_Maker_one := fun cdv A outer s H E hr => by
  have sc := sc_Maker_one
  have hu := hr.units
  have hu1 := hu_of hr
  have TC := T.tc
  have TE := T.te
  have M_fresh : MOk' P w K mg base clW 2 "fresh" mt_fresh := ⟨fun c den h => by
    rcases tab_c h with ⟨rfl, rfl⟩ | h
    · exact ⟨_, _, _, T.g_Maker, T.me_Maker_fresh.1, T.me_Maker_fresh.2, F_Maker_fresh.mono (by decide)⟩
    exact tab_nil h⟩
  have M_put : MOk' P w K mg base clW 1 "put" mt_put := ⟨fun c den h => by
    rcases tab_c h with ⟨rfl, rfl⟩ | h
    · exact ⟨_, _, _, T.g_Maker, T.me_Maker_put.1, T.me_Maker_put.2, F_Maker_put.mono (by decide)⟩
    exact tab_nil h⟩
  exact (gss_cons (gs_set sc.nd rfl (.inl rfl) (ge_meth0 M_fresh (hr.mono (by decide)) (ge_var rfl (.inl rfl) rfl rfl) rfl) rfl (.inr rfl)) (gss_cons (gs_expr (ge_meth M_put (hr.mono (by decide)) (ge_var rfl (.inl rfl) rfl rfl) (ga_cons (ge_tup (ga_cons ge_str (ga_cons (ge_var rfl (.inl rfl) rfl rfl) ga_nil rfl) rfl)) ga_nil rfl) rfl rfl rfl) rfl) (gss_one (gs_ret (ge_var rfl (.inl rfl) rfl rfl)))))

/-! ### Maker.copied_if -/
theorem sc_Maker_copied_if : FnScope ["self", "flag", "name", "source"] ["self", "flag", "name", "source"] (defScope (inClass (top 36) 5)) := ⟨rfl, rfl, rfl, by decide +kernel, rfl, by decide +kernel, by decide +kernel⟩
noncomputable def b_Maker_copied_if : SX := (sExpr (eMeth "put" mt_put (eV 0) (aC (eTup (aC (eC (.str "round")) (aC (eV 1) (aC (eTup (aC (eTup (aC (eC (.str "copy")) (aC (eV 2) (aC (eV 3) aN)))) aN)) aN)))) aN)))
noncomputable def d_Maker_copied_if : Den := runD 4 0 b_Maker_copied_if
theorem p_Maker_copied_if (T : Tx K mg A) (F_Maker_put : FnD P w K mg base clW 1 2 A.f_Maker_put d_Maker_put) {f : Addr} : ∀ (cdv : Value) (A : Around) (outer : List Env) (s : Shared) (H : Hp) (E : XK), Room 1 (A.deeper (envOfC "Maker.copied_if" (defScope (inClass (top 36) 5)) s.heap.objs.size f cdv)) →
    GSs clW (cxOf (L2.CX P w) P w K mg base ["self", "flag", "name", "source"] "Maker.copied_if" (defScope (inClass (top 36) 5)) f cdv A outer s H E) (defBody (inClass (top 36) 5)) b_Maker_copied_if := fun cdv A outer s H E hr => by
  have sc := sc_Maker_copied_if
  have hu := hr.units
  have hu1 := hu_of hr
  have TC := T.tc
  have TE := T.te
  have M_put : MOk' P w K mg base clW 1 "put" mt_put := ⟨fun c den h => by
    rcases tab_c h with ⟨rfl, rfl⟩ | h
    · exact ⟨_, _, _, T.g_Maker, T.me_Maker_put.1, T.me_Maker_put.2, F_Maker_put.mono (by decide)⟩
    exact tab_nil h⟩
  exact (gss_one (gs_expr (ge_meth M_put (hr.mono (by decide)) (ge_var rfl (.inl rfl) rfl rfl) (ga_cons (ge_tup (ga_cons ge_str (ga_cons (ge_var rfl (.inl rfl) rfl rfl) (ga_cons (ge_tup (ga_cons (ge_tup (ga_cons ge_str (ga_cons (ge_var rfl (.inl rfl) rfl rfl) (ga_cons (ge_var rfl (.inl rfl) rfl rfl) ga_nil rfl) rfl) rfl)) ga_nil rfl)) ga_nil rfl) rfl) rfl)) ga_nil rfl) rfl rfl rfl) rfl))

/-! ### Maker.reached -/
theorem sc_Maker_reached : FnScope ["self", "name", "bound", "flags", "lags", "deeds", "at"] ["self", "name", "bound"] (defScope (inClass (top 36) 6)) := ⟨rfl, rfl, rfl, by decide +kernel, rfl, by decide +kernel, by decide +kernel⟩
noncomputable def mt_many_fresh : GTab := [("Maker", d_Maker_many_fresh)]
noncomputable def mt_one : GTab := [("Maker", d_Maker_one)]
noncomputable def b_Maker_reached : SX := (sSeq (sSet 3 (eBin addD (eFz (mLst (aC (eMeth "one" mt_one (eV 0) aN) aN))) (eMeth "many_fresh" mt_many_fresh (eV 0) (aC (eV 2) aN))))
    (sSeq (sSet 4 (eMeth "many_fresh" mt_many_fresh (eV 0) (aC (eBin addD (eV 2) (eC (.int 1))) aN)))
    (sSeq (sOwn 5 (mLc (iR3 (aC (eV 2) (aC (eC (.int 0)) (aC (eUn negD (eC (.int 1))) aN)))) (gN 6) bTrue (eTup (aC (eC (.str "copy")) (aC (eHB (hV 3) (eV 6) idxD) (aC (eHB (hV 3) (eBin subD (eV 6) (eC (.int 1))) idxD) aN)))) [6]))
    (sSeq (sMt (hV 5) (aC (eFz (mLc (iR1 (aC (eV 2) aN)) (gN 6) bTrue (eTup (aC (eC (.str "copy")) (aC (eHB (hV 4) (eV 6) idxD) (aC (eHB (hV 4) (eBin addD (eV 6) (eC (.int 1))) idxD) aN)))) [6])) aN) extD)
    (sSeq (sMt (hV 5) (aC (eTup (aC (eC (.str "more")) (aC (eHB (hV 4) (eV 2) idxD) aN))) aN) appD)
    (sSeq (sExpr (eMeth "put" mt_put (eV 0) (aC (eTup (aC (eC (.str "round")) (aC (eV 1) (aC (eH (hV 5) tupleD) aN)))) aN)))
    (sRet (eTup (aC (eV 3) (aC (eHB (hV 4) (eC (.int 0)) idxD) aN))))))))))
noncomputable def d_Maker_reached : Den := runD 3 4 b_Maker_reached
theorem p_Maker_reached (T : Tx K mg A) (F_Maker_many_fresh : FnD P w K mg base clW 3 2 A.f_Maker_many_fresh d_Maker_many_fresh) (F_Maker_one : FnD P w K mg base clW 3 1 A.f_Maker_one d_Maker_one) (F_Maker_put : FnD P w K mg base clW 1 2 A.f_Maker_put d_Maker_put) {f : Addr} : ∀ (cdv : Value) (A : Around) (outer : List Env) (s : Shared) (H : Hp) (E : XK), Room 3 (A.deeper (envOfC "Maker.reached" (defScope (inClass (top 36) 6)) s.heap.objs.size f cdv)) →
    GSs clW (cxOf (L2.CX P w) P w K mg base ["self", "name", "bound", "flags", "lags", "deeds", "at"] "Maker.reached" (defScope (inClass (top 36) 6)) f cdv A outer s H E) (defBody (inClass (top 36) 6)) b_Maker_reached := fun cdv A outer s H E hr => by
  have sc := sc_Maker_reached
  have hu := hr.units
  have hu1 := hu_of hr
  have TC := T.tc
  have TE := T.te
  have M_many_fresh : MOk' P w K mg base clW 3 "many_fresh" mt_many_fresh := ⟨fun c den h => by
    rcases tab_c h with ⟨rfl, rfl⟩ | h
    · exact ⟨_, _, _, T.g_Maker, T.me_Maker_many_fresh.1, T.me_Maker_many_fresh.2, F_Maker_many_fresh.mono (by decide)⟩
    exact tab_nil h⟩
  have M_one : MOk' P w K mg base clW 3 "one" mt_one := ⟨fun c den h => by
    rcases tab_c h with ⟨rfl, rfl⟩ | h
    · exact ⟨_, _, _, T.g_Maker, T.me_Maker_one.1, T.me_Maker_one.2, F_Maker_one.mono (by decide)⟩
    exact tab_nil h⟩
  have M_put : MOk' P w K mg base clW 1 "put" mt_put := ⟨fun c den h => by
    rcases tab_c h with ⟨rfl, rfl⟩ | h
    · exact ⟨_, _, _, T.g_Maker, T.me_Maker_put.1, T.me_Maker_put.2, F_Maker_put.mono (by decide)⟩
    exact tab_nil h⟩
  exact (gss_cons (gs_set sc.nd rfl (.inr rfl) (ge_bin ok_add (ge_fz (gm_lst (ga_cons (ge_meth0 M_one (hr.mono (by decide)) (ge_var rfl (.inl rfl) rfl rfl) rfl) ga_nil rfl))) (ge_meth M_many_fresh (hr.mono (by decide)) (ge_var rfl (.inl rfl) rfl rfl) (ga_cons (ge_var rfl (.inl rfl) rfl rfl) ga_nil rfl) rfl rfl rfl)) rfl (.inl rfl)) (gss_cons (gs_set sc.nd rfl (.inr rfl) (ge_meth M_many_fresh (hr.mono (by decide)) (ge_var rfl (.inl rfl) rfl rfl) (ga_cons (ge_bin ok_add (ge_var rfl (.inl rfl) rfl rfl) ge_int) ga_nil rfl) rfl rfl rfl) rfl (.inl rfl)) (gss_cons (gs_own (by decide) (gms_lc (own := [("at", 6)]) rfl sc.nd rfl rfl (sw_true rfl rfl rfl rfl) (gi_r3 rfl T.n_range (ga_cons (ge_var rfl (.inl rfl) rfl rfl) (ga_cons ge_int (ga_cons (ge_neg ge_int) ga_nil rfl) rfl) rfl) rfl rfl) (blkOk_by (by kernel_rfl)) (by decide) (fun _ _ _ _ _ => (gn_name sc.nd rfl (.inl rfl) (.inr rfl))) (fun _ _ _ _ _ => gts_nil) (fun _ _ _ _ _ => (ge_tup (ga_cons ge_str (ga_cons (ge_sub hu1 (gh_var rfl (.inr (.inl rfl)) rfl rfl) (ge_var rfl (.inl rfl) rfl rfl) (fun _ _ => rfl)) (ga_cons (ge_sub hu1 (gh_var rfl (.inr (.inl rfl)) rfl rfl) (ge_bin ok_sub (ge_var rfl (.inl rfl) rfl rfl) ge_int) (fun _ _ => rfl)) ga_nil rfl) rfl) rfl))) (fun _ => rfl))) (gss_cons (gs_mt PySem.F.slot_list_extend PySem.F.type_list_extend mt_extend mt_ext (gh_var rfl (.inl rfl) rfl rfl) (ga_cons (ge_fz (gm_lc (own := [("at", 6)]) rfl sc.nd (gi_r1 rfl T.n_range (ga_cons (ge_var rfl (.inl rfl) rfl rfl) ga_nil rfl) rfl) (blkOk_by (by kernel_rfl)) (by decide) (fun _ _ _ _ _ => (gn_name sc.nd rfl (.inl rfl) (.inr rfl))) (fun _ _ _ _ _ => gts_nil) (fun _ _ _ _ _ => (ge_tup (ga_cons ge_str (ga_cons (ge_sub hu1 (gh_var rfl (.inr (.inl rfl)) rfl rfl) (ge_var rfl (.inl rfl) rfl rfl) (fun _ _ => rfl)) (ga_cons (ge_sub hu1 (gh_var rfl (.inr (.inl rfl)) rfl rfl) (ge_bin ok_add (ge_var rfl (.inl rfl) rfl rfl) ge_int) (fun _ _ => rfl)) ga_nil rfl) rfl) rfl))) (fun _ => rfl))) ga_nil rfl) rfl rfl rfl rfl rfl rfl) (gss_cons (gs_mt PySem.F.slot_list_append PySem.F.type_list_append mt_append mt_app (gh_var rfl (.inl rfl) rfl rfl) (ga_cons (ge_tup (ga_cons ge_str (ga_cons (ge_sub hu1 (gh_var rfl (.inr (.inl rfl)) rfl rfl) (ge_var rfl (.inl rfl) rfl rfl) (fun _ _ => rfl)) ga_nil rfl) rfl)) ga_nil rfl) rfl rfl rfl rfl rfl rfl) (gss_cons (gs_expr (ge_meth M_put (hr.mono (by decide)) (ge_var rfl (.inl rfl) rfl rfl) (ga_cons (ge_tup (ga_cons ge_str (ga_cons (ge_var rfl (.inl rfl) rfl rfl) (ga_cons (ge_t1 ok_tuple rfl T.n_tuple (by decide +kernel) (gh_var rfl (.inl rfl) rfl rfl) (by decide) rfl rfl) ga_nil rfl) rfl) rfl)) ga_nil rfl) rfl rfl rfl) rfl) (gss_one (gs_ret (ge_tup (ga_cons (ge_var rfl (.inr (.inl rfl)) rfl rfl) (ga_cons (ge_sub hu1 (gh_var rfl (.inr (.inl rfl)) rfl rfl) ge_int (fun _ _ => rfl)) ga_nil rfl) rfl))))))))))

/-! ### Maker.divided -/
theorem sc_Maker_divided : FnScope ["self", "name", "measure", "rests", "times", "spare", "deeds", "at"] ["self", "name", "measure"] (defScope (inClass (top 36) 7)) := ⟨rfl, rfl, rfl, by decide +kernel, rfl, by decide +kernel, by decide +kernel⟩
noncomputable def b_Maker_divided : SX := (sSeq (sSet 3 (eBin addD (eFz (mLst (aC (eMeth "one" mt_one (eV 0) aN) aN))) (eMeth "many_fresh" mt_many_fresh (eV 0) (aC (eBin subD (eV 2) (eC (.int 1))) aN))))
    (sSeq (sSet 4 (eMeth "many_fresh" mt_many_fresh (eV 0) (aC (eV 2) aN)))
    (sSeq (sSet 5 (eMeth "fresh" mt_fresh (eV 0) aN))
    (sSeq (sOwn 6 (mLst (aC (eTup (aC (eC (.str "copy")) (aC (eV 5) (aC (eHB (hV 3) (eUn negD (eC (.int 1))) idxD) aN)))) aN)))
    (sSeq (sMt (hV 6) (aC (eFz (mLc (iR3 (aC (eBin subD (eV 2) (eC (.int 1))) (aC (eC (.int 0)) (aC (eUn negD (eC (.int 1))) aN)))) (gN 7) bTrue (eTup (aC (eC (.str "copy")) (aC (eHB (hV 3) (eV 7) idxD) (aC (eHB (hV 3) (eBin subD (eV 7) (eC (.int 1))) idxD) aN)))) [7])) aN) extD)
    (sSeq (sMt (hV 6) (aC (eFz (mLst (aC (eTup (aC (eC (.str "copy")) (aC (eHB (hV 3) (eC (.int 0)) idxD) (aC (eV 5) aN)))) (aC (eTup (aC (eC (.str "copy")) (aC (eV 5) (aC (eHB (hV 4) (eC (.int 0)) idxD) aN)))) aN)))) aN) extD)
    (sSeq (sMt (hV 6) (aC (eFz (mLc (iR1 (aC (eBin subD (eV 2) (eC (.int 1))) aN)) (gN 7) bTrue (eTup (aC (eC (.str "copy")) (aC (eHB (hV 4) (eV 7) idxD) (aC (eHB (hV 4) (eBin addD (eV 7) (eC (.int 1))) idxD) aN)))) [7])) aN) extD)
    (sSeq (sMt (hV 6) (aC (eFz (mLst (aC (eTup (aC (eC (.str "copy")) (aC (eHB (hV 4) (eUn negD (eC (.int 1))) idxD) (aC (eV 5) aN)))) (aC (eTup (aC (eC (.str "more")) (aC (eHB (hV 4) (eUn negD (eC (.int 1))) idxD) aN))) aN)))) aN) extD)
    (sSeq (sExpr (eMeth "put" mt_put (eV 0) (aC (eTup (aC (eC (.str "round")) (aC (eV 1) (aC (eH (hV 6) tupleD) aN)))) aN)))
    (sRet (eTup (aC (eV 3) (aC (eHB (hV 4) (eC (.int 0)) idxD) aN)))))))))))))
noncomputable def d_Maker_divided : Den := runD 3 5 b_Maker_divided
theorem p_Maker_divided (T : Tx K mg A) (F_Maker_fresh : FnD P w K mg base clW 2 1 A.f_Maker_fresh d_Maker_fresh) (F_Maker_many_fresh : FnD P w K mg base clW 3 2 A.f_Maker_many_fresh d_Maker_many_fresh) (F_Maker_one : FnD P w K mg base clW 3 1 A.f_Maker_one d_Maker_one) (F_Maker_put : FnD P w K mg base clW 1 2 A.f_Maker_put d_Maker_put) {f : Addr} : ∀ (cdv : Value) (A : Around) (outer : List Env) (s : Shared) (H : Hp) (E : XK), Room 3 (A.deeper (envOfC "Maker.divided" (defScope (inClass (top 36) 7)) s.heap.objs.size f cdv)) →
    GSs clW (cxOf (L2.CX P w) P w K mg base ["self", "name", "measure", "rests", "times", "spare", "deeds", "at"] "Maker.divided" (defScope (inClass (top 36) 7)) f cdv A outer s H E) (defBody (inClass (top 36) 7)) b_Maker_divided := fun cdv A outer s H E hr => by
  have sc := sc_Maker_divided
  have hu := hr.units
  have hu1 := hu_of hr
  have TC := T.tc
  have TE := T.te
  have M_fresh : MOk' P w K mg base clW 2 "fresh" mt_fresh := ⟨fun c den h => by
    rcases tab_c h with ⟨rfl, rfl⟩ | h
    · exact ⟨_, _, _, T.g_Maker, T.me_Maker_fresh.1, T.me_Maker_fresh.2, F_Maker_fresh.mono (by decide)⟩
    exact tab_nil h⟩
  have M_many_fresh : MOk' P w K mg base clW 3 "many_fresh" mt_many_fresh := ⟨fun c den h => by
    rcases tab_c h with ⟨rfl, rfl⟩ | h
    · exact ⟨_, _, _, T.g_Maker, T.me_Maker_many_fresh.1, T.me_Maker_many_fresh.2, F_Maker_many_fresh.mono (by decide)⟩
    exact tab_nil h⟩
  have M_one : MOk' P w K mg base clW 3 "one" mt_one := ⟨fun c den h => by
    rcases tab_c h with ⟨rfl, rfl⟩ | h
    · exact ⟨_, _, _, T.g_Maker, T.me_Maker_one.1, T.me_Maker_one.2, F_Maker_one.mono (by decide)⟩
    exact tab_nil h⟩
  have M_put : MOk' P w K mg base clW 1 "put" mt_put := ⟨fun c den h => by
    rcases tab_c h with ⟨rfl, rfl⟩ | h
    · exact ⟨_, _, _, T.g_Maker, T.me_Maker_put.1, T.me_Maker_put.2, F_Maker_put.mono (by decide)⟩
    exact tab_nil h⟩
  exact (gss_cons (gs_set sc.nd rfl (.inr rfl) (ge_bin ok_add (ge_fz (gm_lst (ga_cons (ge_meth0 M_one (hr.mono (by decide)) (ge_var rfl (.inl rfl) rfl rfl) rfl) ga_nil rfl))) (ge_meth M_many_fresh (hr.mono (by decide)) (ge_var rfl (.inl rfl) rfl rfl) (ga_cons (ge_bin ok_sub (ge_var rfl (.inl rfl) rfl rfl) ge_int) ga_nil rfl) rfl rfl rfl)) rfl (.inl rfl)) (gss_cons (gs_set sc.nd rfl (.inr rfl) (ge_meth M_many_fresh (hr.mono (by decide)) (ge_var rfl (.inl rfl) rfl rfl) (ga_cons (ge_var rfl (.inl rfl) rfl rfl) ga_nil rfl) rfl rfl rfl) rfl (.inl rfl)) (gss_cons (gs_set sc.nd rfl (.inl rfl) (ge_meth0 M_fresh (hr.mono (by decide)) (ge_var rfl (.inl rfl) rfl rfl) rfl) rfl (.inr rfl)) (gss_cons (gs_own (by decide) (gms_of sc.nd rfl (.inl rfl) (gm_lst (ga_cons (ge_tup (ga_cons ge_str (ga_cons (ge_var rfl (.inl rfl) rfl rfl) (ga_cons (ge_sub hu1 (gh_var rfl (.inr (.inl rfl)) rfl rfl) (ge_neg ge_int) (fun _ _ => rfl)) ga_nil rfl) rfl) rfl)) ga_nil rfl)) rfl (.inr rfl))) (gss_cons (gs_mt PySem.F.slot_list_extend PySem.F.type_list_extend mt_extend mt_ext (gh_var rfl (.inl rfl) rfl rfl) (ga_cons (ge_fz (gm_lc (own := [("at", 7)]) rfl sc.nd (gi_r3 rfl T.n_range (ga_cons (ge_bin ok_sub (ge_var rfl (.inl rfl) rfl rfl) ge_int) (ga_cons ge_int (ga_cons (ge_neg ge_int) ga_nil rfl) rfl) rfl) rfl rfl) (blkOk_by (by kernel_rfl)) (by decide) (fun _ _ _ _ _ => (gn_name sc.nd rfl (.inl rfl) (.inr rfl))) (fun _ _ _ _ _ => gts_nil) (fun _ _ _ _ _ => (ge_tup (ga_cons ge_str (ga_cons (ge_sub hu1 (gh_var rfl (.inr (.inl rfl)) rfl rfl) (ge_var rfl (.inl rfl) rfl rfl) (fun _ _ => rfl)) (ga_cons (ge_sub hu1 (gh_var rfl (.inr (.inl rfl)) rfl rfl) (ge_bin ok_sub (ge_var rfl (.inl rfl) rfl rfl) ge_int) (fun _ _ => rfl)) ga_nil rfl) rfl) rfl))) (fun _ => rfl))) ga_nil rfl) rfl rfl rfl rfl rfl rfl) (gss_cons (gs_mt PySem.F.slot_list_extend PySem.F.type_list_extend mt_extend mt_ext (gh_var rfl (.inl rfl) rfl rfl) (ga_cons (ge_fz (gm_lst (ga_cons (ge_tup (ga_cons ge_str (ga_cons (ge_sub hu1 (gh_var rfl (.inr (.inl rfl)) rfl rfl) ge_int (fun _ _ => rfl)) (ga_cons (ge_var rfl (.inl rfl) rfl rfl) ga_nil rfl) rfl) rfl)) (ga_cons (ge_tup (ga_cons ge_str (ga_cons (ge_var rfl (.inl rfl) rfl rfl) (ga_cons (ge_sub hu1 (gh_var rfl (.inr (.inl rfl)) rfl rfl) ge_int (fun _ _ => rfl)) ga_nil rfl) rfl) rfl)) ga_nil rfl) rfl))) ga_nil rfl) rfl rfl rfl rfl rfl rfl) (gss_cons (gs_mt PySem.F.slot_list_extend PySem.F.type_list_extend mt_extend mt_ext (gh_var rfl (.inl rfl) rfl rfl) (ga_cons (ge_fz (gm_lc (own := [("at", 7)]) rfl sc.nd (gi_r1 rfl T.n_range (ga_cons (ge_bin ok_sub (ge_var rfl (.inl rfl) rfl rfl) ge_int) ga_nil rfl) rfl) (blkOk_by (by kernel_rfl)) (by decide) (fun _ _ _ _ _ => (gn_name sc.nd rfl (.inl rfl) (.inr rfl))) (fun _ _ _ _ _ => gts_nil) (fun _ _ _ _ _ => (ge_tup (ga_cons ge_str (ga_cons (ge_sub hu1 (gh_var rfl (.inr (.inl rfl)) rfl rfl) (ge_var rfl (.inl rfl) rfl rfl) (fun _ _ => rfl)) (ga_cons (ge_sub hu1 (gh_var rfl (.inr (.inl rfl)) rfl rfl) (ge_bin ok_add (ge_var rfl (.inl rfl) rfl rfl) ge_int) (fun _ _ => rfl)) ga_nil rfl) rfl) rfl))) (fun _ => rfl))) ga_nil rfl) rfl rfl rfl rfl rfl rfl) (gss_cons (gs_mt PySem.F.slot_list_extend PySem.F.type_list_extend mt_extend mt_ext (gh_var rfl (.inl rfl) rfl rfl) (ga_cons (ge_fz (gm_lst (ga_cons (ge_tup (ga_cons ge_str (ga_cons (ge_sub hu1 (gh_var rfl (.inr (.inl rfl)) rfl rfl) (ge_neg ge_int) (fun _ _ => rfl)) (ga_cons (ge_var rfl (.inl rfl) rfl rfl) ga_nil rfl) rfl) rfl)) (ga_cons (ge_tup (ga_cons ge_str (ga_cons (ge_sub hu1 (gh_var rfl (.inr (.inl rfl)) rfl rfl) (ge_neg ge_int) (fun _ _ => rfl)) ga_nil rfl) rfl)) ga_nil rfl) rfl))) ga_nil rfl) rfl rfl rfl rfl rfl rfl) (gss_cons (gs_expr (ge_meth M_put (hr.mono (by decide)) (ge_var rfl (.inl rfl) rfl rfl) (ga_cons (ge_tup (ga_cons ge_str (ga_cons (ge_var rfl (.inl rfl) rfl rfl) (ga_cons (ge_t1 ok_tuple rfl T.n_tuple (by decide +kernel) (gh_var rfl (.inl rfl) rfl rfl) (by decide) rfl rfl) ga_nil rfl) rfl) rfl)) ga_nil rfl) rfl rfl rfl) rfl) (gss_one (gs_ret (ge_tup (ga_cons (ge_var rfl (.inr (.inl rfl)) rfl rfl) (ga_cons (ge_sub hu1 (gh_var rfl (.inr (.inl rfl)) rfl rfl) ge_int (fun _ _ => rfl)) ga_nil rfl) rfl)))))))))))))

/-! ### Maker.parted -/
theorem sc_Maker_parted : FnScope ["self", "name", "bound", "measure", "reached", "above", "rests", "times", "found", "at", "flag", "rest"] ["self", "name", "bound", "measure"] (defScope (inClass (top 36) 8)) := ⟨rfl, rfl, rfl, by decide +kernel, rfl, by decide +kernel, by decide +kernel⟩
noncomputable def mt_copied_if : GTab := [("Maker", d_Maker_copied_if)]
noncomputable def mt_divided : GTab := [("Maker", d_Maker_divided)]
noncomputable def mt_reached : GTab := [("Maker", d_Maker_reached)]
noncomputable def L0_Maker_parted : SX := (sSeq (sSet 10 (eMeth "fresh" mt_fresh (eV 0) aN))
    (sSeq (sExpr (eMeth "put" mt_put (eV 0) (aC (eTup (aC (eC (.str "copy")) (aC (eV 10) (aC (eHB (hV 4) (eV 9) idxD) aN)))) aN)))
    (sSeq (sExpr (eMeth "put" mt_put (eV 0) (aC (eTup (aC (eC (.str "round")) (aC (eHB (hV 4) (eBin addD (eV 9) (eC (.int 1))) idxD) (aC (eTup (aC (eTup (aC (eC (.str "zero")) (aC (eV 10) aN))) aN)) aN)))) aN)))
    (sMt (hV 8) (aC (eV 10) aN) appD))))
noncomputable def L1_Maker_parted : SX := (sSeq (sSet 10 (eMeth "fresh" mt_fresh (eV 0) aN))
    (sSeq (sExpr (eMeth "copied_if" mt_copied_if (eV 0) (aC (eHB (hV 4) (eV 2) idxD) (aC (eV 10) (aC (eV 11) aN)))))
    (sMt (hV 8) (aC (eV 10) aN) appD)))
noncomputable def b_Maker_parted : SX := (sSeq (sAsg (eMeth "reached" mt_reached (eV 0) (aC (eV 1) (aC (eV 2) aN))) (fun d ρ S => ((gT [(gN 4), (gN 5)]) d ρ).map fun ρ' => (ρ', S)))
    (sSeq (sAsg (eMeth "divided" mt_divided (eV 0) (aC (eV 5) (aC (eV 3) aN))) (fun d ρ S => ((gT [(gN 6), (gN 7)]) d ρ).map fun ρ' => (ρ', S)))
    (sSeq (sOwn 8 (mLst aN))
    (sSeq (sFor (iR1 (aC (eV 2) aN)) (gN 9) L0_Maker_parted)
    (sSeq (sFor (iS (eV 6)) (gN 11) L1_Maker_parted)
    (sFz 8 (sRet (eTup (aC (eV 8) (aC (eV 7) aN))))))))))
noncomputable def d_Maker_parted : Den := runD 4 8 b_Maker_parted
theorem p_Maker_parted (T : Tx K mg A) (F_Maker_copied_if : FnD P w K mg base clW 2 4 A.f_Maker_copied_if d_Maker_copied_if) (F_Maker_divided : FnD P w K mg base clW 4 3 A.f_Maker_divided d_Maker_divided) (F_Maker_fresh : FnD P w K mg base clW 2 1 A.f_Maker_fresh d_Maker_fresh) (F_Maker_put : FnD P w K mg base clW 1 2 A.f_Maker_put d_Maker_put) (F_Maker_reached : FnD P w K mg base clW 4 3 A.f_Maker_reached d_Maker_reached) {f : Addr} : ∀ (cdv : Value) (A : Around) (outer : List Env) (s : Shared) (H : Hp) (E : XK), Room 4 (A.deeper (envOfC "Maker.parted" (defScope (inClass (top 36) 8)) s.heap.objs.size f cdv)) →
    GSs clW (cxOf (L2.CX P w) P w K mg base ["self", "name", "bound", "measure", "reached", "above", "rests", "times", "found", "at", "flag", "rest"] "Maker.parted" (defScope (inClass (top 36) 8)) f cdv A outer s H E) (defBody (inClass (top 36) 8)) b_Maker_parted := fun cdv A outer s H E hr => by
  have sc := sc_Maker_parted
  have hu := hr.units
  have hu1 := hu_of hr
  have TC := T.tc
  have TE := T.te
  have M_copied_if : MOk' P w K mg base clW 2 "copied_if" mt_copied_if := ⟨fun c den h => by
    rcases tab_c h with ⟨rfl, rfl⟩ | h
    · exact ⟨_, _, _, T.g_Maker, T.me_Maker_copied_if.1, T.me_Maker_copied_if.2, F_Maker_copied_if.mono (by decide)⟩
    exact tab_nil h⟩
  have M_divided : MOk' P w K mg base clW 4 "divided" mt_divided := ⟨fun c den h => by
    rcases tab_c h with ⟨rfl, rfl⟩ | h
    · exact ⟨_, _, _, T.g_Maker, T.me_Maker_divided.1, T.me_Maker_divided.2, F_Maker_divided.mono (by decide)⟩
    exact tab_nil h⟩
  have M_fresh : MOk' P w K mg base clW 2 "fresh" mt_fresh := ⟨fun c den h => by
    rcases tab_c h with ⟨rfl, rfl⟩ | h
    · exact ⟨_, _, _, T.g_Maker, T.me_Maker_fresh.1, T.me_Maker_fresh.2, F_Maker_fresh.mono (by decide)⟩
    exact tab_nil h⟩
  have M_put : MOk' P w K mg base clW 1 "put" mt_put := ⟨fun c den h => by
    rcases tab_c h with ⟨rfl, rfl⟩ | h
    · exact ⟨_, _, _, T.g_Maker, T.me_Maker_put.1, T.me_Maker_put.2, F_Maker_put.mono (by decide)⟩
    exact tab_nil h⟩
  have M_reached : MOk' P w K mg base clW 4 "reached" mt_reached := ⟨fun c den h => by
    rcases tab_c h with ⟨rfl, rfl⟩ | h
    · exact ⟨_, _, _, T.g_Maker, T.me_Maker_reached.1, T.me_Maker_reached.2, F_Maker_reached.mono (by decide)⟩
    exact tab_nil h⟩
  exact (gss_cons (gs_asg (ge_meth M_reached (hr.mono (by decide)) (ge_var rfl (.inl rfl) rfl rfl) (ga_cons (ge_var rfl (.inl rfl) rfl rfl) (ga_cons (ge_var rfl (.inl rfl) rfl rfl) ga_nil rfl) rfl) rfl rfl rfl) (gtg_n (gn_tup rfl (gns_cons (gn_name sc.nd rfl (.inl rfl) (.inr rfl)) (gns_cons (gn_name sc.nd rfl (.inl rfl) (.inr rfl)) gns_nil rfl) rfl) rfl rfl)) rfl rfl rfl) (gss_cons (gs_asg (ge_meth M_divided (hr.mono (by decide)) (ge_var rfl (.inl rfl) rfl rfl) (ga_cons (ge_var rfl (.inl rfl) rfl rfl) (ga_cons (ge_var rfl (.inl rfl) rfl rfl) ga_nil rfl) rfl) rfl rfl rfl) (gtg_n (gn_tup rfl (gns_cons (gn_name sc.nd rfl (.inl rfl) (.inr rfl)) (gns_cons (gn_name sc.nd rfl (.inl rfl) (.inr rfl)) gns_nil rfl) rfl) rfl rfl)) rfl rfl rfl) (gss_cons (gs_own (by decide) (gms_of sc.nd rfl (.inl rfl) (gm_lst ga_nil) rfl (.inr rfl))) (gss_cons (gs_for rfl (gi_r1 rfl T.n_range (ga_cons (ge_var rfl (.inl rfl) rfl rfl) ga_nil rfl) rfl) (gn_name sc.nd rfl (.inl rfl) (.inr rfl)) (gss_cons (gs_set sc.nd rfl (.inl rfl) (ge_meth0 M_fresh (hr.mono (by decide)) (ge_var rfl (.inl rfl) rfl rfl) rfl) rfl (.inr rfl)) (gss_cons (gs_expr (ge_meth M_put (hr.mono (by decide)) (ge_var rfl (.inl rfl) rfl rfl) (ga_cons (ge_tup (ga_cons ge_str (ga_cons (ge_var rfl (.inl rfl) rfl rfl) (ga_cons (ge_sub hu1 (gh_var rfl (.inl rfl) rfl rfl) (ge_var rfl (.inl rfl) rfl rfl) (fun _ _ => rfl)) ga_nil rfl) rfl) rfl)) ga_nil rfl) rfl rfl rfl) rfl) (gss_cons (gs_expr (ge_meth M_put (hr.mono (by decide)) (ge_var rfl (.inl rfl) rfl rfl) (ga_cons (ge_tup (ga_cons ge_str (ga_cons (ge_sub hu1 (gh_var rfl (.inl rfl) rfl rfl) (ge_bin ok_add (ge_var rfl (.inl rfl) rfl rfl) ge_int) (fun _ _ => rfl)) (ga_cons (ge_tup (ga_cons (ge_tup (ga_cons ge_str (ga_cons (ge_var rfl (.inl rfl) rfl rfl) ga_nil rfl) rfl)) ga_nil rfl)) ga_nil rfl) rfl) rfl)) ga_nil rfl) rfl rfl rfl) rfl) (gss_one (gs_mt PySem.F.slot_list_append PySem.F.type_list_append mt_append mt_app (gh_var rfl (.inl rfl) rfl rfl) (ga_cons (ge_var rfl (.inl rfl) rfl rfl) ga_nil rfl) rfl rfl rfl rfl rfl rfl))))) (fun _ => rfl)) (gss_cons (gs_for rfl (gi_any (ge_var rfl (.inl rfl) rfl rfl)) (gn_name sc.nd rfl (.inl rfl) (.inr rfl)) (gss_cons (gs_set sc.nd rfl (.inl rfl) (ge_meth0 M_fresh (hr.mono (by decide)) (ge_var rfl (.inl rfl) rfl rfl) rfl) rfl (.inr rfl)) (gss_cons (gs_expr (ge_meth M_copied_if (hr.mono (by decide)) (ge_var rfl (.inl rfl) rfl rfl) (ga_cons (ge_sub hu1 (gh_var rfl (.inl rfl) rfl rfl) (ge_var rfl (.inl rfl) rfl rfl) (fun _ _ => rfl)) (ga_cons (ge_var rfl (.inl rfl) rfl rfl) (ga_cons (ge_var rfl (.inl rfl) rfl rfl) ga_nil rfl) rfl) rfl) rfl rfl rfl) rfl) (gss_one (gs_mt PySem.F.slot_list_append PySem.F.type_list_append mt_append mt_app (gh_var rfl (.inl rfl) rfl rfl) (ga_cons (ge_var rfl (.inl rfl) rfl rfl) ga_nil rfl) rfl rfl rfl rfl rfl rfl)))) (fun _ => rfl)) (gss_one (gs_fz 8 (gs_ret (ge_tup (ga_cons (ge_var rfl (.inl rfl) rfl rfl) (ga_cons (ge_var rfl (.inl rfl) rfl rfl) ga_nil rfl) rfl))))))))))

/-! ### Maker.cell_flag -/
theorem sc_Maker_cell_flag : FnScope ["self", "flags", "found", "flag", "both"] ["self", "flags"] (defScope (inClass (top 36) 9)) := ⟨rfl, rfl, rfl, by decide +kernel, rfl, by decide +kernel, by decide +kernel⟩
noncomputable def L0_Maker_cell_flag : SX := (sSeq (sSet 4 (eMeth "fresh" mt_fresh (eV 0) aN))
    (sSeq (sExpr (eMeth "copied_if" mt_copied_if (eV 0) (aC (eV 2) (aC (eV 4) (aC (eV 3) aN)))))
    (sSet 2 (eV 4))))
noncomputable def b_Maker_cell_flag : SX := (sSeq (sSet 2 (eMeth "one" mt_one (eV 0) aN))
    (sSeq (sFor (iS (eV 1)) (gN 3) L0_Maker_cell_flag)
    (sRet (eV 2))))
noncomputable def d_Maker_cell_flag : Den := runD 2 3 b_Maker_cell_flag
theorem p_Maker_cell_flag (T : Tx K mg A) (F_Maker_copied_if : FnD P w K mg base clW 2 4 A.f_Maker_copied_if d_Maker_copied_if) (F_Maker_fresh : FnD P w K mg base clW 2 1 A.f_Maker_fresh d_Maker_fresh) (F_Maker_one : FnD P w K mg base clW 3 1 A.f_Maker_one d_Maker_one) {f : Addr} : ∀ (cdv : Value) (A : Around) (outer : List Env) (s : Shared) (H : Hp) (E : XK), Room 3 (A.deeper (envOfC "Maker.cell_flag" (defScope (inClass (top 36) 9)) s.heap.objs.size f cdv)) →
    GSs clW (cxOf (L2.CX P w) P w K mg base ["self", "flags", "found", "flag", "both"] "Maker.cell_flag" (defScope (inClass (top 36) 9)) f cdv A outer s H E) (defBody (inClass (top 36) 9)) b_Maker_cell_flag := fun cdv A outer s H E hr => by
  have sc := sc_Maker_cell_flag
  have hu := hr.units
  have hu1 := hu_of hr
  have TC := T.tc
  have TE := T.te
  have M_copied_if : MOk' P w K mg base clW 2 "copied_if" mt_copied_if := ⟨fun c den h => by
    rcases tab_c h with ⟨rfl, rfl⟩ | h
    · exact ⟨_, _, _, T.g_Maker, T.me_Maker_copied_if.1, T.me_Maker_copied_if.2, F_Maker_copied_if.mono (by decide)⟩
    exact tab_nil h⟩
  have M_fresh : MOk' P w K mg base clW 2 "fresh" mt_fresh := ⟨fun c den h => by
    rcases tab_c h with ⟨rfl, rfl⟩ | h
    · exact ⟨_, _, _, T.g_Maker, T.me_Maker_fresh.1, T.me_Maker_fresh.2, F_Maker_fresh.mono (by decide)⟩
    exact tab_nil h⟩
  have M_one : MOk' P w K mg base clW 3 "one" mt_one := ⟨fun c den h => by
    rcases tab_c h with ⟨rfl, rfl⟩ | h
    · exact ⟨_, _, _, T.g_Maker, T.me_Maker_one.1, T.me_Maker_one.2, F_Maker_one.mono (by decide)⟩
    exact tab_nil h⟩
  exact (gss_cons (gs_set sc.nd rfl (.inl rfl) (ge_meth0 M_one (hr.mono (by decide)) (ge_var rfl (.inl rfl) rfl rfl) rfl) rfl (.inr rfl)) (gss_cons (gs_for rfl (gi_any (ge_var rfl (.inl rfl) rfl rfl)) (gn_name sc.nd rfl (.inl rfl) (.inr rfl)) (gss_cons (gs_set sc.nd rfl (.inl rfl) (ge_meth0 M_fresh (hr.mono (by decide)) (ge_var rfl (.inl rfl) rfl rfl) rfl) rfl (.inr rfl)) (gss_cons (gs_expr (ge_meth M_copied_if (hr.mono (by decide)) (ge_var rfl (.inl rfl) rfl rfl) (ga_cons (ge_var rfl (.inl rfl) rfl rfl) (ga_cons (ge_var rfl (.inl rfl) rfl rfl) (ga_cons (ge_var rfl (.inl rfl) rfl rfl) ga_nil rfl) rfl) rfl) rfl rfl rfl) rfl) (gss_one (gs_set sc.nd rfl (.inl rfl) (ge_var rfl (.inl rfl) rfl rfl) rfl (.inr rfl))))) (fun _ => rfl)) (gss_one (gs_ret (ge_var rfl (.inl rfl) rfl rfl)))))

/-! ### Maker.constants -/
theorem sc_Maker_constants : FnScope ["self", "most", "found", "number", "name"] ["self", "most"] (defScope (inClass (top 36) 10)) := ⟨rfl, rfl, rfl, by decide +kernel, rfl, by decide +kernel, by decide +kernel⟩
noncomputable def L0_Maker_constants : SX := (sSeq (sSet 4 (eMeth "fresh" mt_fresh (eV 0) aN))
    (sSeq (sExpr (eMeth "put" mt_put (eV 0) (aC (eTup (aC (eC (.str "copy")) (aC (eV 4) (aC (eHB (hV 2) (eUn negD (eC (.int 1))) idxD) aN)))) aN)))
    (sSeq (sExpr (eMeth "put" mt_put (eV 0) (aC (eTup (aC (eC (.str "more")) (aC (eV 4) aN))) aN)))
    (sMt (hV 2) (aC (eV 4) aN) appD))))
noncomputable def b_Maker_constants : SX := (sSeq (sOwn 2 (mLst (aC (eMeth "fresh" mt_fresh (eV 0) aN) aN)))
    (sSeq (sFor (iR1 (aC (eV 1) aN)) (gN 3) L0_Maker_constants)
    (sFz 2 (sRet (eV 2)))))
noncomputable def d_Maker_constants : Den := runD 2 3 b_Maker_constants
theorem p_Maker_constants (T : Tx K mg A) (F_Maker_fresh : FnD P w K mg base clW 2 1 A.f_Maker_fresh d_Maker_fresh) (F_Maker_put : FnD P w K mg base clW 1 2 A.f_Maker_put d_Maker_put) {f : Addr} : ∀ (cdv : Value) (A : Around) (outer : List Env) (s : Shared) (H : Hp) (E : XK), Room 2 (A.deeper (envOfC "Maker.constants" (defScope (inClass (top 36) 10)) s.heap.objs.size f cdv)) →
    GSs clW (cxOf (L2.CX P w) P w K mg base ["self", "most", "found", "number", "name"] "Maker.constants" (defScope (inClass (top 36) 10)) f cdv A outer s H E) (defBody (inClass (top 36) 10)) b_Maker_constants := fun cdv A outer s H E hr => by
  have sc := sc_Maker_constants
  have hu := hr.units
  have hu1 := hu_of hr
  have TC := T.tc
  have TE := T.te
  have M_fresh : MOk' P w K mg base clW 2 "fresh" mt_fresh := ⟨fun c den h => by
    rcases tab_c h with ⟨rfl, rfl⟩ | h
    · exact ⟨_, _, _, T.g_Maker, T.me_Maker_fresh.1, T.me_Maker_fresh.2, F_Maker_fresh.mono (by decide)⟩
    exact tab_nil h⟩
  have M_put : MOk' P w K mg base clW 1 "put" mt_put := ⟨fun c den h => by
    rcases tab_c h with ⟨rfl, rfl⟩ | h
    · exact ⟨_, _, _, T.g_Maker, T.me_Maker_put.1, T.me_Maker_put.2, F_Maker_put.mono (by decide)⟩
    exact tab_nil h⟩
  exact (gss_cons (gs_own (by decide) (gms_of sc.nd rfl (.inl rfl) (gm_lst (ga_cons (ge_meth0 M_fresh (hr.mono (by decide)) (ge_var rfl (.inl rfl) rfl rfl) rfl) ga_nil rfl)) rfl (.inr rfl))) (gss_cons (gs_for rfl (gi_r1 rfl T.n_range (ga_cons (ge_var rfl (.inl rfl) rfl rfl) ga_nil rfl) rfl) (gn_name sc.nd rfl (.inl rfl) (.inr rfl)) (gss_cons (gs_set sc.nd rfl (.inl rfl) (ge_meth0 M_fresh (hr.mono (by decide)) (ge_var rfl (.inl rfl) rfl rfl) rfl) rfl (.inr rfl)) (gss_cons (gs_expr (ge_meth M_put (hr.mono (by decide)) (ge_var rfl (.inl rfl) rfl rfl) (ga_cons (ge_tup (ga_cons ge_str (ga_cons (ge_var rfl (.inl rfl) rfl rfl) (ga_cons (ge_sub hu1 (gh_var rfl (.inl rfl) rfl rfl) (ge_neg ge_int) (fun _ _ => rfl)) ga_nil rfl) rfl) rfl)) ga_nil rfl) rfl rfl rfl) rfl) (gss_cons (gs_expr (ge_meth M_put (hr.mono (by decide)) (ge_var rfl (.inl rfl) rfl rfl) (ga_cons (ge_tup (ga_cons ge_str (ga_cons (ge_var rfl (.inl rfl) rfl rfl) ga_nil rfl) rfl)) ga_nil rfl) rfl rfl rfl) rfl) (gss_one (gs_mt PySem.F.slot_list_append PySem.F.type_list_append mt_append mt_app (gh_var rfl (.inl rfl) rfl rfl) (ga_cons (ge_var rfl (.inl rfl) rfl rfl) ga_nil rfl) rfl rfl rfl rfl rfl rfl))))) (fun _ => rfl)) (gss_one (gs_fz 2 (gs_ret (ge_var rfl (.inl rfl) rfl rfl))))))

/-! ### Maker.add_steps -/
theorem sc_Maker_add_steps : FnScope ["self", "found", "flags", "step", "name", "chosen", "flag"] ["self", "found", "flags", "step", "name"] (defScope (inClass (top 36) 12)) := ⟨rfl, rfl, rfl, by decide +kernel, rfl, by decide +kernel, by decide +kernel⟩
noncomputable def L0_Maker_add_steps : SX := (sExpr (eMeth "copied_if" mt_copied_if (eV 0) (aC (eV 6) (aC (eV 5) (aC (eV 4) aN)))))
noncomputable def b_Maker_add_steps : SX := (sSeq (sSet 5 (eMeth "fresh" mt_fresh (eV 0) aN))
    (sSeq (sFor (iS (eV 2)) (gN 6) L0_Maker_add_steps)
    (sExpr (eMeth "put" mt_put (eV 0) (aC (eTup (aC (eC (.str "round")) (aC (eV 5) (aC (eBin tmulD (eTup (aC (eTup (aC (eC (.str "more")) (aC (eV 1) aN))) aN)) (eV 3)) aN)))) aN)))))
noncomputable def d_Maker_add_steps : Den := runD 5 2 b_Maker_add_steps
theorem p_Maker_add_steps (T : Tx K mg A) (F_Maker_copied_if : FnD P w K mg base clW 2 4 A.f_Maker_copied_if d_Maker_copied_if) (F_Maker_fresh : FnD P w K mg base clW 2 1 A.f_Maker_fresh d_Maker_fresh) (F_Maker_put : FnD P w K mg base clW 1 2 A.f_Maker_put d_Maker_put) {f : Addr} : ∀ (cdv : Value) (A : Around) (outer : List Env) (s : Shared) (H : Hp) (E : XK), Room 2 (A.deeper (envOfC "Maker.add_steps" (defScope (inClass (top 36) 12)) s.heap.objs.size f cdv)) →
    GSs clW (cxOf (L2.CX P w) P w K mg base ["self", "found", "flags", "step", "name", "chosen", "flag"] "Maker.add_steps" (defScope (inClass (top 36) 12)) f cdv A outer s H E) (defBody (inClass (top 36) 12)) b_Maker_add_steps := fun cdv A outer s H E hr => by
  have sc := sc_Maker_add_steps
  have hu := hr.units
  have hu1 := hu_of hr
  have TC := T.tc
  have TE := T.te
  have M_copied_if : MOk' P w K mg base clW 2 "copied_if" mt_copied_if := ⟨fun c den h => by
    rcases tab_c h with ⟨rfl, rfl⟩ | h
    · exact ⟨_, _, _, T.g_Maker, T.me_Maker_copied_if.1, T.me_Maker_copied_if.2, F_Maker_copied_if.mono (by decide)⟩
    exact tab_nil h⟩
  have M_fresh : MOk' P w K mg base clW 2 "fresh" mt_fresh := ⟨fun c den h => by
    rcases tab_c h with ⟨rfl, rfl⟩ | h
    · exact ⟨_, _, _, T.g_Maker, T.me_Maker_fresh.1, T.me_Maker_fresh.2, F_Maker_fresh.mono (by decide)⟩
    exact tab_nil h⟩
  have M_put : MOk' P w K mg base clW 1 "put" mt_put := ⟨fun c den h => by
    rcases tab_c h with ⟨rfl, rfl⟩ | h
    · exact ⟨_, _, _, T.g_Maker, T.me_Maker_put.1, T.me_Maker_put.2, F_Maker_put.mono (by decide)⟩
    exact tab_nil h⟩
  exact (gss_cons (gs_set sc.nd rfl (.inl rfl) (ge_meth0 M_fresh (hr.mono (by decide)) (ge_var rfl (.inl rfl) rfl rfl) rfl) rfl (.inr rfl)) (gss_cons (gs_for rfl (gi_any (ge_var rfl (.inl rfl) rfl rfl)) (gn_name sc.nd rfl (.inl rfl) (.inr rfl)) (gss_one (gs_expr (ge_meth M_copied_if (hr.mono (by decide)) (ge_var rfl (.inl rfl) rfl rfl) (ga_cons (ge_var rfl (.inl rfl) rfl rfl) (ga_cons (ge_var rfl (.inl rfl) rfl rfl) (ga_cons (ge_var rfl (.inl rfl) rfl rfl) ga_nil rfl) rfl) rfl) rfl rfl rfl) rfl)) (fun _ => rfl)) (gss_one (gs_expr (ge_meth M_put (hr.mono (by decide)) (ge_var rfl (.inl rfl) rfl rfl) (ga_cons (ge_tup (ga_cons ge_str (ga_cons (ge_var rfl (.inl rfl) rfl rfl) (ga_cons (ge_bin ok_tmul (ge_tup (ga_cons (ge_tup (ga_cons ge_str (ga_cons (ge_var rfl (.inl rfl) rfl rfl) ga_nil rfl) rfl)) ga_nil rfl)) (ge_var rfl (.inl rfl) rfl rfl)) ga_nil rfl) rfl) rfl)) ga_nil rfl) rfl rfl rfl) rfl))))

/-! ### Maker.result -/
theorem sc_Maker_result : FnScope ["self", "cells", "forms", "constants", "times", "found", "flag", "form", "k", "name", "step"] ["self", "cells", "forms", "constants", "times"] (defScope (inClass (top 36) 11)) := ⟨rfl, rfl, rfl, by decide +kernel, rfl, by decide +kernel, by decide +kernel⟩
noncomputable def mt_add_steps : GTab := [("Maker", d_Maker_add_steps)]
noncomputable def L0_Maker_result : SX := (sExpr (eMeth "copied_if" mt_copied_if (eV 0) (aC (eV 6) (aC (eV 5) (aC (eHB (hV 3) (eHB (hV 7) (eC (.int 0)) idxD) idxD) aN)))))
noncomputable def L1_Maker_result : SX := (sExpr (eMeth "add_steps" mt_add_steps (eV 0) (aC (eV 5) (aC (eFz (mLc (iZ (eV 1) (eV 2)) (gT [(gN 6), (gN 7)]) (bV (eCmp eqD (eHB (hE (eHB (hV 7) (eC (.int 1)) idxD)) (eV 8) idxD) (eV 10))) (eV 6) [6, 7])) (aC (eV 10) (aC (eV 9) aN))))))
noncomputable def L2_Maker_result : SX := (sFor (iS (eFz (mSrtSet (hE (eFz (mLc (iS (eV 2)) (gN 7) (bV (eCmp gtD (eHB (hE (eHB (hV 7) (eC (.int 1)) idxD)) (eV 8) idxD) (eC (.int 0)))) (eHB (hE (eHB (hV 7) (eC (.int 1)) idxD)) (eV 8) idxD) [7])))))) (gN 10) L1_Maker_result)
noncomputable def b_Maker_result : SX := (sSeq (sSet 5 (eMeth "fresh" mt_fresh (eV 0) aN))
    (sSeq (sFor (iZ (eV 1) (eV 2)) (gT [(gN 6), (gN 7)]) L0_Maker_result)
    (sSeq (sFor (iEn (eV 4)) (gT [(gN 8), (gN 9)]) L2_Maker_result)
    (sRet (eV 5)))))
noncomputable def d_Maker_result : Den := runD 5 6 b_Maker_result
theorem p_Maker_result (T : Tx K mg A) (F_Maker_add_steps : FnD P w K mg base clW 3 5 A.f_Maker_add_steps d_Maker_add_steps) (F_Maker_copied_if : FnD P w K mg base clW 2 4 A.f_Maker_copied_if d_Maker_copied_if) (F_Maker_fresh : FnD P w K mg base clW 2 1 A.f_Maker_fresh d_Maker_fresh) {f : Addr} : ∀ (cdv : Value) (A : Around) (outer : List Env) (s : Shared) (H : Hp) (E : XK), Room 3 (A.deeper (envOfC "Maker.result" (defScope (inClass (top 36) 11)) s.heap.objs.size f cdv)) →
    GSs clW (cxOf (L2.CX P w) P w K mg base ["self", "cells", "forms", "constants", "times", "found", "flag", "form", "k", "name", "step"] "Maker.result" (defScope (inClass (top 36) 11)) f cdv A outer s H E) (defBody (inClass (top 36) 11)) b_Maker_result := fun cdv A outer s H E hr => by
  have sc := sc_Maker_result
  have hu := hr.units
  have hu1 := hu_of hr
  have TC := T.tc
  have TE := T.te
  have M_add_steps : MOk' P w K mg base clW 3 "add_steps" mt_add_steps := ⟨fun c den h => by
    rcases tab_c h with ⟨rfl, rfl⟩ | h
    · exact ⟨_, _, _, T.g_Maker, T.me_Maker_add_steps.1, T.me_Maker_add_steps.2, F_Maker_add_steps.mono (by decide)⟩
    exact tab_nil h⟩
  have M_copied_if : MOk' P w K mg base clW 2 "copied_if" mt_copied_if := ⟨fun c den h => by
    rcases tab_c h with ⟨rfl, rfl⟩ | h
    · exact ⟨_, _, _, T.g_Maker, T.me_Maker_copied_if.1, T.me_Maker_copied_if.2, F_Maker_copied_if.mono (by decide)⟩
    exact tab_nil h⟩
  have M_fresh : MOk' P w K mg base clW 2 "fresh" mt_fresh := ⟨fun c den h => by
    rcases tab_c h with ⟨rfl, rfl⟩ | h
    · exact ⟨_, _, _, T.g_Maker, T.me_Maker_fresh.1, T.me_Maker_fresh.2, F_Maker_fresh.mono (by decide)⟩
    exact tab_nil h⟩
  exact (gss_cons (gs_set sc.nd rfl (.inl rfl) (ge_meth0 M_fresh (hr.mono (by decide)) (ge_var rfl (.inl rfl) rfl rfl) rfl) rfl (.inr rfl)) (gss_cons (gs_for rfl (gi_zip rfl T.n_zip (ge_var rfl (.inl rfl) rfl rfl) (ge_var rfl (.inl rfl) rfl rfl) rfl rfl rfl) (gn_tup rfl (gns_cons (gn_name sc.nd rfl (.inl rfl) (.inr rfl)) (gns_cons (gn_name sc.nd rfl (.inl rfl) (.inr rfl)) gns_nil rfl) rfl) rfl rfl) (gss_one (gs_expr (ge_meth M_copied_if (hr.mono (by decide)) (ge_var rfl (.inl rfl) rfl rfl) (ga_cons (ge_var rfl (.inl rfl) rfl rfl) (ga_cons (ge_var rfl (.inl rfl) rfl rfl) (ga_cons (ge_sub hu1 (gh_var rfl (.inl rfl) rfl rfl) (ge_sub hu1 (gh_var rfl (.inl rfl) rfl rfl) ge_int (fun _ _ => rfl)) (fun _ _ => rfl)) ga_nil rfl) rfl) rfl) rfl rfl rfl) rfl)) (fun _ => rfl)) (gss_cons (gs_for rfl (gi_en rfl T.n_enumerate (ge_var rfl (.inl rfl) rfl rfl) rfl) (gn_tup rfl (gns_cons (gn_name sc.nd rfl (.inr rfl) (.inl rfl)) (gns_cons (gn_name sc.nd rfl (.inl rfl) (.inr rfl)) gns_nil rfl) rfl) rfl rfl) (gss_one (gs_for rfl (gi_any (ge_fz (gm_srtset rfl rfl T.n_sorted rfl T.n_set (gh_of (ge_fz (gm_lc (own := [("form", 7)]) rfl sc.nd (gi_any (ge_var rfl (.inl rfl) rfl rfl)) (blkOk_by (by kernel_rfl)) (by decide) (fun _ _ _ _ _ => (gn_name sc.nd rfl (.inl rfl) (.inr rfl))) (fun _ _ _ _ _ => (gts_one (gt_cmp ok_gt (ge_sub hu1 (gh_of (ge_sub hu1 (gh_var rfl (.inl rfl) rfl rfl) ge_int (fun _ _ => rfl))) (ge_var rfl (.inr (.inl rfl)) rfl rfl) (fun _ _ => rfl)) ge_int rfl))) (fun _ _ _ _ _ => (ge_sub hu1 (gh_of (ge_sub hu1 (gh_var rfl (.inl rfl) rfl rfl) ge_int (fun _ _ => rfl))) (ge_var rfl (.inr (.inl rfl)) rfl rfl) (fun _ _ => rfl))) (fun _ => rfl)))) rfl))) (gn_name sc.nd rfl (.inr rfl) (.inl rfl)) (gss_one (gs_expr (ge_meth M_add_steps (hr.mono (by decide)) (ge_var rfl (.inl rfl) rfl rfl) (ga_cons (ge_var rfl (.inl rfl) rfl rfl) (ga_cons (ge_fz (gm_lc (own := [("flag", 6), ("form", 7)]) rfl sc.nd (gi_zip rfl T.n_zip (ge_var rfl (.inl rfl) rfl rfl) (ge_var rfl (.inl rfl) rfl rfl) rfl rfl rfl) (blkOk_by (by kernel_rfl)) (by decide) (fun _ _ _ _ _ => (gn_tup rfl (gns_cons (gn_name sc.nd rfl (.inl rfl) (.inr rfl)) (gns_cons (gn_name sc.nd rfl (.inl rfl) (.inr rfl)) gns_nil rfl) rfl) rfl rfl)) (fun _ _ _ _ _ => (gts_one (gt_cmp (ok_eq hu) (ge_sub hu1 (gh_of (ge_sub hu1 (gh_var rfl (.inl rfl) rfl rfl) ge_int (fun _ _ => rfl))) (ge_var rfl (.inr (.inl rfl)) rfl rfl) (fun _ _ => rfl)) (ge_var rfl (.inr (.inl rfl)) rfl rfl) rfl))) (fun _ _ _ _ _ => (ge_var rfl (.inl rfl) rfl rfl)) (fun _ => rfl))) (ga_cons (ge_var rfl (.inr (.inl rfl)) rfl rfl) (ga_cons (ge_var rfl (.inl rfl) rfl rfl) ga_nil rfl) rfl) rfl) rfl) rfl rfl rfl) rfl)) (fun _ => rfl))) (fun _ => rfl)) (gss_one (gs_ret (ge_var rfl (.inl rfl) rfl rfl))))))

/-! ### program_for -/
theorem sc_program_for : FnScope ["table", "given", "told", "maker", "parts", "cells", "cell", "constants", "times", "ends", "name", "end", "k", "number", "row", "form", "part", "at"] ["table", "given", "told"] (defScope (top 37)) := ⟨rfl, rfl, rfl, by decide +kernel, rfl, by decide +kernel, by decide +kernel⟩
noncomputable def mt_cell_flag : GTab := [("Maker", d_Maker_cell_flag)]
noncomputable def mt_constants : GTab := [("Maker", d_Maker_constants)]
noncomputable def mt_parted : GTab := [("Maker", d_Maker_parted)]
noncomputable def mt_result : GTab := [("Maker", d_Maker_result)]
noncomputable def L0_program_for : SX := (sMt (hV 5) (aC (eMeth "cell_flag" mt_cell_flag (eV 3) (aC (eFz (mLc (iEn (eV 6)) (gT [(gN 12), (gN 13)]) bTrue (eHB (hE (eHB (hE (eHB (hV 4) (eV 12) idxD)) (eC (.int 0)) idxD)) (eV 13) idxD) [12, 13])) aN)) aN) appD)
noncomputable def L1_program_for : SX := (sExpr (eMeth "put" mt_put (eV 3) (aC (eTup (aC (eC (.str "copy")) (aC (eV 10) (aC (eV 11) aN)))) aN)))
noncomputable def b_program_for : SX := (sSeq (sIf (bOr (bNot (bT (eCall d_are_names (aC (eV 1) (aC (eC (.int 0)) (aC (eC (.int 2)) aN)))))) (bV (eCmp neD (eH (hV 1) lenD) (eH (hE (eH (hV 0) (fldD "bounds"))) lenD)))) ((sRaise "NoNames")) (sNil))
    (sSeq (sIf (bOr (bNot (bT (eCall d_are_names (aC (eV 2) (aC (eC (.int 1)) (aC (eC (.int 4)) aN)))))) (bV (eCmp neD (eH (hV 2) lenD) (eCall d_many_results (aC (eV 0) aN))))) ((sRaise "NoNames")) (sNil))
    (sSeq (sSet 3 (eAl (mMk "Maker" d_Maker___init__ (aC (eBin addD (eV 1) (eV 2)) aN))))
    (sSeq (sSet 4 (eFz (mLc (iEn (eV 1)) (gT [(gN 12), (gN 10)]) bTrue (eMeth "parted" mt_parted (eV 3) (aC (eV 10) (aC (eHB (hE (eH (hV 0) (fldD "bounds"))) (eV 12) idxD) (aC (eHB (hE (eH (hV 0) (fldD "measures"))) (eV 12) idxD) aN)))) [10, 12])))
    (sSeq (sOwn 5 (mLst aN))
    (sSeq (sFor (iS (eCall d_cells_of (aC (eH (hV 0) (fldD "bounds")) (aC (eH (hV 0) (fldD "measures")) aN)))) (gN 6) L0_program_for)
    (sSeq (sSet 7 (eMeth "constants" mt_constants (eV 3) (aC (eH (hE (eFz (mLc2 (iS (eH (hV 0) (fldD "rows"))) (gN 14) bTrue (iS (eV 14)) (gN 15) bTrue (eHB (hV 15) (eC (.int 0)) idxD) [14, 15] [15]))) maxLD) aN)))
    (sSeq (sSet 8 (eFz (mLc (iS (eV 4)) (gN 16) bTrue (eHB (hV 16) (eC (.int 1)) idxD) [16])))
    (sSeq (sFz 5 (sSet 9 (eFz (mLc (iR1 (aC (eH (hV 2) lenD) aN)) (gN 17) bTrue (eMeth "result" mt_result (eV 3) (aC (eV 5) (aC (eFz (mLc (iS (eH (hV 0) (fldD "rows"))) (gN 14) bTrue (eHB (hV 14) (eV 17) idxD) [14])) (aC (eV 7) (aC (eV 8) aN))))) [17]))))
    (sSeq (sFor (iZ (eV 2) (eV 9)) (gT [(gN 10), (gN 11)]) L1_program_for)
    (sRet (eFz (mMk "RawProgram" d_RawProgram___init__ (aC (eV 1) (aC (eV 2) (aC (eH (hE (eH (hV 3) (fldD "block"))) tupleD) aN))))))))))))))))
noncomputable def d_program_for : Den := runD 3 15 b_program_for
theorem p_program_for (T : Tx K mg A) (F_Maker___init__ : FnO P w K mg base clW 1 1 A.f_Maker___init__ d_Maker___init__) (F_Maker_cell_flag : FnD P w K mg base clW 4 2 A.f_Maker_cell_flag d_Maker_cell_flag) (F_Maker_constants : FnD P w K mg base clW 3 2 A.f_Maker_constants d_Maker_constants) (F_Maker_parted : FnD P w K mg base clW 5 4 A.f_Maker_parted d_Maker_parted) (F_Maker_put : FnD P w K mg base clW 1 2 A.f_Maker_put d_Maker_put) (F_Maker_result : FnD P w K mg base clW 4 5 A.f_Maker_result d_Maker_result) (F_RawProgram___init__ : FnO P w K mg base clW 1 3 A.f_RawProgram___init__ d_RawProgram___init__) (F_are_names : FnD P w K mg base clW 2 3 A.f_are_names d_are_names) (F_cells_of : FnD P w K mg base clW 1 2 A.f_cells_of d_cells_of) (F_many_results : FnD P w K mg base clW 1 1 A.f_many_results d_many_results) {f : Addr} : ∀ (cdv : Value) (A : Around) (outer : List Env) (s : Shared) (H : Hp) (E : XK), Room 5 (A.deeper (envOfC "program_for" (defScope (top 37)) s.heap.objs.size f cdv)) →
    GSs clW (cxOf (L2.CX P w) P w K mg base ["table", "given", "told", "maker", "parts", "cells", "cell", "constants", "times", "ends", "name", "end", "k", "number", "row", "form", "part", "at"] "program_for" (defScope (top 37)) f cdv A outer s H E) (defBody (top 37)) b_program_for := fun cdv A outer s H E hr => by
  have sc := sc_program_for
  have hu := hr.units
  have hu1 := hu_of hr
  have TC := T.tc
  have TE := T.te
  have M_cell_flag : MOk' P w K mg base clW 4 "cell_flag" mt_cell_flag := ⟨fun c den h => by
    rcases tab_c h with ⟨rfl, rfl⟩ | h
    · exact ⟨_, _, _, T.g_Maker, T.me_Maker_cell_flag.1, T.me_Maker_cell_flag.2, F_Maker_cell_flag.mono (by decide)⟩
    exact tab_nil h⟩
  have M_constants : MOk' P w K mg base clW 3 "constants" mt_constants := ⟨fun c den h => by
    rcases tab_c h with ⟨rfl, rfl⟩ | h
    · exact ⟨_, _, _, T.g_Maker, T.me_Maker_constants.1, T.me_Maker_constants.2, F_Maker_constants.mono (by decide)⟩
    exact tab_nil h⟩
  have M_parted : MOk' P w K mg base clW 5 "parted" mt_parted := ⟨fun c den h => by
    rcases tab_c h with ⟨rfl, rfl⟩ | h
    · exact ⟨_, _, _, T.g_Maker, T.me_Maker_parted.1, T.me_Maker_parted.2, F_Maker_parted.mono (by decide)⟩
    exact tab_nil h⟩
  have M_put : MOk' P w K mg base clW 1 "put" mt_put := ⟨fun c den h => by
    rcases tab_c h with ⟨rfl, rfl⟩ | h
    · exact ⟨_, _, _, T.g_Maker, T.me_Maker_put.1, T.me_Maker_put.2, F_Maker_put.mono (by decide)⟩
    exact tab_nil h⟩
  have M_result : MOk' P w K mg base clW 4 "result" mt_result := ⟨fun c den h => by
    rcases tab_c h with ⟨rfl, rfl⟩ | h
    · exact ⟨_, _, _, T.g_Maker, T.me_Maker_result.1, T.me_Maker_result.2, F_Maker_result.mono (by decide)⟩
    exact tab_nil h⟩
  exact (gss_cons (gs_if (gw_pt (gw_or (gt_not (gt_val (ge_call F_are_names (hr.mono (by decide)) rfl T.g_are_names (ga_cons (ge_var rfl (.inl rfl) rfl rfl) (ga_cons ge_int (ga_cons ge_int ga_nil rfl) rfl) rfl) rfl rfl rfl) (fun _ => rfl))) (gw_or1 (gt_cmp (ok_ne hu) (ge_b1 ok_len rfl T.n_len (by decide +kernel) (gh_var rfl (.inl rfl) rfl rfl) (by decide) rfl rfl) (ge_b1 ok_len rfl T.n_len (by decide +kernel) (gh_of (ge_fld (T.f_bounds) (gh_var rfl (.inr (.inl rfl)) rfl rfl) rfl)) (by decide) rfl rfl) rfl)))) (gss_one (gs_raise T.g_NoNames T.xi_NoNames T.xk_NoNames (raises_own T.xs_NoNames T.xt_NoNames) rfl rfl rfl)) gss_nil) (gss_cons (gs_if (gw_pt (gw_or (gt_not (gt_val (ge_call F_are_names (hr.mono (by decide)) rfl T.g_are_names (ga_cons (ge_var rfl (.inl rfl) rfl rfl) (ga_cons ge_int (ga_cons (ge_cst rfl T.g_MOST_TOLD (fun _ => rep_int.mpr rfl) rfl) ga_nil rfl) rfl) rfl) rfl rfl rfl) (fun _ => rfl))) (gw_or1 (gt_cmp (ok_ne hu) (ge_b1 ok_len rfl T.n_len (by decide +kernel) (gh_var rfl (.inl rfl) rfl rfl) (by decide) rfl rfl) (ge_call F_many_results (hr.mono (by decide)) rfl T.g_many_results (ga_cons (ge_var rfl (.inr (.inl rfl)) rfl rfl) ga_nil rfl) rfl rfl rfl) rfl)))) (gss_one (gs_raise T.g_NoNames T.xi_NoNames T.xk_NoNames (raises_own T.xs_NoNames T.xt_NoNames) rfl rfl rfl)) gss_nil) (gss_cons (gs_set sc.nd rfl (.inr rfl) (ge_al (gm_mk T.mk_Maker T.g_Maker kc_Maker F_Maker___init__ (hr.mono (by decide)) rfl (ga_cons (ge_bin ok_add (ge_var rfl (.inl rfl) rfl rfl) (ge_var rfl (.inl rfl) rfl rfl)) ga_nil rfl) rfl rfl rfl)) rfl (.inl rfl)) (gss_cons (gs_set sc.nd rfl (.inr rfl) (ge_fz (gm_lc (own := [("name", 10), ("k", 12)]) rfl sc.nd (gi_en rfl T.n_enumerate (ge_var rfl (.inl rfl) rfl rfl) rfl) (blkOk_by (by kernel_rfl)) (by decide) (fun _ _ _ _ _ => (gn_tup rfl (gns_cons (gn_name sc.nd rfl (.inl rfl) (.inr rfl)) (gns_cons (gn_name sc.nd rfl (.inl rfl) (.inr rfl)) gns_nil rfl) rfl) rfl rfl)) (fun _ _ _ _ _ => gts_nil) (fun _ _ _ _ _ => (ge_meth M_parted (hr.mono (by decide)) (ge_var rfl (.inr (.inl rfl)) rfl rfl) (ga_cons (ge_var rfl (.inl rfl) rfl rfl) (ga_cons (ge_sub hu1 (gh_of (ge_fld (T.f_bounds) (gh_var rfl (.inr (.inl rfl)) rfl rfl) rfl)) (ge_var rfl (.inl rfl) rfl rfl) (fun _ _ => rfl)) (ga_cons (ge_sub hu1 (gh_of (ge_fld (T.f_measures) (gh_var rfl (.inr (.inl rfl)) rfl rfl) rfl)) (ge_var rfl (.inl rfl) rfl rfl) (fun _ _ => rfl)) ga_nil rfl) rfl) rfl) rfl rfl rfl)) (fun _ => rfl))) rfl (.inl rfl)) (gss_cons (gs_own (by decide) (gms_of sc.nd rfl (.inr rfl) (gm_lst ga_nil) rfl (.inl rfl))) (gss_cons (gs_for rfl (gi_any (ge_call F_cells_of (hr.mono (by decide)) rfl T.g_cells_of (ga_cons (ge_fld (T.f_bounds) (gh_var rfl (.inr (.inl rfl)) rfl rfl) rfl) (ga_cons (ge_fld (T.f_measures) (gh_var rfl (.inr (.inl rfl)) rfl rfl) rfl) ga_nil rfl) rfl) rfl rfl rfl)) (gn_name sc.nd rfl (.inl rfl) (.inr rfl)) (gss_one (gs_mt PySem.F.slot_list_append PySem.F.type_list_append mt_append mt_app (gh_var rfl (.inr (.inl rfl)) rfl rfl) (ga_cons (ge_meth M_cell_flag (hr.mono (by decide)) (ge_var rfl (.inr (.inl rfl)) rfl rfl) (ga_cons (ge_fz (gm_lc (own := [("k", 12), ("number", 13)]) rfl sc.nd (gi_en rfl T.n_enumerate (ge_var rfl (.inl rfl) rfl rfl) rfl) (blkOk_by (by kernel_rfl)) (by decide) (fun _ _ _ _ _ => (gn_tup rfl (gns_cons (gn_name sc.nd rfl (.inl rfl) (.inr rfl)) (gns_cons (gn_name sc.nd rfl (.inl rfl) (.inr rfl)) gns_nil rfl) rfl) rfl rfl)) (fun _ _ _ _ _ => gts_nil) (fun _ _ _ _ _ => (ge_sub hu1 (gh_of (ge_sub hu1 (gh_of (ge_sub hu1 (gh_var rfl (.inr (.inl rfl)) rfl rfl) (ge_var rfl (.inl rfl) rfl rfl) (fun _ _ => rfl))) ge_int (fun _ _ => rfl))) (ge_var rfl (.inl rfl) rfl rfl) (fun _ _ => rfl))) (fun _ => rfl))) ga_nil rfl) rfl rfl rfl) ga_nil rfl) rfl rfl rfl rfl rfl rfl)) (fun _ => rfl)) (gss_cons (gs_set sc.nd rfl (.inr rfl) (ge_meth M_constants (hr.mono (by decide)) (ge_var rfl (.inr (.inl rfl)) rfl rfl) (ga_cons (ge_b1 (ok_maxL rfl) rfl T.n_max (by decide +kernel) (gh_of (ge_fz (gm_lc2 (own := [("row", 14), ("form", 15)]) (vs1 := [15]) rfl sc.nd (gi_any (ge_fld (T.f_rows) (gh_var rfl (.inr (.inl rfl)) rfl rfl) rfl)) (blkOk_by (by kernel_rfl)) (by decide) (by decide) (by decide) (fun _ _ _ _ _ => (gn_name sc.nd rfl (.inl rfl) (.inr rfl))) (fun _ _ _ _ _ => gts_nil) (fun _ _ _ _ _ => (gi_any (ge_var rfl (.inl rfl) rfl rfl))) (fun _ _ _ _ _ => (gn_name sc.nd rfl (.inl rfl) (.inr rfl))) (fun _ _ _ _ _ => gts_nil) (fun _ _ _ _ _ => (ge_sub hu1 (gh_var rfl (.inl rfl) rfl rfl) ge_int (fun _ _ => rfl))) (fun _ => rfl) (fun _ _ => rfl)))) (by decide) rfl rfl) ga_nil rfl) rfl rfl rfl) rfl (.inl rfl)) (gss_cons (gs_set sc.nd rfl (.inr rfl) (ge_fz (gm_lc (own := [("part", 16)]) rfl sc.nd (gi_any (ge_var rfl (.inr (.inl rfl)) rfl rfl)) (blkOk_by (by kernel_rfl)) (by decide) (fun _ _ _ _ _ => (gn_name sc.nd rfl (.inl rfl) (.inr rfl))) (fun _ _ _ _ _ => gts_nil) (fun _ _ _ _ _ => (ge_sub hu1 (gh_var rfl (.inl rfl) rfl rfl) ge_int (fun _ _ => rfl))) (fun _ => rfl))) rfl (.inl rfl)) (gss_cons (gs_fz 5 (gs_setF (gms_lc (own := [("at", 17)]) rfl sc.nd rfl rfl (sw_true rfl rfl rfl rfl) (gi_r1 rfl T.n_range (ga_cons (ge_b1 ok_len rfl T.n_len (by decide +kernel) (gh_var rfl (.inl rfl) rfl rfl) (by decide) rfl rfl) ga_nil rfl) rfl) (blkOk_by (by kernel_rfl)) (by decide) (fun _ _ _ _ _ => (gn_name sc.nd rfl (.inr rfl) (.inl rfl))) (fun _ _ _ _ _ => gts_nil) (fun _ _ _ _ _ => (ge_meth M_result (hr.mono (by decide)) (ge_var rfl (.inr (.inl rfl)) rfl rfl) (ga_cons (ge_var rfl (.inr (.inl rfl)) rfl rfl) (ga_cons (ge_fz (gm_lc (own := [("row", 14)]) rfl sc.nd (gi_any (ge_fld (T.f_rows) (gh_var rfl (.inr (.inl rfl)) rfl rfl) rfl)) (blkOk_by (by kernel_rfl)) (by decide) (fun _ _ _ _ _ => (gn_name sc.nd rfl (.inl rfl) (.inr rfl))) (fun _ _ _ _ _ => gts_nil) (fun _ _ _ _ _ => (ge_sub hu1 (gh_var rfl (.inl rfl) rfl rfl) (ge_var rfl (.inr (.inl rfl)) rfl rfl) (fun _ _ => rfl))) (fun _ => rfl))) (ga_cons (ge_var rfl (.inr (.inl rfl)) rfl rfl) (ga_cons (ge_var rfl (.inr (.inl rfl)) rfl rfl) ga_nil rfl) rfl) rfl) rfl) rfl rfl rfl)) (fun _ => rfl)))) (gss_cons (gs_for rfl (gi_zip rfl T.n_zip (ge_var rfl (.inl rfl) rfl rfl) (ge_var rfl (.inl rfl) rfl rfl) rfl rfl rfl) (gn_tup rfl (gns_cons (gn_name sc.nd rfl (.inl rfl) (.inr rfl)) (gns_cons (gn_name sc.nd rfl (.inl rfl) (.inr rfl)) gns_nil rfl) rfl) rfl rfl) (gss_one (gs_expr (ge_meth M_put (hr.mono (by decide)) (ge_var rfl (.inr (.inl rfl)) rfl rfl) (ga_cons (ge_tup (ga_cons ge_str (ga_cons (ge_var rfl (.inl rfl) rfl rfl) (ga_cons (ge_var rfl (.inl rfl) rfl rfl) ga_nil rfl) rfl) rfl)) ga_nil rfl) rfl rfl rfl) rfl)) (fun _ => rfl)) (gss_one (gs_ret (ge_fz (gm_mk T.mk_RawProgram T.g_RawProgram kc_RawProgram F_RawProgram___init__ (hr.mono (by decide)) rfl (ga_cons (ge_var rfl (.inl rfl) rfl rfl) (ga_cons (ge_var rfl (.inl rfl) rfl rfl) (ga_cons (ge_t1 ok_tuple rfl T.n_tuple (by decide +kernel) (gh_of (ge_fld (T.f_block) (gh_var rfl (.inr (.inl rfl)) rfl rfl) rfl)) (by decide) rfl rfl) ga_nil rfl) rfl) rfl) rfl rfl rfl))))))))))))))

/-! ### _law_pot -/
theorem sc__law_pot : FnScope ["_law_script", "_law_cells_here", "_law_greats", "_law_smalls", "_law_item"] ["_law_script"] (defScope (top 39)) := ⟨rfl, rfl, rfl, by decide +kernel, rfl, by decide +kernel, by decide +kernel⟩
noncomputable def b__law_pot : SX := (sSeq (sSet 1 (eFz (mLc (iS (eSl (hV 0) none (some (eC (.int 63))))) (gN 4) bTrue (eH (hV 4) intD) [4])))
    (sSeq (sSet 2 (eAl (mLc (iS (eV 1)) (gN 4) (bV (eCmp geD (eH (hV 4) absD) (eBin powD (eC (.int 10)) (eC (.int 18))))) (eH (hV 4) absD) [4])))
    (sSeq (sSet 3 (eBin addD (eFz (mLc (iS (eV 1)) (gN 4) (bV (eCmp ltD (eH (hV 4) absD) (eBin powD (eC (.int 10)) (eC (.int 18))))) (eBin modD (eH (hV 4) intD) (eC (.int 1000000007))) [4])) (eFz (mLst (aC (eBin addD (eH (hV 1) lenD) (eC (.int 1))) aN)))))
    (sRet (eAl (mLst (aC (eV 2) (aC (eV 3) (aC (eC (.int 0)) (aC (eBin modD (eH (hE (eH (hV 3) sumD)) intD) (eC (.int 999983))) aN))))))))))
noncomputable def d__law_pot : Den := runD 1 4 b__law_pot
theorem p__law_pot (T : Tx K mg A)  {f : Addr} : ∀ (cdv : Value) (A : Around) (outer : List Env) (s : Shared) (H : Hp) (E : XK), Room 0 (A.deeper (envOfC "_law_pot" (defScope (top 39)) s.heap.objs.size f cdv)) →
    GSs clW (cxOf (L2.CX P w) P w K mg base ["_law_script", "_law_cells_here", "_law_greats", "_law_smalls", "_law_item"] "_law_pot" (defScope (top 39)) f cdv A outer s H E) (defBody (top 39)) b__law_pot := fun cdv A outer s H E hr => by
  have sc := sc__law_pot
  have hu := hr.units
  have hu1 := hu_of hr
  have TC := T.tc
  have TE := T.te
  exact (gss_cons (gs_setF (gms_lc (own := [("_law_item", 4)]) rfl sc.nd rfl rfl (sw_true rfl rfl rfl rfl) (gi_any (ge_slice (gh_var rfl (.inl rfl) rfl rfl) go_none (go_some ge_int))) (blkOk_by (by kernel_rfl)) (by decide) (fun _ _ _ _ _ => (gn_name sc.nd rfl (.inl rfl) (.inr rfl))) (fun _ _ _ _ _ => gts_nil) (fun _ _ _ _ _ => (ge_t1 ok_int rfl T.n_int (by decide +kernel) (gh_var rfl (.inl rfl) rfl rfl) (by decide) rfl rfl)) (fun _ => rfl))) (gss_cons (gs_setP (gms_lc (own := [("_law_item", 4)]) rfl sc.nd rfl rfl (sw_true rfl rfl rfl rfl) (gi_any (ge_var rfl (.inl rfl) rfl rfl)) (blkOk_by (by kernel_rfl)) (by decide) (fun _ _ _ _ _ => (gn_name sc.nd rfl (.inl rfl) (.inr rfl))) (fun _ _ _ _ _ => (gts_one (gt_cmp ok_ge (ge_b1 ok_abs rfl T.n_abs (by decide +kernel) (gh_var rfl (.inl rfl) rfl rfl) (by decide) rfl rfl) (ge_bin ok_pow ge_int ge_int) rfl))) (fun _ _ _ _ _ => (ge_b1 ok_abs rfl T.n_abs (by decide +kernel) (gh_var rfl (.inl rfl) rfl rfl) (by decide) rfl rfl)) (fun _ => rfl))) (gss_cons (gs_set sc.nd rfl (.inl rfl) (ge_bin ok_add (ge_fz (gm_lc (own := [("_law_item", 4)]) rfl sc.nd (gi_any (ge_var rfl (.inl rfl) rfl rfl)) (blkOk_by (by kernel_rfl)) (by decide) (fun _ _ _ _ _ => (gn_name sc.nd rfl (.inl rfl) (.inr rfl))) (fun _ _ _ _ _ => (gts_one (gt_cmp ok_lt (ge_b1 ok_abs rfl T.n_abs (by decide +kernel) (gh_var rfl (.inl rfl) rfl rfl) (by decide) rfl rfl) (ge_bin ok_pow ge_int ge_int) rfl))) (fun _ _ _ _ _ => (ge_bin ok_mod (ge_t1 ok_int rfl T.n_int (by decide +kernel) (gh_var rfl (.inl rfl) rfl rfl) (by decide) rfl rfl) ge_int)) (fun _ => rfl))) (ge_fz (gm_lst (ga_cons (ge_bin ok_add (ge_b1 ok_len rfl T.n_len (by decide +kernel) (gh_var rfl (.inl rfl) rfl rfl) (by decide) rfl rfl) ge_int) ga_nil rfl)))) rfl (.inr rfl)) (gss_one (gs_ret (ge_al (gm_lst (ga_cons (ge_var rfl (.inl rfl) rfl rfl) (ga_cons (ge_var rfl (.inl rfl) rfl rfl) (ga_cons ge_int (ga_cons (ge_bin ok_mod (ge_t1 ok_int rfl T.n_int (by decide +kernel) (gh_of (ge_b1 (ok_sum rfl) rfl T.n_sum (by decide +kernel) (gh_var rfl (.inl rfl) rfl rfl) (by decide) rfl rfl)) (by decide) rfl rfl) ge_int) ga_nil rfl) rfl) rfl) rfl))))))))

/-! ### _law_draw -/
theorem sc__law_draw : FnScope ["_law_pot_here", "_law_many", "_law_turn", "_law_number", "_law_seed"] ["_law_pot_here", "_law_many"] (defScope (top 40)) := ⟨rfl, rfl, rfl, by decide +kernel, rfl, by decide +kernel, by decide +kernel⟩
noncomputable def b__law_draw : SX := (sSeq (sSet 2 (eHB (hV 0) (eC (.int 2)) idxD))
    (sSeq (sAsg (eBin addD (eV 2) (eC (.int 1))) (tI (hV 0) (eC (.int 2))))
    (sSeq (sIf (bV (eCmp gtD (eH (hE (eHB (hV 0) (eC (.int 0)) idxD)) lenD) (eC (.int 0)))) ((sSeq (sSet 3 (eHB (hE (eHB (hV 0) (eC (.int 0)) idxD)) (eC (.int 0)) idxD))
    (sSeq (sAsg (eBin fdivD (eV 3) (eV 1)) (tI (hE (eHB (hV 0) (eC (.int 0)) idxD)) (eC (.int 0))))
    (sSeq (sIf (bV (eCmp ltD (eV 3) (eV 1))) ((sMt (hE (eHB (hV 0) (eC (.int 0)) idxD)) (aC (eC (.int 0)) aN) popD)) (sNil))
    (sRet (eBin modD (eH (hV 3) intD) (eV 1))))))) (sNil))
    (sSeq (sSet 4 (eBin addD (eBin addD (eBin mulD (eHB (hE (eHB (hV 0) (eC (.int 1)) idxD)) (eBin modD (eH (hV 2) intD) (eH (hE (eHB (hV 0) (eC (.int 1)) idxD)) lenD)) idxD) (eC (.int 7919))) (eBin mulD (eC (.int 104729)) (eV 2))) (eBin mulD (eHB (hV 0) (eC (.int 3)) idxD) (eC (.int 31)))))
    (sSeq (sSet 3 (eBin modD (eH (hE (eBin addD (eBin mulD (eV 4) (eC (.int 48271))) (eC (.int 11)))) intD) (eC (.int 2147483647))))
    (sSeq (sSet 3 (eBin modD (eH (hE (eBin mulD (eV 3) (eBin addD (eBin fdivD (eV 3) (eC (.int 1009))) (eC (.int 69621))))) intD) (eC (.int 2147483629))))
    (sSeq (sSet 3 (eBin modD (eH (hE (eBin addD (eBin mulD (eV 3) (eBin addD (eBin fdivD (eV 3) (eC (.int 2003))) (eC (.int 40692)))) (eV 2))) intD) (eC (.int 2147483399))))
    (sRet (eBin modD (eH (hE (eBin fdivD (eV 3) (eC (.int 64)))) intD) (eV 1))))))))))
noncomputable def d__law_draw : Den := runD 2 3 b__law_draw
theorem p__law_draw (T : Tx K mg A)  {f : Addr} : ∀ (cdv : Value) (A : Around) (outer : List Env) (s : Shared) (H : Hp) (E : XK), Room 0 (A.deeper (envOfC "_law_draw" (defScope (top 40)) s.heap.objs.size f cdv)) →
    GSs clW (cxOf (L2.CX P w) P w K mg base ["_law_pot_here", "_law_many", "_law_turn", "_law_number", "_law_seed"] "_law_draw" (defScope (top 40)) f cdv A outer s H E) (defBody (top 40)) b__law_draw := fun cdv A outer s H E hr => by
  have sc := sc__law_draw
  have hu := hr.units
  have hu1 := hu_of hr
  have TC := T.tc
  have TE := T.te
  exact (gss_cons (gs_set sc.nd rfl (.inl rfl) (ge_sub hu1 (gh_var rfl (.inl rfl) rfl rfl) ge_int (fun _ _ => rfl)) rfl (.inr rfl)) (gss_cons (gs_asg (ge_bin ok_add (ge_var rfl (.inl rfl) rfl rfl) ge_int) (gtg_i hu1 (gh_var rfl (.inl rfl) rfl rfl) ge_int (fun _ => rfl)) rfl rfl rfl) (gss_cons (gs_if (gt_cmp ok_gt (ge_b1 ok_len rfl T.n_len (by decide +kernel) (gh_of (ge_sub hu1 (gh_var rfl (.inl rfl) rfl rfl) ge_int (fun _ _ => rfl))) (by decide) rfl rfl) ge_int rfl) (gss_cons (gs_set sc.nd rfl (.inl rfl) (ge_sub hu1 (gh_of (ge_sub hu1 (gh_var rfl (.inl rfl) rfl rfl) ge_int (fun _ _ => rfl))) ge_int (fun _ _ => rfl)) rfl (.inr rfl)) (gss_cons (gs_asg (ge_bin ok_fdiv (ge_var rfl (.inl rfl) rfl rfl) (ge_var rfl (.inl rfl) rfl rfl)) (gtg_i hu1 (gh_of (ge_sub hu1 (gh_var rfl (.inl rfl) rfl rfl) ge_int (fun _ _ => rfl))) ge_int (fun _ => rfl)) rfl rfl rfl) (gss_cons (gs_if (gt_cmp ok_lt (ge_var rfl (.inl rfl) rfl rfl) (ge_var rfl (.inl rfl) rfl rfl) rfl) (gss_one (gs_mt PySem.F.slot_list_pop PySem.F.type_list_pop mt_popAt mt_popI (gh_of (ge_sub hu1 (gh_var rfl (.inl rfl) rfl rfl) ge_int (fun _ _ => rfl))) (ga_cons ge_int ga_nil rfl) rfl rfl rfl rfl rfl rfl)) gss_nil) (gss_one (gs_ret (ge_bin ok_mod (ge_t1 ok_int rfl T.n_int (by decide +kernel) (gh_var rfl (.inl rfl) rfl rfl) (by decide) rfl rfl) (ge_var rfl (.inl rfl) rfl rfl))))))) gss_nil) (gss_cons (gs_set sc.nd rfl (.inl rfl) (ge_bin ok_add (ge_bin ok_add (ge_bin ok_mul (ge_sub hu1 (gh_of (ge_sub hu1 (gh_var rfl (.inl rfl) rfl rfl) ge_int (fun _ _ => rfl))) (ge_bin ok_mod (ge_t1 ok_int rfl T.n_int (by decide +kernel) (gh_var rfl (.inl rfl) rfl rfl) (by decide) rfl rfl) (ge_b1 ok_len rfl T.n_len (by decide +kernel) (gh_of (ge_sub hu1 (gh_var rfl (.inl rfl) rfl rfl) ge_int (fun _ _ => rfl))) (by decide) rfl rfl)) (fun _ _ => rfl)) ge_int) (ge_bin ok_mul ge_int (ge_var rfl (.inl rfl) rfl rfl))) (ge_bin ok_mul (ge_sub hu1 (gh_var rfl (.inl rfl) rfl rfl) ge_int (fun _ _ => rfl)) ge_int)) rfl (.inr rfl)) (gss_cons (gs_set sc.nd rfl (.inl rfl) (ge_bin ok_mod (ge_t1 ok_int rfl T.n_int (by decide +kernel) (gh_of (ge_bin ok_add (ge_bin ok_mul (ge_var rfl (.inl rfl) rfl rfl) ge_int) ge_int)) (by decide) rfl rfl) ge_int) rfl (.inr rfl)) (gss_cons (gs_set sc.nd rfl (.inl rfl) (ge_bin ok_mod (ge_t1 ok_int rfl T.n_int (by decide +kernel) (gh_of (ge_bin ok_mul (ge_var rfl (.inl rfl) rfl rfl) (ge_bin ok_add (ge_bin ok_fdiv (ge_var rfl (.inl rfl) rfl rfl) ge_int) ge_int))) (by decide) rfl rfl) ge_int) rfl (.inr rfl)) (gss_cons (gs_set sc.nd rfl (.inl rfl) (ge_bin ok_mod (ge_t1 ok_int rfl T.n_int (by decide +kernel) (gh_of (ge_bin ok_add (ge_bin ok_mul (ge_var rfl (.inl rfl) rfl rfl) (ge_bin ok_add (ge_bin ok_fdiv (ge_var rfl (.inl rfl) rfl rfl) ge_int) ge_int)) (ge_var rfl (.inl rfl) rfl rfl))) (by decide) rfl rfl) ge_int) rfl (.inr rfl)) (gss_one (gs_ret (ge_bin ok_mod (ge_t1 ok_int rfl T.n_int (by decide +kernel) (gh_of (ge_bin ok_fdiv (ge_var rfl (.inl rfl) rfl rfl) ge_int)) (by decide) rfl rfl) (ge_var rfl (.inl rfl) rfl rfl)))))))))))

/-! ### _law_mixed -/
theorem sc__law_mixed : FnScope ["_law_pot_here", "_law_items", "_law_line", "_law_at", "_law_other"] ["_law_pot_here", "_law_items"] (defScope (top 41)) := ⟨rfl, rfl, rfl, by decide +kernel, rfl, by decide +kernel, by decide +kernel⟩
noncomputable def L0__law_mixed : SX := (sSeq (sSet 4 (eCall d__law_draw (aC (eV 0) (aC (eH (hV 2) lenD) aN))))
    (sAsg (eTup (aC (eHB (hV 2) (eV 4) idxD) (aC (eHB (hV 2) (eV 3) idxD) aN))) (tT [(tI (hV 2) (eV 3)), (tI (hV 2) (eV 4))])))
noncomputable def b__law_mixed : SX := (sSeq (sOwn 2 (mList (hV 1)))
    (sSeq (sFor (iR1 (aC (eH (hV 2) lenD) aN)) (gN 3) L0__law_mixed)
    (sFz 2 (sRet (eV 2)))))
noncomputable def d__law_mixed : Den := runD 2 3 b__law_mixed
theorem p__law_mixed (T : Tx K mg A) (F__law_draw : FnD P w K mg base clW 1 2 A.f__law_draw d__law_draw) {f : Addr} : ∀ (cdv : Value) (A : Around) (outer : List Env) (s : Shared) (H : Hp) (E : XK), Room 1 (A.deeper (envOfC "_law_mixed" (defScope (top 41)) s.heap.objs.size f cdv)) →
    GSs clW (cxOf (L2.CX P w) P w K mg base ["_law_pot_here", "_law_items", "_law_line", "_law_at", "_law_other"] "_law_mixed" (defScope (top 41)) f cdv A outer s H E) (defBody (top 41)) b__law_mixed := fun cdv A outer s H E hr => by
  have sc := sc__law_mixed
  have hu := hr.units
  have hu1 := hu_of hr
  have TC := T.tc
  have TE := T.te
  exact (gss_cons (gs_own (by decide) (gms_of sc.nd rfl (.inl rfl) (gm_list rfl T.n_list (gh_var rfl (.inl rfl) rfl rfl) rfl) rfl (.inr rfl))) (gss_cons (gs_for rfl (gi_r1 rfl T.n_range (ga_cons (ge_b1 ok_len rfl T.n_len (by decide +kernel) (gh_var rfl (.inl rfl) rfl rfl) (by decide) rfl rfl) ga_nil rfl) rfl) (gn_name sc.nd rfl (.inl rfl) (.inr rfl)) (gss_cons (gs_set sc.nd rfl (.inl rfl) (ge_call F__law_draw (hr.mono (by decide)) rfl T.g__law_draw (ga_cons (ge_var rfl (.inl rfl) rfl rfl) (ga_cons (ge_b1 ok_len rfl T.n_len (by decide +kernel) (gh_var rfl (.inl rfl) rfl rfl) (by decide) rfl rfl) ga_nil rfl) rfl) rfl rfl rfl) rfl (.inr rfl)) (gss_one (gs_asg (ge_tup (ga_cons (ge_sub hu1 (gh_var rfl (.inl rfl) rfl rfl) (ge_var rfl (.inl rfl) rfl rfl) (fun _ _ => rfl)) (ga_cons (ge_sub hu1 (gh_var rfl (.inl rfl) rfl rfl) (ge_var rfl (.inl rfl) rfl rfl) (fun _ _ => rfl)) ga_nil rfl) rfl)) (gtg_t rfl (gtgs_cons (gtg_i hu1 (gh_var rfl (.inl rfl) rfl rfl) (ge_var rfl (.inl rfl) rfl rfl) (fun _ => rfl)) (gtgs_cons (gtg_i hu1 (gh_var rfl (.inl rfl) rfl rfl) (ge_var rfl (.inl rfl) rfl rfl) (fun _ => rfl)) gtgs_nil rfl) rfl) rfl rfl) rfl rfl rfl))) (fun _ => rfl)) (gss_one (gs_fz 2 (gs_ret (ge_var rfl (.inl rfl) rfl rfl))))))

/-! ### _law_cells -/
theorem sc__law_cells : FnScope ["_law_bounds", "_law_measures", "_law_found", "_law_bound", "_law_measure", "_law_later", "_law_cell", "_law_number"] ["_law_bounds", "_law_measures"] (defScope (top 42)) := ⟨rfl, rfl, rfl, by decide +kernel, rfl, by decide +kernel, by decide +kernel⟩
noncomputable def L0__law_cells : SX := (sMt (hV 5) (aC (eFz (mLc (iR1 (aC (eBin addD (eV 3) (eV 4)) aN)) (gN 7) bTrue (eBin addD (eV 6) (eTup (aC (eV 7) aN))) [7])) aN) extD)
noncomputable def L1__law_cells : SX := (sSeq (sOwn 5 (mLst aN))
    (sSeq (sFor (iS (eV 2)) (gN 6) L0__law_cells)
    (sFz 5 (sSet 2 (eV 5)))))
noncomputable def b__law_cells : SX := (sSeq (sSet 2 (eFz (mLst (aC (eTup aN) aN))))
    (sSeq (sFor (iZ (eV 0) (eV 1)) (gT [(gN 3), (gN 4)]) L1__law_cells)
    (sRet (eV 2))))
noncomputable def d__law_cells : Den := runD 2 6 b__law_cells
theorem p__law_cells (T : Tx K mg A)  {f : Addr} : ∀ (cdv : Value) (A : Around) (outer : List Env) (s : Shared) (H : Hp) (E : XK), Room 0 (A.deeper (envOfC "_law_cells" (defScope (top 42)) s.heap.objs.size f cdv)) →
    GSs clW (cxOf (L2.CX P w) P w K mg base ["_law_bounds", "_law_measures", "_law_found", "_law_bound", "_law_measure", "_law_later", "_law_cell", "_law_number"] "_law_cells" (defScope (top 42)) f cdv A outer s H E) (defBody (top 42)) b__law_cells := fun cdv A outer s H E hr => by
  have sc := sc__law_cells
  have hu := hr.units
  have hu1 := hu_of hr
  have TC := T.tc
  have TE := T.te
  exact (gss_cons (gs_set sc.nd rfl (.inl rfl) (ge_fz (gm_lst (ga_cons (ge_tup ga_nil) ga_nil rfl))) rfl (.inr rfl)) (gss_cons (gs_for rfl (gi_zip rfl T.n_zip (ge_var rfl (.inl rfl) rfl rfl) (ge_var rfl (.inl rfl) rfl rfl) rfl rfl rfl) (gn_tup rfl (gns_cons (gn_name sc.nd rfl (.inl rfl) (.inr rfl)) (gns_cons (gn_name sc.nd rfl (.inl rfl) (.inr rfl)) gns_nil rfl) rfl) rfl rfl) (gss_cons (gs_own (by decide) (gms_of sc.nd rfl (.inl rfl) (gm_lst ga_nil) rfl (.inr rfl))) (gss_cons (gs_for rfl (gi_any (ge_var rfl (.inl rfl) rfl rfl)) (gn_name sc.nd rfl (.inr rfl) (.inl rfl)) (gss_one (gs_mt PySem.F.slot_list_extend PySem.F.type_list_extend mt_extend mt_ext (gh_var rfl (.inl rfl) rfl rfl) (ga_cons (ge_fz (gm_lc (own := [("_law_number", 7)]) rfl sc.nd (gi_r1 rfl T.n_range (ga_cons (ge_bin ok_add (ge_var rfl (.inl rfl) rfl rfl) (ge_var rfl (.inl rfl) rfl rfl)) ga_nil rfl) rfl) (blkOk_by (by kernel_rfl)) (by decide) (fun _ _ _ _ _ => (gn_name sc.nd rfl (.inl rfl) (.inr rfl))) (fun _ _ _ _ _ => gts_nil) (fun _ _ _ _ _ => (ge_bin ok_add (ge_var rfl (.inr (.inl rfl)) rfl rfl) (ge_tup (ga_cons (ge_var rfl (.inl rfl) rfl rfl) ga_nil rfl)))) (fun _ => rfl))) ga_nil rfl) rfl rfl rfl rfl rfl rfl)) (fun _ => rfl)) (gss_one (gs_fz 5 (gs_set sc.nd rfl (.inl rfl) (ge_var rfl (.inl rfl) rfl rfl) rfl (.inr rfl)))))) (fun _ => rfl)) (gss_one (gs_ret (ge_var rfl (.inl rfl) rfl rfl)))))

/-! ### _law_table -/
theorem sc__law_table : FnScope ["_law_pot_here", "_law_many", "_law_forms", "_law_most", "_law_steps", "_law_bounds", "_law_measures", "_law_rows", "_law_cell", "_law_row", "_law_at", "_law_grown", "_law_k", "_law_step"] ["_law_pot_here", "_law_many", "_law_forms", "_law_most", "_law_steps"] (defScope (top 43)) := ⟨rfl, rfl, rfl, by decide +kernel, rfl, by decide +kernel, by decide +kernel⟩
noncomputable def L0__law_table : SX := (sSeq (sSet 13 (eCall d__law_draw (aC (eV 0) (aC (eV 4) aN))))
    (sMt (hV 11) (aC (eIf (bV (eCmp geD (eHB (hV 8) (eV 12) idxD) (eHB (hV 5) (eV 12) idxD))) (eV 13) (eC (.int 0))) aN) appD))
noncomputable def L1__law_table : SX := (sSeq (sOwn 11 (mLst aN))
    (sSeq (sFor (iR1 (aC (eV 1) aN)) (gN 12) L0__law_table)
    (sSet 9 (eBin addD (eV 9) (eTup (aC (eTup (aC (eCall d__law_draw (aC (eV 0) (aC (eV 4) aN))) (aC (eH (hV 11) tupleD) aN))) aN))))))
noncomputable def L2__law_table : SX := (sSeq (sSet 9 (eTup aN))
    (sSeq (sFor (iR1 (aC (eV 2) aN)) (gN 10) L1__law_table)
    (sMt (hV 7) (aC (eV 9) aN) appD)))
noncomputable def b__law_table : SX := (sSeq (sSet 5 (eH (hE (eFz (mLc (iR1 (aC (eV 1) aN)) (gN 12) bTrue (eCall d__law_draw (aC (eV 0) (aC (eBin addD (eV 3) (eC (.int 1))) aN))) [12]))) tupleD))
    (sSeq (sSet 6 (eH (hE (eFz (mLc (iR1 (aC (eV 1) aN)) (gN 12) bTrue (eBin addD (eC (.int 1)) (eCall d__law_draw (aC (eV 0) (aC (eV 3) aN)))) [12]))) tupleD))
    (sSeq (sOwn 7 (mLst aN))
    (sSeq (sFor (iS (eCall d__law_cells (aC (eV 5) (aC (eV 6) aN)))) (gN 8) L2__law_table)
    (sRet (eTup (aC (eV 5) (aC (eV 6) (aC (eH (hV 7) tupleD) aN)))))))))
noncomputable def d__law_table : Den := runD 5 9 b__law_table
theorem p__law_table (T : Tx K mg A) (F__law_cells : FnD P w K mg base clW 1 2 A.f__law_cells d__law_cells) (F__law_draw : FnD P w K mg base clW 1 2 A.f__law_draw d__law_draw) {f : Addr} : ∀ (cdv : Value) (A : Around) (outer : List Env) (s : Shared) (H : Hp) (E : XK), Room 1 (A.deeper (envOfC "_law_table" (defScope (top 43)) s.heap.objs.size f cdv)) →
    GSs clW (cxOf (L2.CX P w) P w K mg base ["_law_pot_here", "_law_many", "_law_forms", "_law_most", "_law_steps", "_law_bounds", "_law_measures", "_law_rows", "_law_cell", "_law_row", "_law_at", "_law_grown", "_law_k", "_law_step"] "_law_table" (defScope (top 43)) f cdv A outer s H E) (defBody (top 43)) b__law_table := fun cdv A outer s H E hr => by
  have sc := sc__law_table
  have hu := hr.units
  have hu1 := hu_of hr
  have TC := T.tc
  have TE := T.te
  exact (gss_cons (gs_set sc.nd rfl (.inl rfl) (ge_t1 ok_tuple rfl T.n_tuple (by decide +kernel) (gh_of (ge_fz (gm_lc (own := [("_law_k", 12)]) rfl sc.nd (gi_r1 rfl T.n_range (ga_cons (ge_var rfl (.inl rfl) rfl rfl) ga_nil rfl) rfl) (blkOk_by (by kernel_rfl)) (by decide) (fun _ _ _ _ _ => (gn_name sc.nd rfl (.inl rfl) (.inr rfl))) (fun _ _ _ _ _ => gts_nil) (fun _ _ _ _ _ => (ge_call F__law_draw (hr.mono (by decide)) rfl T.g__law_draw (ga_cons (ge_var rfl (.inr (.inl rfl)) rfl rfl) (ga_cons (ge_bin ok_add (ge_var rfl (.inr (.inl rfl)) rfl rfl) ge_int) ga_nil rfl) rfl) rfl rfl rfl)) (fun _ => rfl)))) (by decide) rfl rfl) rfl (.inr rfl)) (gss_cons (gs_set sc.nd rfl (.inl rfl) (ge_t1 ok_tuple rfl T.n_tuple (by decide +kernel) (gh_of (ge_fz (gm_lc (own := [("_law_k", 12)]) rfl sc.nd (gi_r1 rfl T.n_range (ga_cons (ge_var rfl (.inl rfl) rfl rfl) ga_nil rfl) rfl) (blkOk_by (by kernel_rfl)) (by decide) (fun _ _ _ _ _ => (gn_name sc.nd rfl (.inl rfl) (.inr rfl))) (fun _ _ _ _ _ => gts_nil) (fun _ _ _ _ _ => (ge_bin ok_add ge_int (ge_call F__law_draw (hr.mono (by decide)) rfl T.g__law_draw (ga_cons (ge_var rfl (.inr (.inl rfl)) rfl rfl) (ga_cons (ge_var rfl (.inr (.inl rfl)) rfl rfl) ga_nil rfl) rfl) rfl rfl rfl))) (fun _ => rfl)))) (by decide) rfl rfl) rfl (.inr rfl)) (gss_cons (gs_own (by decide) (gms_of sc.nd rfl (.inl rfl) (gm_lst ga_nil) rfl (.inr rfl))) (gss_cons (gs_for rfl (gi_any (ge_call F__law_cells (hr.mono (by decide)) rfl T.g__law_cells (ga_cons (ge_var rfl (.inl rfl) rfl rfl) (ga_cons (ge_var rfl (.inl rfl) rfl rfl) ga_nil rfl) rfl) rfl rfl rfl)) (gn_name sc.nd rfl (.inl rfl) (.inr rfl)) (gss_cons (gs_set sc.nd rfl (.inl rfl) (ge_tup ga_nil) rfl (.inr rfl)) (gss_cons (gs_for rfl (gi_r1 rfl T.n_range (ga_cons (ge_var rfl (.inl rfl) rfl rfl) ga_nil rfl) rfl) (gn_name sc.nd rfl (.inl rfl) (.inr rfl)) (gss_cons (gs_own (by decide) (gms_of sc.nd rfl (.inl rfl) (gm_lst ga_nil) rfl (.inr rfl))) (gss_cons (gs_for rfl (gi_r1 rfl T.n_range (ga_cons (ge_var rfl (.inl rfl) rfl rfl) ga_nil rfl) rfl) (gn_name sc.nd rfl (.inl rfl) (.inr rfl)) (gss_cons (gs_set sc.nd rfl (.inl rfl) (ge_call F__law_draw (hr.mono (by decide)) rfl T.g__law_draw (ga_cons (ge_var rfl (.inr (.inl rfl)) rfl rfl) (ga_cons (ge_var rfl (.inl rfl) rfl rfl) ga_nil rfl) rfl) rfl rfl rfl) rfl (.inr rfl)) (gss_one (gs_mt PySem.F.slot_list_append PySem.F.type_list_append mt_append mt_app (gh_var rfl (.inl rfl) rfl rfl) (ga_cons (ge_if (gt_cmp ok_ge (ge_sub hu1 (gh_var rfl (.inl rfl) rfl rfl) (ge_var rfl (.inl rfl) rfl rfl) (fun _ _ => rfl)) (ge_sub hu1 (gh_var rfl (.inl rfl) rfl rfl) (ge_var rfl (.inl rfl) rfl rfl) (fun _ _ => rfl)) rfl) (ge_var rfl (.inl rfl) rfl rfl) ge_int) ga_nil rfl) rfl rfl rfl rfl rfl rfl))) (fun _ => rfl)) (gss_one (gs_set sc.nd rfl (.inl rfl) (ge_bin ok_add (ge_var rfl (.inl rfl) rfl rfl) (ge_tup (ga_cons (ge_tup (ga_cons (ge_call F__law_draw (hr.mono (by decide)) rfl T.g__law_draw (ga_cons (ge_var rfl (.inr (.inl rfl)) rfl rfl) (ga_cons (ge_var rfl (.inl rfl) rfl rfl) ga_nil rfl) rfl) rfl rfl rfl) (ga_cons (ge_t1 ok_tuple rfl T.n_tuple (by decide +kernel) (gh_var rfl (.inl rfl) rfl rfl) (by decide) rfl rfl) ga_nil rfl) rfl)) ga_nil rfl))) rfl (.inr rfl))))) (fun _ => rfl)) (gss_one (gs_mt PySem.F.slot_list_append PySem.F.type_list_append mt_append mt_app (gh_var rfl (.inl rfl) rfl rfl) (ga_cons (ge_var rfl (.inl rfl) rfl rfl) ga_nil rfl) rfl rfl rfl rfl rfl rfl)))) (fun _ => rfl)) (gss_one (gs_ret (ge_tup (ga_cons (ge_var rfl (.inl rfl) rfl rfl) (ga_cons (ge_var rfl (.inl rfl) rfl rfl) (ga_cons (ge_t1 ok_tuple rfl T.n_tuple (by decide +kernel) (gh_var rfl (.inl rfl) rfl rfl) (by decide) rfl rfl) ga_nil rfl) rfl) rfl))))))))

/-! ### _law_deep -/
theorem sc__law_deep : FnScope ["#0", "_law_thing", "_law_turn"] [] (defScope (top 44)) := ⟨rfl, rfl, rfl, by decide +kernel, rfl, by decide +kernel, by decide +kernel⟩
noncomputable def L0__law_deep : SX := (sSet 1 (eTup (aC (eV 1) aN)))
noncomputable def b__law_deep : SX := (sSeq (sSet 1 (eTup aN))
    (sSeq (sFor (iR1 (aC (eC (.int 36)) aN)) (gN 2) L0__law_deep)
    (sRet (eV 1))))
noncomputable def d__law_deep : Den := runD 0 3 b__law_deep
theorem p__law_deep (T : Tx K mg A)  {f : Addr} : ∀ (cdv : Value) (A : Around) (outer : List Env) (s : Shared) (H : Hp) (E : XK), Room 0 (A.deeper (envOfC "_law_deep" (defScope (top 44)) s.heap.objs.size f cdv)) →
    GSs clW (cxOf (L2.CX P w) P w K mg base ["#0", "_law_thing", "_law_turn"] "_law_deep" (defScope (top 44)) f cdv A outer s H E) (defBody (top 44)) b__law_deep := fun cdv A outer s H E hr => by
  have sc := sc__law_deep
  have hu := hr.units
  have hu1 := hu_of hr
  have TC := T.tc
  have TE := T.te
  exact (gss_cons (gs_set sc.nd rfl (.inl rfl) (ge_tup ga_nil) rfl (.inr rfl)) (gss_cons (gs_for rfl (gi_r1 rfl T.n_range (ga_cons ge_int ga_nil rfl) rfl) (gn_name sc.nd rfl (.inl rfl) (.inr rfl)) (gss_one (gs_set sc.nd rfl (.inl rfl) (ge_tup (ga_cons (ge_var rfl (.inl rfl) rfl rfl) ga_nil rfl)) rfl (.inr rfl))) (fun _ => rfl)) (gss_one (gs_ret (ge_var rfl (.inl rfl) rfl rfl)))))

/-! ### _law_is_names -/
theorem sc__law_is_names : FnScope ["_law_thing", "_law_many", "_law_name", "_law_sign"] ["_law_thing", "_law_many"] (defScope (top 45)) := ⟨rfl, rfl, rfl, by decide +kernel, rfl, by decide +kernel, by decide +kernel⟩
noncomputable def L0__law_is_names : SX := (sIf (bOr (bNot (bT (eIsi1 ctab (.ty "str") (eV 2)))) (bOr (bNot (bV (eChain ltD ltD (eC (.int 0)) (eH (hV 2) lenD) (eC (.int 9))))) (bNot (bT (eH (hE (eFz (mLc (iS (eV 2)) (gN 3) bTrue (eChain leD leD (eC (.str "a")) (eV 3) (eC (.str "z"))) [3]))) allD))))) ((sRet (eC (.bl false)))) (sNil))
noncomputable def b__law_is_names : SX := (sSeq (sIf (bOr (bNot (bT (eIsi1 ctab (.ty "tuple") (eV 0)))) (bV (eCmp neD (eH (hV 0) lenD) (eV 1)))) ((sRet (eC (.bl false)))) (sNil))
    (sSeq (sFor (iS (eV 0)) (gN 2) L0__law_is_names)
    (sRet (eCmp eqD (eH (hV 0) lensetD) (eV 1)))))
noncomputable def d__law_is_names : Den := runD 2 2 b__law_is_names
theorem p__law_is_names (T : Tx K mg A)  {f : Addr} : ∀ (cdv : Value) (A : Around) (outer : List Env) (s : Shared) (H : Hp) (E : XK), Room 0 (A.deeper (envOfC "_law_is_names" (defScope (top 45)) s.heap.objs.size f cdv)) →
    GSs clW (cxOf (L2.CX P w) P w K mg base ["_law_thing", "_law_many", "_law_name", "_law_sign"] "_law_is_names" (defScope (top 45)) f cdv A outer s H E) (defBody (top 45)) b__law_is_names := fun cdv A outer s H E hr => by
  have sc := sc__law_is_names
  have hu := hr.units
  have hu1 := hu_of hr
  have TC := T.tc
  have TE := T.te
  exact (gss_cons (gs_if (gw_pt (gw_or (gt_not (gt_val (ge_isi1 (k := (.ty "tuple")) TC rfl T.n_isinstance (ge_var rfl (.inl rfl) rfl rfl) (pe_bltn (v := .ty "tuple") (u := .type "tuple") rfl T.n_tuple (by decide +kernel) rfl (by decide) (by decide)) rfl rfl) (fun _ => rfl))) (gw_or1 (gt_cmp (ok_ne hu) (ge_b1 ok_len rfl T.n_len (by decide +kernel) (gh_var rfl (.inl rfl) rfl rfl) (by decide) rfl rfl) (ge_var rfl (.inl rfl) rfl rfl) rfl)))) (gss_one (gs_ret ge_bl)) gss_nil) (gss_cons (gs_for rfl (gi_any (ge_var rfl (.inl rfl) rfl rfl)) (gn_name sc.nd rfl (.inl rfl) (.inr rfl)) (gss_one (gs_if (gw_pt (gw_or (gt_not (gt_val (ge_isi1 (k := (.ty "str")) TC rfl T.n_isinstance (ge_var rfl (.inl rfl) rfl rfl) (pe_bltn (v := .ty "str") (u := .type "str") rfl T.n_str (by decide +kernel) rfl (by decide) (by decide)) rfl rfl) (fun _ => rfl))) (gw_or (gt_not (gt_chain ok_lt ok_lt ge_int (ge_b1 ok_len rfl T.n_len (by decide +kernel) (gh_var rfl (.inl rfl) rfl rfl) (by decide) rfl rfl) ge_int rfl)) (gw_or1 (gt_not (gt_val (ge_b1 (ok_all rfl) rfl T.n_all (by decide +kernel) (gh_of (ge_fz (gm_lc (own := [("_law_sign", 3)]) rfl sc.nd (gi_any (ge_var rfl (.inl rfl) rfl rfl)) (blkOk_by (by kernel_rfl)) (by decide) (fun _ _ _ _ _ => (gn_name sc.nd rfl (.inl rfl) (.inr rfl))) (fun _ _ _ _ _ => gts_nil) (fun _ _ _ _ _ => (ge_chain ok_le ok_le ge_str (ge_var rfl (.inl rfl) rfl rfl) ge_str rfl)) (fun _ => rfl)))) (by decide) rfl rfl) (fun _ => rfl))))))) (gss_one (gs_ret ge_bl)) gss_nil)) (fun _ => rfl)) (gss_one (gs_ret (ge_cmp (ok_eq hu) (ge_lenset rfl rfl T.n_len rfl T.n_set (gh_var rfl (.inl rfl) rfl rfl) rfl) (ge_var rfl (.inl rfl) rfl rfl) rfl)))))

/-! ### _law_word -/
theorem sc__law_word : FnScope ["_law_table_here", "_law_given", "_law_told", "_law_word_here", "e"] ["_law_table_here", "_law_given", "_law_told"] (defScope (top 46)) := ⟨rfl, rfl, rfl, by decide +kernel, rfl, by decide +kernel, by decide +kernel⟩
noncomputable def b__law_word : SX := (sSeq (sSet 3 (eC (.str "let")))
    (sSeq (sTry etab "RoundError" 4 ((sExpr (eCall d_program_for (aC (eV 0) (aC (eV 1) (aC (eV 2) aN)))))) (fun l => (sSet 3 (eIf (bAnd (bT (eIsX 4 l "NoNames")) (bT (eIsX 4 ["ValueError"] "ValueError"))) (eC (.str "names")) (eC (.str "other"))))))
    (sRet (eV 3))))
noncomputable def d__law_word : Den := runD 3 2 b__law_word
theorem p__law_word (T : Tx K mg A) (F_program_for : FnD P w K mg base clW 6 3 A.f_program_for d_program_for) {f : Addr} : ∀ (cdv : Value) (A : Around) (outer : List Env) (s : Shared) (H : Hp) (E : XK), Room 6 (A.deeper (envOfC "_law_word" (defScope (top 46)) s.heap.objs.size f cdv)) →
    GSs clW (cxOf (L2.CX P w) P w K mg base ["_law_table_here", "_law_given", "_law_told", "_law_word_here", "e"] "_law_word" (defScope (top 46)) f cdv A outer s H E) (defBody (top 46)) b__law_word := fun cdv A outer s H E hr => by
  have sc := sc__law_word
  have hu := hr.units
  have hu1 := hu_of hr
  have TC := T.tc
  have TE := T.te
  exact (gss_cons (gs_set sc.nd rfl (.inl rfl) ge_str rfl (.inr rfl)) (gss_cons (gs_try (i := 4) TE rfl rfl sc.nd rfl rfl T.g_RoundError rfl ⟨rfl, rfl, .inl T.g_RoundError⟩ (fun pn xe => (gss_one (gs_expr (ge_call F_program_for (hr.mono (by decide)) rfl T.g_program_for (ga_cons (ge_var rfl (.inl rfl) rfl rfl) (ga_cons (ge_var rfl (.inl rfl) rfl rfl) (ga_cons (ge_var rfl (.inl rfl) rfl rfl) ga_nil rfl) rfl) rfl) rfl rfl rfl) rfl))) (fun c C l hl hm a oe pn hz hv => (gss_one (gs_set sc.nd rfl (.inl rfl) (ge_if (gw_pt (gw_and (gt_val (ge_isX TE hl hm rfl T.g_NoNames hz hv rfl (.inl rfl) rfl rfl rfl T.n_isinstance rfl rfl rfl rfl) (fun _ => rfl)) (gw_and1 (gt_val (ge_isXV TE hl hm hz hv rfl (.inl rfl) rfl rfl rfl T.n_isinstance rfl T.n_ValueError rfl rfl) (fun _ => rfl))))) ge_str ge_str) rfl (.inr rfl))))) (gss_one (gs_ret (ge_var rfl (.inl rfl) rfl rfl)))))

/-! ### _law_bent -/
theorem sc__law_bent : FnScope ["_law_pot_here", "_law_names", "_law_thing", "_law_at", "_law_odd", "_law_things"] ["_law_pot_here", "_law_names", "_law_thing"] (defScope (top 47)) := ⟨rfl, rfl, rfl, by decide +kernel, rfl, by decide +kernel, by decide +kernel⟩
noncomputable def b__law_bent : SX := (sSeq (sSet 3 (eCall d__law_draw (aC (eV 0) (aC (eBin addD (eH (hV 1) lenD) (eC (.int 1))) aN))))
    (sSeq (sSet 4 (eHB (hE (eFz (mLst (aC (eC (.str "")) (aC (eC (.str "A")) (aC (eC (.str "a b")) (aC (eC (.str "ninesigns")) (aC (eC (.int 0)) (aC (eC .non) (aC (eC (.bl true)) (aC (eTup (aC (eC (.str "a")) aN)) (aC (eC (.str "a1")) (aC (eC (.str "zz")) (aC (eV 2) aN)))))))))))))) (eCall d__law_draw (aC (eV 0) (aC (eC (.int 11)) aN))) idxD))
    (sSeq (sSet 5 (eFz (mLst (aC (eBin addD (eBin addD (eSl (hV 1) none (some (eV 3))) (eTup (aC (eV 4) aN))) (eSl (hV 1) (some (eV 3)) none)) (aC (eBin addD (eBin addD (eSl (hV 1) none (some (eV 3))) (eTup (aC (eV 4) aN))) (eSl (hV 1) (some (eBin addD (eV 3) (eC (.int 1)))) none)) (aC (eSl (hV 1) (some (eC (.int 1))) none) (aC (eBin addD (eV 1) (eSl (hV 1) none (some (eC (.int 1))))) aN)))))))
    (sSeq (sSet 5 (eBin addD (eV 5) (eFz (mLst (aC (eFz (mList (hV 1))) (aC (eJoin (eC (.str "")) (hV 1)) (aC (eC .non) (aC (eC (.int 0)) (aC (eFz mDic0) (aC (eCall d__law_deep aN) (aC (eV 2) (aC (eV 1) (aC (eH (hV 1) revD) aN)))))))))))))
    (sRet (eHB (hV 5) (eCall d__law_draw (aC (eV 0) (aC (eC (.int 13)) aN))) idxD))))))
noncomputable def d__law_bent : Den := runD 3 3 b__law_bent
theorem p__law_bent (T : Tx K mg A) (F__law_deep : FnD P w K mg base clW 1 0 A.f__law_deep d__law_deep) (F__law_draw : FnD P w K mg base clW 1 2 A.f__law_draw d__law_draw) {f : Addr} : ∀ (cdv : Value) (A : Around) (outer : List Env) (s : Shared) (H : Hp) (E : XK), Room 1 (A.deeper (envOfC "_law_bent" (defScope (top 47)) s.heap.objs.size f cdv)) →
    GSs clW (cxOf (L2.CX P w) P w K mg base ["_law_pot_here", "_law_names", "_law_thing", "_law_at", "_law_odd", "_law_things"] "_law_bent" (defScope (top 47)) f cdv A outer s H E) (defBody (top 47)) b__law_bent := fun cdv A outer s H E hr => by
  have sc := sc__law_bent
  have hu := hr.units
  have hu1 := hu_of hr
  have TC := T.tc
  have TE := T.te
  exact (gss_cons (gs_set sc.nd rfl (.inl rfl) (ge_call F__law_draw (hr.mono (by decide)) rfl T.g__law_draw (ga_cons (ge_var rfl (.inl rfl) rfl rfl) (ga_cons (ge_bin ok_add (ge_b1 ok_len rfl T.n_len (by decide +kernel) (gh_var rfl (.inl rfl) rfl rfl) (by decide) rfl rfl) ge_int) ga_nil rfl) rfl) rfl rfl rfl) rfl (.inr rfl)) (gss_cons (gs_set sc.nd rfl (.inl rfl) (ge_sub hu1 (gh_of (ge_fz (gm_lst (ga_cons ge_str (ga_cons ge_str (ga_cons ge_str (ga_cons ge_str (ga_cons ge_int (ga_cons ge_non (ga_cons ge_bl (ga_cons (ge_tup (ga_cons ge_str ga_nil rfl)) (ga_cons ge_str (ga_cons ge_str (ga_cons (ge_var rfl (.inl rfl) rfl rfl) ga_nil rfl) rfl) rfl) rfl) rfl) rfl) rfl) rfl) rfl) rfl) rfl)))) (ge_call F__law_draw (hr.mono (by decide)) rfl T.g__law_draw (ga_cons (ge_var rfl (.inl rfl) rfl rfl) (ga_cons ge_int ga_nil rfl) rfl) rfl rfl rfl) (fun _ _ => rfl)) rfl (.inr rfl)) (gss_cons (gs_set sc.nd rfl (.inl rfl) (ge_fz (gm_lst (ga_cons (ge_bin ok_add (ge_bin ok_add (ge_slice (gh_var rfl (.inl rfl) rfl rfl) go_none (go_some (ge_var rfl (.inl rfl) rfl rfl))) (ge_tup (ga_cons (ge_var rfl (.inl rfl) rfl rfl) ga_nil rfl))) (ge_slice (gh_var rfl (.inl rfl) rfl rfl) (go_some (ge_var rfl (.inl rfl) rfl rfl)) go_none)) (ga_cons (ge_bin ok_add (ge_bin ok_add (ge_slice (gh_var rfl (.inl rfl) rfl rfl) go_none (go_some (ge_var rfl (.inl rfl) rfl rfl))) (ge_tup (ga_cons (ge_var rfl (.inl rfl) rfl rfl) ga_nil rfl))) (ge_slice (gh_var rfl (.inl rfl) rfl rfl) (go_some (ge_bin ok_add (ge_var rfl (.inl rfl) rfl rfl) ge_int)) go_none)) (ga_cons (ge_slice (gh_var rfl (.inl rfl) rfl rfl) (go_some ge_int) go_none) (ga_cons (ge_bin ok_add (ge_var rfl (.inl rfl) rfl rfl) (ge_slice (gh_var rfl (.inl rfl) rfl rfl) go_none (go_some ge_int))) ga_nil rfl) rfl) rfl) rfl))) rfl (.inr rfl)) (gss_cons (gs_set sc.nd rfl (.inl rfl) (ge_bin ok_add (ge_var rfl (.inl rfl) rfl rfl) (ge_fz (gm_lst (ga_cons (ge_fz (gm_list rfl T.n_list (gh_var rfl (.inl rfl) rfl rfl) rfl)) (ga_cons (ge_join ge_str (gh_var rfl (.inl rfl) rfl rfl) rfl rfl rfl) (ga_cons ge_non (ga_cons ge_int (ga_cons (ge_fz gm_dic0) (ga_cons (ge_call0 F__law_deep (hr.mono (by decide)) rfl T.g__law_deep rfl) (ga_cons (ge_var rfl (.inl rfl) rfl rfl) (ga_cons (ge_var rfl (.inl rfl) rfl rfl) (ga_cons (ge_rev (gh_var rfl (.inl rfl) rfl rfl)) ga_nil rfl) rfl) rfl) rfl) rfl) rfl) rfl) rfl) rfl)))) rfl (.inr rfl)) (gss_one (gs_ret (ge_sub hu1 (gh_var rfl (.inl rfl) rfl rfl) (ge_call F__law_draw (hr.mono (by decide)) rfl T.g__law_draw (ga_cons (ge_var rfl (.inl rfl) rfl rfl) (ga_cons ge_int ga_nil rfl) rfl) rfl rfl rfl) (fun _ _ => rfl))))))))

/-! ### law -/
theorem sc_law : FnScope ["_law_script", "_law_pot_here", "_law_many", "_law_made", "_law_table_here", "_law_names", "_law_given", "_law_told", "_law_turn", "_law_one", "_law_other", "_law_due"] ["_law_script"] (defScope (top 48)) := ⟨rfl, rfl, rfl, by decide +kernel, rfl, by decide +kernel, by decide +kernel⟩
noncomputable def L0_law : SX := (sSeq (sSet 9 (eIf (bV (eCmp eqD (eCall d__law_draw (aC (eV 1) (aC (eC (.int 2)) aN))) (eC (.int 0)))) (eV 6) (eCall d__law_bent (aC (eV 1) (aC (eV 6) (aC (eV 4) aN))))))
    (sSeq (sSet 10 (eIf (bV (eCmp eqD (eCall d__law_draw (aC (eV 1) (aC (eC (.int 3)) aN))) (eC (.int 0)))) (eV 7) (eCall d__law_bent (aC (eV 1) (aC (eV 7) (aC (eV 4) aN))))))
    (sSeq (sSet 11 (eC (.str "names")))
    (sSeq (sIf (bAnd (bT (eCall d__law_is_names (aC (eV 9) (aC (eV 2) aN)))) (bT (eCall d__law_is_names (aC (eV 10) (aC (eH (hV 7) lenD) aN))))) ((sSet 11 (eC (.str "let")))) (sNil))
    (sIf (bV (eCmp neD (eCall d__law_word (aC (eV 4) (aC (eV 9) (aC (eV 10) aN)))) (eV 11))) ((sRet (eC (.bl false)))) (sNil))))))
noncomputable def b_law : SX := (sSeq (sSet 1 (eCall d__law_pot (aC (eV 0) aN)))
    (sSeq (sSet 2 (eCall d__law_draw (aC (eV 1) (aC (eC (.int 3)) aN))))
    (sSeq (sSet 3 (eCall d__law_table (aC (eV 1) (aC (eV 2) (aC (eBin addD (eC (.int 1)) (eCall d__law_draw (aC (eV 1) (aC (eC (.int 3)) aN)))) (aC (eC (.int 1)) (aC (eC (.int 5)) aN)))))))
    (sSeq (sSet 4 (eFz (mMk "Table" d_Table___init__ (aC (eHB (hV 3) (eC (.int 0)) idxD) (aC (eHB (hV 3) (eC (.int 1)) idxD) (aC (eHB (hV 3) (eC (.int 2)) idxD) aN))))))
    (sSeq (sSet 5 (eCall d__law_mixed (aC (eV 1) (aC (eFz (mLst (aC (eC (.str "a")) (aC (eC (.str "b")) (aC (eC (.str "c")) (aC (eC (.str "halfhalf")) (aC (eC (.str "x")) aN))))))) aN))))
    (sSeq (sSet 6 (eH (hE (eSl (hV 5) none (some (eV 2)))) tupleD))
    (sSeq (sSet 7 (eH (hE (eSl (hE (eCall d__law_mixed (aC (eV 1) (aC (eV 5) aN)))) none (some (eH (hE (eHB (hE (eHB (hV 3) (eC (.int 2)) idxD)) (eC (.int 0)) idxD)) lenD)))) tupleD))
    (sSeq (sIf (bV (eCmp neD (eCall d__law_word (aC (eV 4) (aC (eV 6) (aC (eV 7) aN)))) (eC (.str "let")))) ((sRet (eC (.bl false)))) (sNil))
    (sSeq (sFor (iR1 (aC (eC (.int 6)) aN)) (gN 8) L0_law)
    (sRet (eCmp eqD (eTup (aC (eH (hV 4) (fldD "bounds")) (aC (eH (hV 4) (fldD "measures")) (aC (eH (hV 4) (fldD "rows")) aN)))) (eV 3))))))))))))
noncomputable def d_law : Den := runD 1 11 b_law
theorem p_law (T : Tx K mg A) (F_Table___init__ : FnO P w K mg base clW 6 3 A.f_Table___init__ d_Table___init__) (F__law_bent : FnD P w K mg base clW 2 3 A.f__law_bent d__law_bent) (F__law_draw : FnD P w K mg base clW 1 2 A.f__law_draw d__law_draw) (F__law_is_names : FnD P w K mg base clW 1 2 A.f__law_is_names d__law_is_names) (F__law_mixed : FnD P w K mg base clW 2 2 A.f__law_mixed d__law_mixed) (F__law_pot : FnD P w K mg base clW 1 1 A.f__law_pot d__law_pot) (F__law_table : FnD P w K mg base clW 2 5 A.f__law_table d__law_table) (F__law_word : FnD P w K mg base clW 7 3 A.f__law_word d__law_word) {f : Addr} : ∀ (cdv : Value) (A : Around) (outer : List Env) (s : Shared) (H : Hp) (E : XK), Room 7 (A.deeper (envOfC "law" (defScope (top 48)) s.heap.objs.size f cdv)) →
    GSs clW (cxOf (L2.CX P w) P w K mg base ["_law_script", "_law_pot_here", "_law_many", "_law_made", "_law_table_here", "_law_names", "_law_given", "_law_told", "_law_turn", "_law_one", "_law_other", "_law_due"] "law" (defScope (top 48)) f cdv A outer s H E) (defBody (top 48)) b_law := fun cdv A outer s H E hr => by
  have sc := sc_law
  have hu := hr.units
  have hu1 := hu_of hr
  have TC := T.tc
  have TE := T.te
  exact (gss_cons (gs_set sc.nd rfl (.inl rfl) (ge_call F__law_pot (hr.mono (by decide)) rfl T.g__law_pot (ga_cons (ge_var rfl (.inl rfl) rfl rfl) ga_nil rfl) rfl rfl rfl) rfl (.inr rfl)) (gss_cons (gs_set sc.nd rfl (.inl rfl) (ge_call F__law_draw (hr.mono (by decide)) rfl T.g__law_draw (ga_cons (ge_var rfl (.inl rfl) rfl rfl) (ga_cons ge_int ga_nil rfl) rfl) rfl rfl rfl) rfl (.inr rfl)) (gss_cons (gs_set sc.nd rfl (.inl rfl) (ge_call F__law_table (hr.mono (by decide)) rfl T.g__law_table (ga_cons (ge_var rfl (.inl rfl) rfl rfl) (ga_cons (ge_var rfl (.inl rfl) rfl rfl) (ga_cons (ge_bin ok_add ge_int (ge_call F__law_draw (hr.mono (by decide)) rfl T.g__law_draw (ga_cons (ge_var rfl (.inl rfl) rfl rfl) (ga_cons ge_int ga_nil rfl) rfl) rfl rfl rfl)) (ga_cons ge_int (ga_cons ge_int ga_nil rfl) rfl) rfl) rfl) rfl) rfl rfl rfl) rfl (.inr rfl)) (gss_cons (gs_set sc.nd rfl (.inl rfl) (ge_fz (gm_mk T.mk_Table T.g_Table kc_Table F_Table___init__ (hr.mono (by decide)) rfl (ga_cons (ge_sub hu1 (gh_var rfl (.inl rfl) rfl rfl) ge_int (fun _ _ => rfl)) (ga_cons (ge_sub hu1 (gh_var rfl (.inl rfl) rfl rfl) ge_int (fun _ _ => rfl)) (ga_cons (ge_sub hu1 (gh_var rfl (.inl rfl) rfl rfl) ge_int (fun _ _ => rfl)) ga_nil rfl) rfl) rfl) rfl rfl rfl)) rfl (.inr rfl)) (gss_cons (gs_set sc.nd rfl (.inl rfl) (ge_call F__law_mixed (hr.mono (by decide)) rfl T.g__law_mixed (ga_cons (ge_var rfl (.inl rfl) rfl rfl) (ga_cons (ge_fz (gm_lst (ga_cons ge_str (ga_cons ge_str (ga_cons ge_str (ga_cons ge_str (ga_cons ge_str ga_nil rfl) rfl) rfl) rfl) rfl))) ga_nil rfl) rfl) rfl rfl rfl) rfl (.inr rfl)) (gss_cons (gs_set sc.nd rfl (.inl rfl) (ge_t1 ok_tuple rfl T.n_tuple (by decide +kernel) (gh_of (ge_slice (gh_var rfl (.inl rfl) rfl rfl) go_none (go_some (ge_var rfl (.inl rfl) rfl rfl)))) (by decide) rfl rfl) rfl (.inr rfl)) (gss_cons (gs_set sc.nd rfl (.inl rfl) (ge_t1 ok_tuple rfl T.n_tuple (by decide +kernel) (gh_of (ge_slice (gh_of (ge_call F__law_mixed (hr.mono (by decide)) rfl T.g__law_mixed (ga_cons (ge_var rfl (.inl rfl) rfl rfl) (ga_cons (ge_var rfl (.inl rfl) rfl rfl) ga_nil rfl) rfl) rfl rfl rfl)) go_none (go_some (ge_b1 ok_len rfl T.n_len (by decide +kernel) (gh_of (ge_sub hu1 (gh_of (ge_sub hu1 (gh_var rfl (.inl rfl) rfl rfl) ge_int (fun _ _ => rfl))) ge_int (fun _ _ => rfl))) (by decide) rfl rfl)))) (by decide) rfl rfl) rfl (.inr rfl)) (gss_cons (gs_if (gt_cmp (ok_ne hu) (ge_call F__law_word (hr.mono (by decide)) rfl T.g__law_word (ga_cons (ge_var rfl (.inl rfl) rfl rfl) (ga_cons (ge_var rfl (.inl rfl) rfl rfl) (ga_cons (ge_var rfl (.inl rfl) rfl rfl) ga_nil rfl) rfl) rfl) rfl rfl rfl) ge_str rfl) (gss_one (gs_ret ge_bl)) gss_nil) (gss_cons (gs_for rfl (gi_r1 rfl T.n_range (ga_cons ge_int ga_nil rfl) rfl) (gn_name sc.nd rfl (.inl rfl) (.inr rfl)) (gss_cons (gs_set sc.nd rfl (.inl rfl) (ge_if (gt_cmp (ok_eq hu) (ge_call F__law_draw (hr.mono (by decide)) rfl T.g__law_draw (ga_cons (ge_var rfl (.inl rfl) rfl rfl) (ga_cons ge_int ga_nil rfl) rfl) rfl rfl rfl) ge_int rfl) (ge_var rfl (.inl rfl) rfl rfl) (ge_call F__law_bent (hr.mono (by decide)) rfl T.g__law_bent (ga_cons (ge_var rfl (.inl rfl) rfl rfl) (ga_cons (ge_var rfl (.inl rfl) rfl rfl) (ga_cons (ge_var rfl (.inl rfl) rfl rfl) ga_nil rfl) rfl) rfl) rfl rfl rfl)) rfl (.inr rfl)) (gss_cons (gs_set sc.nd rfl (.inl rfl) (ge_if (gt_cmp (ok_eq hu) (ge_call F__law_draw (hr.mono (by decide)) rfl T.g__law_draw (ga_cons (ge_var rfl (.inl rfl) rfl rfl) (ga_cons ge_int ga_nil rfl) rfl) rfl rfl rfl) ge_int rfl) (ge_var rfl (.inl rfl) rfl rfl) (ge_call F__law_bent (hr.mono (by decide)) rfl T.g__law_bent (ga_cons (ge_var rfl (.inl rfl) rfl rfl) (ga_cons (ge_var rfl (.inl rfl) rfl rfl) (ga_cons (ge_var rfl (.inl rfl) rfl rfl) ga_nil rfl) rfl) rfl) rfl rfl rfl)) rfl (.inr rfl)) (gss_cons (gs_set sc.nd rfl (.inl rfl) ge_str rfl (.inr rfl)) (gss_cons (gs_if (gw_pt (gw_and (gt_val (ge_call F__law_is_names (hr.mono (by decide)) rfl T.g__law_is_names (ga_cons (ge_var rfl (.inl rfl) rfl rfl) (ga_cons (ge_var rfl (.inl rfl) rfl rfl) ga_nil rfl) rfl) rfl rfl rfl) (fun _ => rfl)) (gw_and1 (gt_val (ge_call F__law_is_names (hr.mono (by decide)) rfl T.g__law_is_names (ga_cons (ge_var rfl (.inl rfl) rfl rfl) (ga_cons (ge_b1 ok_len rfl T.n_len (by decide +kernel) (gh_var rfl (.inl rfl) rfl rfl) (by decide) rfl rfl) ga_nil rfl) rfl) rfl rfl rfl) (fun _ => rfl))))) (gss_one (gs_set sc.nd rfl (.inl rfl) ge_str rfl (.inr rfl))) gss_nil) (gss_one (gs_if (gt_cmp (ok_ne hu) (ge_call F__law_word (hr.mono (by decide)) rfl T.g__law_word (ga_cons (ge_var rfl (.inl rfl) rfl rfl) (ga_cons (ge_var rfl (.inl rfl) rfl rfl) (ga_cons (ge_var rfl (.inl rfl) rfl rfl) ga_nil rfl) rfl) rfl) rfl rfl rfl) (ge_var rfl (.inl rfl) rfl rfl) rfl) (gss_one (gs_ret ge_bl)) gss_nil)))))) (fun _ => rfl)) (gss_one (gs_ret (ge_cmp (ok_eq hu) (ge_tup (ga_cons (ge_fld (T.f_bounds) (gh_var rfl (.inl rfl) rfl rfl) rfl) (ga_cons (ge_fld (T.f_measures) (gh_var rfl (.inl rfl) rfl rfl) rfl) (ga_cons (ge_fld (T.f_rows) (gh_var rfl (.inl rfl) rfl rfl) rfl) ga_nil rfl) rfl) rfl)) (ge_var rfl (.inl rfl) rfl rfl) rfl))))))))))))

end LW
end

section
set_option linter.all false
set_option maxRecDepth 100000
namespace LW
open PySem L2 GG
local macro_rules
  | `(tactic| simp? [$a,*] $[$l:location]?) => `(tactic| simp only [eC_a, eV_a, hE_a, hV_a, eH_a, eHB_a, eBin_a, eUn_a, eAnd_a, eOr_a, eNot_a, eIf_a, eCmp_a, eChain_a, aN_a, aC_a, eTup_a, eLst_a, eCall_a, eB_a, eFz_a, eAl_a, mLst_a, mLc_a, mLc2_a, mMk_a, mDic0_a, mList_a, eMeth_a, eIsi1_a, eIsi_a, eInH_a, eSl_a, oX_none, oX_some, bV_a, bT_a, bAnd_a, bOr_a, bNot_a, bTrue_a, iS_a, iEn_a, iZ_a, iR1_a, iR2_a, iR3_a, sSeq_a, sNil_a, sExpr_a, sRet_a, sRetN_a, sIf_a, sBrk_a, sCnt_a, sSet_a, sOwn_a, sFz_a, sFor_a, sMt_a, sFld_a, sAsg_a, sRaise_a, sTry_a, sMethO_a, endD_rt, endD_nx, endD_ex, bok, bex, oso, sok, sxc, cok, qnx, qrt, qbk, qct, qex, lnx, lct, lbk, lrt, lxc, oss, okk, obs, oms, add_i, sub_i, neg_i, lt_i, le_i, gt_i, ge_i, len_l, len_t, len_f, len_d, idx_l, idx_t, idx_f, walk_l, walk_t, walk_f, seq_l, seq_t, tuple_l, tuple_t, int_i, atI_0, atI_1, atI_2, dr_n, dr_b, dr_i, dr_s, dr_l, dr_t, dr_k, dr_f, dr_d, dr_o, dr_p, dr_w, now_l, now_d, now_o, frz_l, frz_d, frz_o, isL_l, frzAt, cu_p, cu_w, pu_p, pu_w, startD, startO, List.map_cons, List.map_nil, List.replicate, List.cons_append, List.nil_append, List.length_cons, List.length_nil, Nat.zero_add, Nat.reduceAdd, List.getElem?_cons_zero, List.getElem?_cons_succ, List.set_cons_zero, List.set_cons_succ, if_true, if_false, reduceIte, Bool.false_eq_true, bD_b, tru_n, tru_b, tru_l, tru_t, gN_a, gT_t, gAll_n, gAll_c, wipeD, ite_and, ite_or, ite_andB, ite_orB, szOk_0, szOk_1, szOk_2, szOk_3, szOk_4, Bool.not_true, Bool.not_false, Bool.true_and, Bool.and_true, Bool.false_and, Bool.and_false, Bool.true_or, Bool.or_true, Bool.false_or, Bool.or_false, decide_true, decide_false, tT, tAll, tN, tI, setI, $a,*] $[$l:location]?)
/-- the pot at p: its numbers, fuel for so many draws -/
structure Pot (S : Store) (p fuel : Nat) : Prop where
  ex : ∃ (q : Nat) (gs ss : List Int) (tr sm : Int), S[p]? = some (.lst [.ptr q, .lst (ss.map .int), .int tr, .int sm]) ∧ S[q]? = some (.lst (gs.map .int)) ∧ p ≠ q ∧ ss ≠ [] ∧ ss.length ≤ 64 ∧
    (∀ g ∈ gs, 0 ≤ g) ∧ (∀ z ∈ ss, 0 ≤ z ∧ z < 1000000007) ∧ 0 ≤ tr ∧ tr + fuel < 1000000 ∧ 0 ≤ sm ∧ sm < 999983
theorem mul_small {i j : Int} (h1 : 0 ≤ i) (h2 : i < 2 ^ 200) (h3 : 0 ≤ j) (h4 : j < 2 ^ 200) : mulOk i j = true := by
  have z : ∀ {i : Int}, 0 ≤ i → i < 2 ^ 200 → i.natAbs.log2 ≤ 200 := fun {i} h1 h2 => by
    have a : i.natAbs < 2 ^ 200 := by
      have : ((i.natAbs : Nat) : Int) = i := Int.natAbs_of_nonneg h1
      have h2' : ((i.natAbs : Nat) : Int) < ((2 ^ 200 : Nat) : Int) := by rw [this]; exact_mod_cast h2
      exact_mod_cast h2'
    by_cases e : i.natAbs = 0
    · rw [e]; decide
    · exact Nat.le_of_lt ((Nat.log2_lt e).mpr a)
  have a := z h1 h2
  have b := z h3 h4
  unfold mulOk
  exact decide_eq_true (by omega)
theorem at_int {ss : List Int} {i : Int} (h0 : 0 ≤ i) (h1 : i < ss.length) : ∃ z, atI (ss.map D.int) i = some (.int z) ∧ z ∈ ss := by
  have lt : i.toNat < ss.length := by omega
  refine ⟨ss[i.toNat], ?_, List.getElem_mem lt⟩
  unfold atI
  rw [ix_at h0 (by rw [List.length_map]; exact h1)]
  simp [lt]
theorem draw_ok {S : Store} {p fuel : Nat} {n : Int} (P : Pot S p (fuel + 1)) (h1 : 1 ≤ n) (h2 : n ≤ 1000) : ∃ r S', 0 ≤ r ∧ r < n ∧ d__law_draw [.ptr p, .int n] S = .ok (.int r, S') ∧ Pot S' p fuel ∧ S'.length = S.length := by
  obtain ⟨q, gs, ss, tr, sm, hp, hq, hpq, hne, hl, hg, hs, t0, t1, m0, m1⟩ := P.ex
  have lp : p < S.length := (List.getElem?_eq_some_iff.mp hp).1
  have lq : q < S.length := (List.getElem?_eq_some_iff.mp hq).1
  have a2 : ∀ a b c d : D, atI [a, b, c, d] 2 = some c := fun _ _ _ _ => rfl
  have a0 : ∀ a b c d : D, atI [a, b, c, d] 0 = some a := fun _ _ _ _ => rfl
  have a1 : ∀ a b c d : D, atI [a, b, c, d] 1 = some b := fun _ _ _ _ => rfl
  have a3 : ∀ a b c d : D, atI [a, b, c, d] 3 = some d := fun _ _ _ _ => rfl
  have i2 : ixN 4 2 = some 2 := rfl
  have hp1 : (S.set p (.lst [.ptr q, .lst (ss.map .int), .int (tr + 1), .int sm]))[p]? = some (.lst [.ptr q, .lst (ss.map .int), .int (tr + 1), .int sm]) := List.getElem?_set_self lp
  have hq1 : (S.set p (.lst [.ptr q, .lst (ss.map .int), .int (tr + 1), .int sm]))[q]? = some (.lst (gs.map .int)) := by rw [List.getElem?_set_ne hpq]; exact hq
  have ln : (S.set p (.lst [.ptr q, .lst (ss.map .int), .int (tr + 1), .int sm])).length = S.length := List.length_set ..
  unfold d__law_draw runD b__law_draw
  simp only [startD, List.map_cons, List.map_nil, List.replicate, List.cons_append, List.nil_append, List.length_cons, List.length_nil, if_true, if_false, reduceIte, sSeq, sSet, eHB, hV, hE, eC, eV, eBin, eH, List.getElem?_cons_zero, List.getElem?_cons_succ, Out.bind_ok, Out.opt, deref, MO.now, Option.map_some, Option.bind_some, idxD, Out.st_ok, List.set_cons_zero, List.set_cons_succ, SOut.seq_nx, SOut.seq_rt, sAsg, tI, okO, curH, putO, setI, addD, subD, optS, sIf, bV, eCmp, lenD, bD, sNil, sRet, mulD, modD, fdivD, endD_rt, endD_nx, intD, sMt, aC, aN, eCall, MO.isL, gtD, ltD, hp, hq, a0, a1, a2, a3, i2, Nat.reduceAdd]
  generalize S.set p (.lst [.ptr q, .lst (ss.map .int), .int (tr + 1), .int sm]) = S1 at hp1 hq1 ln
  have big : (2 : Int) ^ 200 = 1606938044258990275541962092341162602522202993782792835301376 := by decide
  cases gs with
  | nil =>
    simp only [startD, List.map_cons, List.map_nil, List.replicate, List.cons_append, List.nil_append, List.length_cons, List.length_nil, if_true, if_false, reduceIte, sSeq, sSet, eHB, hV, hE, eC, eV, eBin, eH, List.getElem?_cons_zero, List.getElem?_cons_succ, Out.bind_ok, Out.opt, deref, MO.now, Option.map_some, Option.bind_some, idxD, Out.st_ok, List.set_cons_zero, List.set_cons_succ, SOut.seq_nx, SOut.seq_rt, sAsg, tI, okO, curH, putO, setI, addD, subD, optS, sIf, bV, eCmp, lenD, bD, sNil, sRet, mulD, modD, fdivD, endD_rt, endD_nx, intD, sMt, aC, aN, eCall, MO.isL, gtD, ltD, hp1, hq1, a0, a1, a2, a3, i2]
    rw [if_neg (by simp)]
    have lpos : (0 : Int) < ss.length := by cases ss with
      | nil => exact absurd rfl hne
      | cons a b => simp
    obtain ⟨z, ez, mz⟩ := at_int (ss := ss) (i := tr % (ss.length : Nat)) (Int.emod_nonneg _ (by omega)) (Int.emod_lt_of_pos _ lpos)
    obtain ⟨z0, z1⟩ := hs z mz
    have k1 : mulOk z 7919 = true := mul_small z0 (by rw [big]; omega) (by decide) (by decide)
    have k2 : mulOk 104729 tr = true := mul_small (by decide) (by decide) t0 (by rw [big]; omega)
    have k3 : mulOk sm 31 = true := mul_small m0 (by rw [big]; omega) (by decide) (by decide)
    have d1 : divOk 1009 = true := by decide +kernel
    have d2 : divOk 2003 = true := by decide +kernel
    have d3 : divOk 64 = true := by decide +kernel
    have w0 : (0 : Int) < 2147483647 := by decide
    have w1 : (0 : Int) < 2147483629 := by decide
    have w2 : (0 : Int) < 2147483399 := by decide
    have w3 : (0 : Int) < n := by omega
    simp only [startD, List.map_cons, List.map_nil, List.replicate, List.cons_append, List.nil_append, List.length_cons, List.length_nil, if_true, if_false, reduceIte, sSeq, sSet, eHB, hV, hE, eC, eV, eBin, eH, List.getElem?_cons_zero, List.getElem?_cons_succ, Out.bind_ok, Out.opt, deref, MO.now, Option.map_some, Option.bind_some, idxD, Out.st_ok, List.set_cons_zero, List.set_cons_succ, SOut.seq_nx, SOut.seq_rt, sAsg, tI, okO, curH, putO, setI, addD, subD, optS, sIf, bV, eCmp, lenD, bD, sNil, sRet, mulD, modD, fdivD, endD_rt, endD_nx, intD, sMt, aC, aN, eCall, MO.isL, gtD, ltD, hp1, hq1, a0, a1, a2, a3, i2, List.length_map, modD, lpos, ez, mulD, k1, k2, k3]
    generalize hx : z * 7919 + 104729 * tr + sm * 31 = x
    have x0 : 0 ≤ x := by omega
    have x1 : x < 10 ^ 15 := by omega
    have k4 : mulOk x 48271 = true := mul_small x0 (by rw [big]; omega) (by decide) (by decide)
    simp only [startD, List.map_cons, List.map_nil, List.replicate, List.cons_append, List.nil_append, List.length_cons, List.length_nil, if_true, if_false, reduceIte, sSeq, sSet, eHB, hV, hE, eC, eV, eBin, eH, List.getElem?_cons_zero, List.getElem?_cons_succ, Out.bind_ok, Out.opt, deref, MO.now, Option.map_some, Option.bind_some, idxD, Out.st_ok, List.set_cons_zero, List.set_cons_succ, SOut.seq_nx, SOut.seq_rt, sAsg, tI, okO, curH, putO, setI, addD, subD, optS, sIf, bV, eCmp, lenD, bD, sNil, sRet, mulD, modD, fdivD, endD_rt, endD_nx, intD, sMt, aC, aN, eCall, MO.isL, gtD, ltD, k4, w0]
    generalize hy : (x * 48271 + 11) % 2147483647 = y
    have y0 : 0 ≤ y := by rw [← hy]; exact Int.emod_nonneg _ (by decide)
    have y1 : y < 2147483647 := by rw [← hy]; exact Int.emod_lt_of_pos _ (by decide)
    have k5 : mulOk y (y / 1009 + 69621) = true := mul_small y0 (by rw [big]; omega) (by omega) (by rw [big]; omega)
    simp only [startD, List.map_cons, List.map_nil, List.replicate, List.cons_append, List.nil_append, List.length_cons, List.length_nil, if_true, if_false, reduceIte, sSeq, sSet, eHB, hV, hE, eC, eV, eBin, eH, List.getElem?_cons_zero, List.getElem?_cons_succ, Out.bind_ok, Out.opt, deref, MO.now, Option.map_some, Option.bind_some, idxD, Out.st_ok, List.set_cons_zero, List.set_cons_succ, SOut.seq_nx, SOut.seq_rt, sAsg, tI, okO, curH, putO, setI, addD, subD, optS, sIf, bV, eCmp, lenD, bD, sNil, sRet, mulD, modD, fdivD, endD_rt, endD_nx, intD, sMt, aC, aN, eCall, MO.isL, gtD, ltD, fdivD, d1, k5, w1]
    generalize hv : (y * (y / 1009 + 69621)) % 2147483629 = v
    have v0 : 0 ≤ v := by rw [← hv]; exact Int.emod_nonneg _ (by decide)
    have v1 : v < 2147483629 := by rw [← hv]; exact Int.emod_lt_of_pos _ (by decide)
    have k6 : mulOk v (v / 2003 + 40692) = true := mul_small v0 (by rw [big]; omega) (by omega) (by rw [big]; omega)
    simp only [startD, List.map_cons, List.map_nil, List.replicate, List.cons_append, List.nil_append, List.length_cons, List.length_nil, if_true, if_false, reduceIte, sSeq, sSet, eHB, hV, hE, eC, eV, eBin, eH, List.getElem?_cons_zero, List.getElem?_cons_succ, Out.bind_ok, Out.opt, deref, MO.now, Option.map_some, Option.bind_some, idxD, Out.st_ok, List.set_cons_zero, List.set_cons_succ, SOut.seq_nx, SOut.seq_rt, sAsg, tI, okO, curH, putO, setI, addD, subD, optS, sIf, bV, eCmp, lenD, bD, sNil, sRet, mulD, modD, fdivD, endD_rt, endD_nx, intD, sMt, aC, aN, eCall, MO.isL, gtD, ltD, fdivD, modD, mulD, d2, k6, w2, d3, w3]
    refine ⟨_, S1, Int.emod_nonneg _ (by omega), Int.emod_lt_of_pos _ (by omega), rfl, ⟨q, [], ss, tr + 1, sm, hp1, hq1, hpq, hne, hl, hg, hs, by omega, by omega, m0, m1⟩, ln⟩
  | cons g gs =>
    simp only [startD, List.map_cons, List.map_nil, List.replicate, List.cons_append, List.nil_append, List.length_cons, List.length_nil, if_true, if_false, reduceIte, sSeq, sSet, eHB, hV, hE, eC, eV, eBin, eH, List.getElem?_cons_zero, List.getElem?_cons_succ, Out.bind_ok, Out.opt, deref, MO.now, Option.map_some, Option.bind_some, idxD, Out.st_ok, List.set_cons_zero, List.set_cons_succ, SOut.seq_nx, SOut.seq_rt, sAsg, tI, okO, curH, putO, setI, addD, subD, optS, sIf, bV, eCmp, lenD, bD, sNil, sRet, mulD, modD, fdivD, endD_rt, endD_nx, intD, sMt, aC, aN, eCall, MO.isL, gtD, ltD, hp1, hq1, a0, a1, a2, a3, i2]
    rw [if_pos (by simp)]
    have b0 : atI (D.int g :: List.map D.int gs) 0 = some (D.int g) := by
      unfold atI
      rw [ix_at (Int.le_refl 0) (by rw [List.length_cons]; omega)]
      rfl
    have dn : divOk n = true := by
      unfold divOk
      have lt : n.natAbs < 2 ^ 10 := by omega
      have ne : n.natAbs ≠ 0 := by omega
      have := (Nat.log2_lt ne).mpr lt
      rw [decide_eq_true (by omega), decide_eq_true (by omega)]
      rfl
    have i0 : ixN ((List.map D.int gs).length + 1) 0 = some 0 := ix_at (Int.le_refl 0) (by omega)
    have g0 : 0 ≤ g := hg g List.mem_cons_self
    have w3 : (0 : Int) < n := by omega
    simp only [startD, List.map_cons, List.map_nil, List.replicate, List.cons_append, List.nil_append, List.length_cons, List.length_nil, if_true, if_false, reduceIte, sSeq, sSet, eHB, hV, hE, eC, eV, eBin, eH, List.getElem?_cons_zero, List.getElem?_cons_succ, Out.bind_ok, Out.opt, deref, MO.now, Option.map_some, Option.bind_some, idxD, Out.st_ok, List.set_cons_zero, List.set_cons_succ, SOut.seq_nx, SOut.seq_rt, sAsg, tI, okO, curH, putO, setI, addD, subD, optS, sIf, bV, eCmp, lenD, bD, sNil, sRet, mulD, modD, fdivD, endD_rt, endD_nx, intD, sMt, aC, aN, eCall, MO.isL, gtD, ltD, hp1, hq1, a0, a1, a2, a3, i2, b0, dn, i0]
    have lq1 : q < S1.length := by omega
    have hp2 : ∀ mo, (S1.set q mo)[p]? = some (.lst [.ptr q, .lst (ss.map .int), .int (tr + 1), .int sm]) := fun mo => by rw [List.getElem?_set_ne (Ne.symm hpq)]; exact hp1
    have hq2 : ∀ mo, (S1.set q mo)[q]? = some mo := fun mo => List.getElem?_set_self lq1
    by_cases hgn : g < n
    · rw [if_pos (by simpa using hgn)]
      have f0 : fitI 0 = true := by decide +kernel
      have s0 : ∀ k : Nat, seqIndex? 0 (k + 1) = some 0 := fun k => by
        have c : (decide ((0 : Int) ≤ 0) && decide ((0 : Int) < ((k + 1 : Nat) : Int))) = true := by
          rw [decide_eq_true (Int.le_refl 0), decide_eq_true (by omega)]
          rfl
        show (if (decide ((0 : Int) ≤ 0) && decide ((0 : Int) < ((k + 1 : Nat) : Int))) = true then some (0 : Int).toNat else none) = some 0
        rw [if_pos c]
        rfl
      have hp3 : ∀ mo mo', ((S1.set q mo).set q mo')[p]? = some (.lst [.ptr q, .lst (ss.map .int), .int (tr + 1), .int sm]) := fun mo mo' => by rw [List.getElem?_set_ne (Ne.symm hpq)]; exact hp2 mo
      have hq3 : ∀ mo mo', ((S1.set q mo).set q mo')[q]? = some mo' := fun mo mo' => List.getElem?_set_self (by rw [List.length_set]; exact lq1)
      simp only [startD, List.map_cons, List.map_nil, List.replicate, List.cons_append, List.nil_append, List.length_cons, List.length_nil, if_true, if_false, reduceIte, sSeq, sSet, eHB, hV, hE, eC, eV, eBin, eH, List.getElem?_cons_zero, List.getElem?_cons_succ, Out.bind_ok, Out.opt, deref, MO.now, Option.map_some, Option.bind_some, idxD, Out.st_ok, List.set_cons_zero, List.set_cons_succ, SOut.seq_nx, SOut.seq_rt, sAsg, tI, okO, curH, putO, setI, addD, subD, optS, sIf, bV, eCmp, lenD, bD, sNil, sRet, mulD, modD, fdivD, endD_rt, endD_nx, intD, sMt, aC, aN, eCall, MO.isL, gtD, ltD, hp2, hq2, a0, a1, a2, a3, i2, popD, f0, s0, Nat.zero_lt_succ, w3, List.eraseIdx_cons_zero]
      refine ⟨_, _, Int.emod_nonneg _ (by omega), Int.emod_lt_of_pos _ (by omega), rfl, ⟨q, gs, ss, tr + 1, sm, hp3 _ _, hq3 _ _, hpq, hne, hl, fun y hy => hg y (.tail _ hy), hs, by omega, by omega, m0, m1⟩, by rw [List.length_set, List.length_set]; exact ln⟩
    · rw [if_neg (by simpa using hgn)]
      simp only [startD, List.map_cons, List.map_nil, List.replicate, List.cons_append, List.nil_append, List.length_cons, List.length_nil, if_true, if_false, reduceIte, sSeq, sSet, eHB, hV, hE, eC, eV, eBin, eH, List.getElem?_cons_zero, List.getElem?_cons_succ, Out.bind_ok, Out.opt, deref, MO.now, Option.map_some, Option.bind_some, idxD, Out.st_ok, List.set_cons_zero, List.set_cons_succ, SOut.seq_nx, SOut.seq_rt, sAsg, tI, okO, curH, putO, setI, addD, subD, optS, sIf, bV, eCmp, lenD, bD, sNil, sRet, mulD, modD, fdivD, endD_rt, endD_nx, intD, sMt, aC, aN, eCall, MO.isL, gtD, ltD, w3]
      refine ⟨_, _, Int.emod_nonneg _ (by omega), Int.emod_lt_of_pos _ (by omega), rfl, ⟨q, (g / n) :: gs, ss, tr + 1, sm, hp2 _, hq2 _, hpq, hne, hl, fun y hy => ?_, hs, by omega, by omega, m0, m1⟩, by rw [List.length_set]; exact ln⟩
      rcases List.mem_cons.mp hy with rfl | hy
      · exact Int.ediv_nonneg g0 (by omega)
      · exact hg y (.tail _ hy)
/-- a comprehension that leaves the store -/
theorem lcL_pure {n : NX} {t : BX} {e : EX} {f : D → D} {b : D → Bool} {ρ : LEnv} {S : Store} : ∀ {ds : List D}, (∀ d ∈ ds, ∃ ρ', n d ρ = some ρ' ∧ t ρ' S = .ok (b d, S) ∧ (b d = true → e ρ' S = .ok (f d, S))) → lcL n t e ds ρ S = .ok ((ds.filter b).map f, S)
  | [], _ => rfl
  | d :: ds, h => by
    obtain ⟨ρ', h1, h2, h3⟩ := h d List.mem_cons_self
    have ih := lcL_pure (ds := ds) fun x m => h x (.tail _ m)
    unfold lcL
    rw [h1]
    simp only [h2, Out.calm_ok, Out.bind_ok]
    cases hb : b d with
    | false =>
      simp only [Bool.false_eq_true, if_false, List.filter_cons, hb]
      exact ih
    | true =>
      simp only [if_true, h3 hb, Out.calm_ok, Out.bind_ok, ih, List.filter_cons, hb, List.map_cons]
theorem walk_lst (xs : List D) : walkD (.lst xs) = some xs := rfl
def absI (z : Int) : Int := if z < 0 then -z else z
def isBig (d : D) : Bool := match d with
  | .int z => decide ((10 : Int) ^ 18 ≤ absI z)
  | _ => false
def absOf (d : D) : D := match d with
  | .int z => .int (absI z)
  | _ => d
def modOf (d : D) : D := match d with
  | .int z => .int (z % 1000000007)
  | _ => d
theorem pow18 : powD (.int 10) (.int 18) = some (.int (10 ^ 18)) := by
  show (if (0 : Int) ≤ 18 ∧ (18 : Int) ≤ 1000000 ∧ (10 : Int).natAbs < 2 ^ 64 then some (D.int ((10 : Int) ^ (18 : Int).toNat)) else none) = _
  rw [if_pos (by decide)]
  rfl
theorem pot_ok (ns : List Int) (hn : ns.length ≤ 63) : ∃ p S, d__law_pot [.frl (ns.map .int)] [] = .ok (.ptr p, S) ∧ Pot S p 900000 := by
  have c1 : cutD (ns.map D.int) none (some 63) = ns.map D.int := by
    have z1 : HT.sIx (ns.map D.int).length (ns.map D.int).length (some 63) = (ns.map D.int).length := by
      have := HT.sIx_nat (ns.map D.int).length (ns.map D.int).length 63
      rw [show (some 63 : Option Int) = some ((63 : Nat) : Int) from rfl, this, List.length_map]
      omega
    unfold cutD
    rw [z1]
    show (List.drop 0 (ns.map D.int)).take ((ns.map D.int).length - 0) = _
    rw [List.drop_zero, Nat.sub_zero, List.take_length]
  have e1 : ∀ (ρ : LEnv) (S : Store), ρ.length = 5 → lcL (gN 4) bTrue (eH (hV 4) intD) (ns.map D.int) ρ S = .ok (ns.map D.int, S) := fun ρ S hρ => by
    rw [lcL_pure (b := fun _ => true) (f := id)]
    · simp
    · intro d hd
      obtain ⟨z, _, rfl⟩ := List.mem_map.mp hd
      refine ⟨_, rfl, rfl, fun _ => ?_⟩
      have g4 : (ρ.set 4 (.val (.int z)))[4]? = some (.val (.int z)) := List.getElem?_set_self (by omega)
      simp only [startD, List.map_cons, List.map_nil, List.replicate, List.cons_append, List.nil_append, List.length_cons, List.length_nil, if_true, if_false, reduceIte, sSeq, sSet, eHB, hV, hE, eC, eV, eBin, eH, List.getElem?_cons_zero, List.getElem?_cons_succ, Out.bind_ok, Out.opt, deref, MO.now, Option.map_some, Option.bind_some, idxD, Out.st_ok, List.set_cons_zero, List.set_cons_succ, SOut.seq_nx, SOut.seq_rt, sAsg, tI, okO, curH, putO, setI, addD, subD, optS, sIf, bV, eCmp, lenD, bD, sNil, sRet, mulD, modD, fdivD, endD_rt, endD_nx, intD, sMt, aC, aN, eCall, MO.isL, gtD, ltD, g4, id]
  have e2 : ∀ (ρ : LEnv) (S : Store), ρ.length = 5 → lcL (gN 4) (bV (eCmp geD (eH (hV 4) absD) (eBin powD (eC (D.int 10)) (eC (D.int 18))))) (eH (hV 4) absD) (ns.map D.int) ρ S = .ok (((ns.map D.int).filter isBig).map absOf, S) := fun ρ S hρ => by
    refine lcL_pure fun d hd => ?_
    obtain ⟨z, _, rfl⟩ := List.mem_map.mp hd
    have g4 : (ρ.set 4 (.val (.int z)))[4]? = some (.val (.int z)) := List.getElem?_set_self (by omega)
    refine ⟨_, rfl, ?_, fun _ => ?_⟩
    · simp only [startD, List.map_cons, List.map_nil, List.replicate, List.cons_append, List.nil_append, List.length_cons, List.length_nil, if_true, if_false, reduceIte, sSeq, sSet, eHB, hV, hE, eC, eV, eBin, eH, List.getElem?_cons_zero, List.getElem?_cons_succ, Out.bind_ok, Out.opt, deref, MO.now, Option.map_some, Option.bind_some, idxD, Out.st_ok, List.set_cons_zero, List.set_cons_succ, SOut.seq_nx, SOut.seq_rt, sAsg, tI, okO, curH, putO, setI, addD, subD, optS, sIf, bV, eCmp, lenD, bD, sNil, sRet, mulD, modD, fdivD, endD_rt, endD_nx, intD, sMt, aC, aN, eCall, MO.isL, gtD, ltD, g4, absD, pow18, geD]
      rfl
    · simp only [startD, List.map_cons, List.map_nil, List.replicate, List.cons_append, List.nil_append, List.length_cons, List.length_nil, if_true, if_false, reduceIte, sSeq, sSet, eHB, hV, hE, eC, eV, eBin, eH, List.getElem?_cons_zero, List.getElem?_cons_succ, Out.bind_ok, Out.opt, deref, MO.now, Option.map_some, Option.bind_some, idxD, Out.st_ok, List.set_cons_zero, List.set_cons_succ, SOut.seq_nx, SOut.seq_rt, sAsg, tI, okO, curH, putO, setI, addD, subD, optS, sIf, bV, eCmp, lenD, bD, sNil, sRet, mulD, modD, fdivD, endD_rt, endD_nx, intD, sMt, aC, aN, eCall, MO.isL, gtD, ltD, g4, absD]
      rfl
  have e3 : ∀ (ρ : LEnv) (S : Store), ρ.length = 5 → lcL (gN 4) (bV (eCmp ltD (eH (hV 4) absD) (eBin powD (eC (D.int 10)) (eC (D.int 18))))) (eBin modD (eH (hV 4) intD) (eC (D.int 1000000007))) (ns.map D.int) ρ S = .ok (((ns.map D.int).filter fun d => !isBig d).map modOf, S) := fun ρ S hρ => by
    refine lcL_pure fun d hd => ?_
    obtain ⟨z, _, rfl⟩ := List.mem_map.mp hd
    have g4 : (ρ.set 4 (.val (.int z)))[4]? = some (.val (.int z)) := List.getElem?_set_self (by omega)
    refine ⟨_, rfl, ?_, fun _ => ?_⟩
    · simp only [startD, List.map_cons, List.map_nil, List.replicate, List.cons_append, List.nil_append, List.length_cons, List.length_nil, if_true, if_false, reduceIte, sSeq, sSet, eHB, hV, hE, eC, eV, eBin, eH, List.getElem?_cons_zero, List.getElem?_cons_succ, Out.bind_ok, Out.opt, deref, MO.now, Option.map_some, Option.bind_some, idxD, Out.st_ok, List.set_cons_zero, List.set_cons_succ, SOut.seq_nx, SOut.seq_rt, sAsg, tI, okO, curH, putO, setI, addD, subD, optS, sIf, bV, eCmp, lenD, bD, sNil, sRet, mulD, modD, fdivD, endD_rt, endD_nx, intD, sMt, aC, aN, eCall, MO.isL, gtD, ltD, g4, absD, pow18]
      show Out.ok (decide (absI z < 10 ^ 18), S) = Out.ok (!decide ((10 : Int) ^ 18 ≤ absI z), S)
      by_cases h : absI z < 10 ^ 18
      · rw [decide_eq_true h, decide_eq_false (by omega)]
        rfl
      · rw [decide_eq_false h, decide_eq_true (by omega)]
        rfl
    · have w : (0 : Int) < 1000000007 := by decide
      simp only [startD, List.map_cons, List.map_nil, List.replicate, List.cons_append, List.nil_append, List.length_cons, List.length_nil, if_true, if_false, reduceIte, sSeq, sSet, eHB, hV, hE, eC, eV, eBin, eH, List.getElem?_cons_zero, List.getElem?_cons_succ, Out.bind_ok, Out.opt, deref, MO.now, Option.map_some, Option.bind_some, idxD, Out.st_ok, List.set_cons_zero, List.set_cons_succ, SOut.seq_nx, SOut.seq_rt, sAsg, tI, okO, curH, putO, setI, addD, subD, optS, sIf, bV, eCmp, lenD, bD, sNil, sRet, mulD, modD, fdivD, endD_rt, endD_nx, intD, sMt, aC, aN, eCall, MO.isL, gtD, ltD, g4, w]
      rfl
  unfold d__law_pot runD b__law_pot
  simp only [startD, List.map_cons, List.map_nil, List.replicate, List.cons_append, List.nil_append, List.length_cons, List.length_nil, if_true, if_false, reduceIte, sSeq, sSet, eHB, hV, hE, eC, eV, eBin, eH, List.getElem?_cons_zero, List.getElem?_cons_succ, Out.bind_ok, Out.opt, deref, MO.now, Option.map_some, Option.bind_some, idxD, Out.st_ok, List.set_cons_zero, List.set_cons_succ, SOut.seq_nx, SOut.seq_rt, sAsg, tI, okO, curH, putO, setI, addD, subD, optS, sIf, bV, eCmp, lenD, bD, sNil, sRet, mulD, modD, fdivD, endD_rt, endD_nx, intD, sMt, aC, aN, eCall, MO.isL, gtD, ltD, Nat.reduceAdd, eFz, mLc, iS, eSl, oX, sliceD, c1, walk_lst]
  have len5 : ∀ a b c d e : Slot, [a, b, c, d, e].length = 5 := fun _ _ _ _ _ => rfl
  simp only [wipeD, List.set_cons_zero, List.set_cons_succ]
  rw [e1 _ _ rfl]
  simp only [startD, List.map_cons, List.map_nil, List.replicate, List.cons_append, List.nil_append, List.length_cons, List.length_nil, if_true, if_false, reduceIte, sSeq, sSet, eHB, hV, hE, eC, eV, eBin, eH, List.getElem?_cons_zero, List.getElem?_cons_succ, Out.bind_ok, Out.opt, deref, MO.now, Option.map_some, Option.bind_some, idxD, Out.st_ok, List.set_cons_zero, List.set_cons_succ, SOut.seq_nx, SOut.seq_rt, sAsg, tI, okO, curH, putO, setI, addD, subD, optS, sIf, bV, eCmp, lenD, bD, sNil, sRet, mulD, modD, fdivD, endD_rt, endD_nx, intD, sMt, aC, aN, eCall, MO.isL, gtD, ltD, MO.frz, eAl, mLc, iS, eFz, wipeD, walk_lst]
  rw [e2 _ _ rfl]
  simp only [startD, List.map_cons, List.map_nil, List.replicate, List.cons_append, List.nil_append, List.length_cons, List.length_nil, if_true, if_false, reduceIte, sSeq, sSet, eHB, hV, hE, eC, eV, eBin, eH, List.getElem?_cons_zero, List.getElem?_cons_succ, Out.bind_ok, Out.opt, deref, MO.now, Option.map_some, Option.bind_some, idxD, Out.st_ok, List.set_cons_zero, List.set_cons_succ, SOut.seq_nx, SOut.seq_rt, sAsg, tI, okO, curH, putO, setI, addD, subD, optS, sIf, bV, eCmp, lenD, bD, sNil, sRet, mulD, modD, fdivD, endD_rt, endD_nx, intD, sMt, aC, aN, eCall, MO.isL, gtD, ltD, MO.frz, eAl, mLc, iS, eFz, wipeD, walk_lst]
  rw [e3 _ _ rfl]
  simp only [startD, List.map_cons, List.map_nil, List.replicate, List.cons_append, List.nil_append, List.length_cons, List.length_nil, if_true, if_false, reduceIte, sSeq, sSet, eHB, hV, hE, eC, eV, eBin, eH, List.getElem?_cons_zero, List.getElem?_cons_succ, Out.bind_ok, Out.opt, deref, MO.now, Option.map_some, Option.bind_some, idxD, Out.st_ok, List.set_cons_zero, List.set_cons_succ, SOut.seq_nx, SOut.seq_rt, sAsg, tI, okO, curH, putO, setI, addD, subD, optS, sIf, bV, eCmp, lenD, bD, sNil, sRet, mulD, modD, fdivD, endD_rt, endD_nx, intD, sMt, aC, aN, eCall, MO.isL, gtD, ltD, MO.frz, eAl, mLst, szOk]
  have q1 : ((ns.map D.int).filter isBig).map absOf = ((ns.filter fun z => decide ((10 : Int) ^ 18 ≤ absI z)).map absI).map D.int := by
    rw [List.filter_map, List.map_map, List.map_map]
    rfl
  have q2 : (((ns.map D.int).filter fun d => !isBig d).map modOf) ++ [D.int ((ns.length : Nat) + 1)] = (((ns.filter fun z => !decide ((10 : Int) ^ 18 ≤ absI z)).map fun z => z % 1000000007) ++ [(ns.length : Int) + 1]).map D.int := by
    rw [List.filter_map, List.map_map, List.map_append, List.map_map]
    rfl
  have l2 : (ns.filter fun z => !decide ((10 : Int) ^ 18 ≤ absI z)).length ≤ 63 := Nat.le_trans (List.length_filter_le _ _) hn
  have zz : 1000 ≤ PySem.sizeLine := by decide +kernel
  generalize hgs : (ns.filter fun z => decide ((10 : Int) ^ 18 ≤ absI z)).map absI = gs at q1
  generalize hss : ((ns.filter fun z => !decide ((10 : Int) ^ 18 ≤ absI z)).map fun z => z % 1000000007) ++ [(ns.length : Int) + 1] = ss at q2
  have ls : ss.length ≤ 64 := by rw [← hss, List.length_append, List.length_map, List.length_singleton]; omega
  have lf : (((ns.map D.int).filter fun d => !isBig d).map modOf).length + 1 ≤ PySem.sizeLine := by
    have := congrArg List.length q2
    simp only [List.length_append, List.length_map, List.length_singleton] at this
    rw [List.length_map]
    omega
  have i1 : ∀ l : List Int, intsOf (l.map D.int) = some l := fun l => by
    induction l with
    | nil => rfl
    | cons a l ih => rw [List.map_cons]; unfold intsOf; rw [ih]; rfl
  have d1 : decide (0 + 1 ≤ PySem.sizeLine) = true := decide_eq_true (by omega)
  have d4 : decide (0 + 1 + 1 + 1 + 1 ≤ PySem.sizeLine) = true := decide_eq_true (by omega)
  have w : (0 : Int) < 999983 := by decide
  simp only [d1, startD, List.map_cons, List.map_nil, List.replicate, List.cons_append, List.nil_append, List.length_cons, List.length_nil, if_true, if_false, reduceIte, sSeq, sSet, eHB, hV, hE, eC, eV, eBin, eH, List.getElem?_cons_zero, List.getElem?_cons_succ, Out.bind_ok, Out.opt, deref, MO.now, Option.map_some, Option.bind_some, idxD, Out.st_ok, List.set_cons_zero, List.set_cons_succ, SOut.seq_nx, SOut.seq_rt, sAsg, tI, okO, curH, putO, setI, addD, subD, optS, sIf, bV, eCmp, lenD, bD, sNil, sRet, mulD, modD, fdivD, endD_rt, endD_nx, intD, sMt, aC, aN, eCall, MO.isL, gtD, ltD, List.length_map, lf]
  rw [if_pos (by simpa using lf), q2, q1]
  have z0 : (0 : Int) < 999983 := by decide
  simp only [startD, List.map_cons, List.map_nil, List.replicate, List.cons_append, List.nil_append, List.length_cons, List.length_nil, if_true, if_false, reduceIte, sSeq, sSet, eHB, hV, hE, eC, eV, eBin, eH, List.getElem?_cons_zero, List.getElem?_cons_succ, Out.bind_ok, Out.opt, deref, MO.now, Option.map_some, Option.bind_some, idxD, Out.st_ok, List.set_cons_zero, List.set_cons_succ, SOut.seq_nx, SOut.seq_rt, sAsg, tI, okO, curH, putO, setI, addD, subD, optS, sIf, bV, eCmp, lenD, bD, sNil, sRet, mulD, modD, fdivD, endD_rt, endD_nx, intD, sMt, aC, aN, eCall, MO.isL, gtD, ltD, eAl, mLst, szOk, sumD, i1, d4, z0]
  refine ⟨_, _, rfl, ⟨0, gs, ss, 0, ss.sum % 999983, rfl, rfl, by decide, fun e => ?_, ls, fun g hg => ?_, fun z hz => ?_, Int.le_refl _, by decide, Int.emod_nonneg _ (by decide), Int.emod_lt_of_pos _ (by decide)⟩⟩
  · rw [← hss] at e
    simp at e
  · rw [← hgs] at hg
    obtain ⟨y, _, rfl⟩ := List.mem_map.mp hg
    unfold absI
    split <;> omega
  · rw [← hss] at hz
    rcases List.mem_append.mp hz with h | h
    · obtain ⟨y, _, rfl⟩ := List.mem_map.mp h
      exact ⟨Int.emod_nonneg _ (by decide), Int.emod_lt_of_pos _ (by decide)⟩
    · rw [List.mem_singleton] at h
      omega
theorem get_perm {α : Type} : ∀ {l : List α} {i : Nat} {a : α}, l[i]? = some a → (a :: l.eraseIdx i).Perm l
  | [], _, _, h => by cases h
  | x :: l, 0, a, h => by cases h; exact .refl _
  | x :: l, i + 1, a, h => by
    have h : l[i]? = some a := h
    exact (List.Perm.swap x a _).trans ((get_perm h).cons x)
theorem set_perm {α : Type} : ∀ {l : List α} {i : Nat} {a b : α}, l[i]? = some a → (l.set i b).Perm (b :: l.eraseIdx i)
  | [], _, _, _, h => by cases h
  | x :: l, 0, a, b, h => .refl _
  | x :: l, i + 1, a, b, h => by
    have h : l[i]? = some a := h
    exact ((set_perm h).cons x).trans (List.Perm.swap b x _)
theorem swap_perm {α : Type} (xs : List α) (i j : Nat) (a b : α) (hi : xs[i]? = some a) (hj : xs[j]? = some b) : ((xs.set i b).set j a).Perm xs := by
  have eb : (xs.set i b)[j]? = some b := by
    by_cases e : i = j
    · subst e
      exact List.getElem?_set_self (List.getElem?_eq_some_iff.mp hi).1
    · rw [List.getElem?_set_ne e]
      exact hj
  have p4 := (List.perm_cons b).mp ((get_perm eb).trans (set_perm (b := b) hi))
  exact (set_perm eb).trans ((p4.cons a).trans (get_perm hi))
theorem mixed_loop {p : Nat} {n : Nat} (hn : 1 ≤ n) (hn2 : n ≤ 100) (x1 : D) : ∀ (k fuel : Nat) (S : Store) (ys : List D) (s3 s4 : Slot) (lo : Nat), lo + k = n → ys.length = n → Pot S p (fuel + k) →
    ∃ ys' s3' s4' S', forL (gN 3) L0__law_mixed
      ((List.range' lo k).map fun i => .int (i : Nat)) [.val (.ptr p), .val x1, .own (.lst ys), s3, s4] S = .nx [.val (.ptr p), .val x1, .own (.lst ys'), s3', s4'] S' ∧ ys'.Perm ys ∧ Pot S' p fuel ∧ S'.length = S.length := by
  intro k
  induction k with
  | zero => intro fuel S ys s3 s4 lo _ _ P; exact ⟨ys, s3, s4, S, rfl, .refl _, P, rfl⟩
  | succ k ih =>
    intro fuel S ys s3 s4 lo hlo hl P
    have P' : Pot S p ((fuel + k) + 1) := P
    obtain ⟨r, S1, r0, r1, ed, P1, l1⟩ := draw_ok (n := (n : Nat)) P' (by omega) (by omega)
    rw [List.range'_succ, List.map_cons]
    unfold forL L0__law_mixed
    have lr : r.toNat < ys.length := by omega
    have ll : lo < ys.length := by omega
    have ir : ixN n r = some r.toNat := ix_at r0 (by omega)
    have il : ixN n (lo : Nat) = some lo := by rw [ix_at (by omega) (by omega)]; rfl
    have ar : atI ys r = some ys[r.toNat] := by unfold atI; rw [hl, ir]; exact List.getElem?_eq_getElem lr
    have al : atI ys (lo : Nat) = some ys[lo] := by unfold atI; rw [hl, il]; exact List.getElem?_eq_getElem ll
    have two : decide (0 + 1 + 1 ≤ PySem.sizeLine) = true := by decide +kernel
    simp only [gN, startD, List.map_cons, List.map_nil, List.replicate, List.cons_append, List.nil_append, List.length_cons, List.length_nil, if_true, if_false, reduceIte, sSeq, sSet, eHB, hV, hE, eC, eV, eBin, eH, List.getElem?_cons_zero, List.getElem?_cons_succ, Out.bind_ok, Out.opt, deref, MO.now, Option.map_some, Option.bind_some, idxD, Out.st_ok, List.set_cons_zero, List.set_cons_succ, SOut.seq_nx, SOut.seq_rt, sAsg, tI, okO, curH, putO, setI, addD, subD, optS, sIf, bV, eCmp, lenD, bD, sNil, sRet, mulD, modD, fdivD, endD_rt, endD_nx, intD, sMt, aC, aN, eCall, MO.isL, gtD, ltD, hl, ed, eTup, tT, tAll, ar, al, ir, il, szOk, two, List.length_set, SOut.loop_nx]
    obtain ⟨ys', s3', s4', S', e, pm, P2, l2⟩ := ih fuel S1 ((ys.set lo ys[r.toNat]).set r.toNat ys[lo]) _ _ (lo + 1) (by omega) (by rw [List.length_set, List.length_set]; exact hl) P1
    exact ⟨ys', s3', s4', S', e, pm.trans (swap_perm ys lo r.toNat _ _ (List.getElem?_eq_getElem ll) (List.getElem?_eq_getElem lr)), P2, l2.trans l1⟩
theorem rng0 (n : Nat) (h : n ≤ 1000) : rngD1 [.int (n : Nat)] = some ((List.range' 0 n).map fun i => D.int (i : Nat)) := by
  rw [rng1 n (by omega), List.range_eq_range']
theorem mixed_e1 {S : Store} {p : Nat} {xs : List D} : sOwn 2 (mList (hV 1)) (startD 3 [.ptr p, .lst xs]) S = .nx [.val (.ptr p), .val (.lst xs), .own (.lst xs), .no, .no] S := rfl
theorem mixed_e2 {S : Store} {p : Nat} {xs : List D} (h3 : xs.length ≤ 1000) : iR1 (aC (eH (hV 2) lenD) aN) [.val (.ptr p), .val (.lst xs), .own (.lst xs), .no, .no] S = .ok ((List.range' 0 xs.length).map fun i => .int (i : Nat), S) := by
  have r := rng0 _ h3
  simp? [r]
theorem mixed_ok {S : Store} {p fuel : Nat} {xs : List D} (h1 : 1 ≤ xs.length) (h2 : xs.length ≤ 100) (P : Pot S p (fuel + xs.length)) :
    ∃ ys S', d__law_mixed [.ptr p, .lst xs] S = .ok (.lst ys, S') ∧ ys.Perm xs ∧ Pot S' p fuel ∧ S'.length = S.length := by
  obtain ⟨ys, s3, s4, S', e, pm, P2, l2⟩ := mixed_loop h1 h2 (.lst xs) xs.length fuel S xs .no .no 0 (by omega) rfl P
  refine ⟨ys, S', ?_, pm, P2, l2⟩
  have h3 : xs.length ≤ 1000 := by omega
  unfold d__law_mixed b__law_mixed
  rw [runD_a (n := 2) rfl, seq_nx mixed_e1, seq_nx ((for_run (mixed_e2 h3)).trans e)]
  rfl
end LW
end

section
set_option linter.all false
set_option maxRecDepth 100000
namespace LW
open PySem L2 GG
local macro_rules
  | `(tactic| simp? [$a,*] $[$l:location]?) => `(tactic| simp only [eC_a, eV_a, hE_a, hV_a, eH_a, eHB_a, eBin_a, eUn_a, eAnd_a, eOr_a, eNot_a, eIf_a, eCmp_a, eChain_a, aN_a, aC_a, eTup_a, eLst_a, eCall_a, eB_a, eFz_a, eAl_a, mLst_a, mLc_a, mLc2_a, mMk_a, mDic0_a, mList_a, eMeth_a, eIsi1_a, eIsi_a, eInH_a, eSl_a, oX_none, oX_some, bV_a, bT_a, bAnd_a, bOr_a, bNot_a, bTrue_a, iS_a, iEn_a, iZ_a, iR1_a, iR2_a, iR3_a, sSeq_a, sNil_a, sExpr_a, sRet_a, sRetN_a, sIf_a, sBrk_a, sCnt_a, sSet_a, sOwn_a, sFz_a, sFor_a, sMt_a, sFld_a, sAsg_a, sRaise_a, sTry_a, sMethO_a, endD_rt, endD_nx, endD_ex, bok, bex, oso, sok, sxc, cok, qnx, qrt, qbk, qct, qex, lnx, lct, lbk, lrt, lxc, oss, okk, obs, oms, add_i, sub_i, neg_i, lt_i, le_i, gt_i, ge_i, len_l, len_t, len_f, len_d, idx_l, idx_t, idx_f, walk_l, walk_t, walk_f, seq_l, seq_t, tuple_l, tuple_t, int_i, atI_0, atI_1, atI_2, dr_n, dr_b, dr_i, dr_s, dr_l, dr_t, dr_k, dr_f, dr_d, dr_o, dr_p, dr_w, now_l, now_d, now_o, frz_l, frz_d, frz_o, isL_l, frzAt, cu_p, cu_w, pu_p, pu_w, startD, startO, List.map_cons, List.map_nil, List.replicate, List.cons_append, List.nil_append, List.length_cons, List.length_nil, Nat.zero_add, Nat.reduceAdd, List.getElem?_cons_zero, List.getElem?_cons_succ, List.set_cons_zero, List.set_cons_succ, if_true, if_false, reduceIte, Bool.false_eq_true, bD_b, tru_n, tru_b, tru_l, tru_t, gN_a, gT_t, gAll_n, gAll_c, wipeD, ite_and, ite_or, ite_andB, ite_orB, szOk_0, szOk_1, szOk_2, szOk_3, szOk_4, Bool.not_true, Bool.not_false, Bool.true_and, Bool.and_true, Bool.false_and, Bool.and_false, Bool.true_or, Bool.or_true, Bool.false_or, Bool.or_false, decide_true, decide_false, tT, tAll, tN, tI, setI, $a,*] $[$l:location]?)
/-! ### kinds of data -/
def tyB (m : String) : D → Bool
  | .bl _ => biB "bool" m
  | .int _ => biB "int" m
  | .str _ => biB "str" m
  | .tup _ => biB "tuple" m
  | .ktp _ => biB "tuple" m
  | .lst _ => biB "list" m
  | .frl _ => biB "list" m
  | .dic _ _ => biB "dict" m
  | .non => biB "NoneType" m
  | _ => false
/-- data that can be judged -/
def tame : D → Bool
  | .non => true
  | .bl _ => true
  | .int _ => true
  | .str _ => true
  | .tup _ => true
  | .lst _ => true
  | .dic _ _ => true
  | .obj c _ _ => (ctab.lookup c).isSome
  | _ => false
/-- .. and a text is not long -/
def tameS (d : D) : Prop := tame d = true ∧ ∀ z, d = .str z → z.length ≤ 1000000
theorem isi_tame {d : D} (h : tame d = true) {m : String} (hm : biTypes.contains m = true) (S : Store) : ((typN S d).bind fun u => isOne ctab u (.ty m)) = some (tyB m d) := by
  have src : ∀ n, srcTypes.contains n = true → isOne ctab (.inl n) (.ty m) = some (biB n m) := fun n hn => by
    show (if (srcTypes.contains n && biTypes.contains m) = true then some (biB n m) else none) = _
    rw [hn, hm]
    rfl
  cases d <;> first | (exact src _ (by decide)) | (exact Bool.noConfusion h) | skip
  rename_i c _ _
  have h : (ctab.lookup c).isSome = true := h
  show (if ((ctab.lookup c).isSome && biTypes.contains m) = true then some false else none) = _
  rw [h, hm]
  rfl
def isInt : D → Bool
  | .int _ => true
  | _ => false
def isNat : D → Bool
  | .int i => decide (0 ≤ i)
  | _ => false
theorem ty_int (d : D) : tyB "int" d = (isInt d || tyB "bool" d) := by cases d <;> rfl
theorem int_bool (d : D) (h : isInt d = true) : tyB "bool" d = false := by cases d <;> first | rfl | cases h
theorem isi_a {ρ : LEnv} {S S' : Store} {e : EX} {d : D} {m : String} (he : e ρ S = .ok (d, S')) (h : tame d = true) (hm : biTypes.contains m = true) : eIsi1 ctab (.ty m) e ρ S = .ok (.bl (tyB m d), S') := by
  rw [eIsi1_a, he]
  simp only [Out.bind_ok, isi_tame h hm]
  rfl
theorem is_integer_ok {d : D} (h : tame d = true) (S : Store) : d_is_integer [d] S = .ok (.bl (isInt d), S) := by
  unfold d_is_integer b_is_integer
  rw [runD_a (n := 1) rfl]
  have t1 := isi_tame h (m := "int") (by decide)
  have t2 := isi_tame h (m := "bool") (by decide)
  simp? [t1, t2, ty_int]
  cases hi : isInt d with
  | true => simp only [int_bool d hi]; rfl
  | false => cases hb : tyB "bool" d <;> rfl
theorem is_number_ok {d : D} (h : tame d = true) (S : Store) : d_is_number [d] S = .ok (.bl (isNat d), S) := by
  unfold d_is_number b_is_number
  rw [runD_a (n := 1) rfl]
  simp? [is_integer_ok h]
  cases d <;> simp? [isInt, isNat]
theorem le_s (x y : Str) : leD (.str x) (.str y) = some (!decide (y.cps.toList < x.cps.toList)) := nd rfl
def lowC (c : Nat) : Bool := decide (97 ≤ c) && decide (c ≤ 122)
theorem one_lt (a b : Nat) : ([a] < [b]) ↔ a < b := by
  rw [List.cons_lt_cons_iff]
  constructor
  · rintro (h | ⟨_, h⟩)
    · exact h
    · exact absurd h (by simp)
  · exact .inl
theorem cps_a : ("a" : Str).cps.toList = [97] := by decide +kernel
theorem cps_z : ("z" : Str).cps.toList = [122] := by decide +kernel
theorem le_lo (c : Nat) : leD (.str "a") (.str ⟨#[c]⟩) = some (decide (97 ≤ c)) := by
  rw [le_s, cps_a]
  show some (!decide ([c] < [97])) = _
  by_cases h : 97 ≤ c
  · rw [decide_eq_true h, decide_eq_false (by rw [one_lt]; omega)]; rfl
  · rw [decide_eq_false h, decide_eq_true (by rw [one_lt]; omega)]; rfl
theorem le_hi (c : Nat) : leD (.str ⟨#[c]⟩) (.str "z") = some (decide (c ≤ 122)) := by
  rw [le_s, cps_z]
  show some (!decide ([122] < [c])) = _
  by_cases h : c ≤ 122
  · rw [decide_eq_true h, decide_eq_false (by rw [one_lt]; omega)]; rfl
  · rw [decide_eq_false h, decide_eq_true (by rw [one_lt]; omega)]; rfl
/-- whether all signs of a text are a to z, by a comprehension -/
theorem low_ok {ρ : LEnv} {S : Store} {i : Nat} {z : Str} (hi : i < ρ.length) : lcL (gN i) bTrue (eChain leD leD (eC (.str "a")) (eV i) (eC (.str "z"))) (charsD z) ρ S = .ok (z.cps.toList.map fun c => .bl (lowC c), S) := by
  unfold charsD
  refine lcL_map fun c _ => ⟨_, rfl, ?_⟩
  have g : (ρ.set i (.val (.str ⟨#[c]⟩)))[i]? = some (.val (.str ⟨#[c]⟩)) := List.getElem?_set_self hi
  simp? [g, le_lo, le_hi, lowC]
def isNm : D → Bool
  | .str z => decide ((1 : Int) ≤ z.length) && decide ((z.length : Int) ≤ 8) && z.cps.toList.all lowC
  | _ => false
theorem isStr_of {d : D} (h : tyB "str" d = true) : ∃ z, d = .str z := by
  cases d <;> first | exact ⟨_, rfl⟩ | exact absurd h (by simp [tyB, biB])
theorem is_name_ok {d : D} (h : tameS d) (S : Store) : d_is_name [d] S = .ok (.bl (isNm d), S) := by
  unfold d_is_name b_is_name
  rw [runD_a (n := 1) rfl]
  have t1 := isi_tame h.1 (m := "str") (by decide)
  simp? [t1]
  cases hb : tyB "str" d with
  | false =>
    have e : isNm d = false := by cases d <;> first | rfl | exact absurd hb (by simp [tyB, biB])
    simp? [e]
  | true =>
    obtain ⟨z, rfl⟩ := isStr_of hb
    have hz : z.length ≤ 16777216 := by
      have := h.2 z rfl
      omega
    have lo := fun S => low_ok (S := S) (i := 1) (ρ := [.val (.str z), .no]) (z := z) (Nat.lt_succ_self 1)
    simp? [len_s hz, walk_s hz, lo, isNm, allD_map, Bool.and_assoc]
theorem isTup_of {d : D} (h : tame d = true) (ht : tyB "tuple" d = true) : ∃ xs, d = .tup xs := by
  cases d <;> first | exact ⟨_, rfl⟩ | exact Bool.noConfusion h | exact absurd ht (by simp [tyB, biB])
theorem isLst_of {d : D} (h : tame d = true) (ht : tyB "list" d = true) : ∃ xs, d = .lst xs := by
  cases d <;> first | exact ⟨_, rfl⟩ | exact Bool.noConfusion h | exact absurd ht (by simp [tyB, biB])
/-- data whose items can be judged, too -/
def tame1 (d : D) : Prop := tame d = true ∧ ∀ xs, d = .tup xs ∨ d = .lst xs → ∀ x ∈ xs, tameS x
def isNums (d : D) (n : Int) : Bool := match d with
  | .tup xs => decide ((xs.length : Int) = n) && xs.all isNat
  | _ => false
theorem eqD_i (i j : Int) : eqD (.int i) (.int j) = some (decide (i = j)) := by
  have s : ∀ i : Int, SeqAt.shaped (.int i) = true := fun i => rfl
  show (if (SeqAt.shaped (.int i) && SeqAt.shaped (.int j)) = true then some (PyData.eqv (.int i) (.int j)) else none) = _
  rw [s, s]
  rfl
theorem neD_i (i j : Int) : neD (.int i) (.int j) = some (!decide (i = j)) := by
  unfold neD
  rw [eqD_i]
  rfl
theorem are_numbers_ok {d : D} (h : tame1 d) (n : Int) (S : Store) : d_are_numbers [d, .int n] S = .ok (.bl (isNums d n), S) := by
  unfold d_are_numbers b_are_numbers
  rw [runD_a (n := 2) rfl]
  have t1 := isi_tame h.1 (m := "tuple") (by decide)
  simp? [t1]
  cases hb : tyB "tuple" d with
  | false =>
    have e : isNums d n = false := by cases d <;> first | rfl | exact absurd hb (by simp [tyB, biB])
    simp? [e]
  | true =>
    obtain ⟨xs, rfl⟩ := isTup_of h.1 hb
    have lo : ∀ S, lcL (gN 2) bTrue (eCall d_is_number (aC (eV 2) aN)) xs [.val (.tup xs), .val (.int n), .no] S = .ok (xs.map fun x => .bl (isNat x), S) := fun S =>
      lcL_mapD fun x m => ⟨_, rfl, by simp? [is_number_ok (h.2 xs (.inl rfl) x m).1]⟩
    simp? [eqD_i, lo, isNums, allD_map]
/-- a tuple of so many unlike names -/
def strOf : D → Str
  | .str z => z
  | _ => ""
def isNms (d : D) (lo hi : Int) : Bool := match d with
  | .tup xs => decide (lo ≤ xs.length) && decide ((xs.length : Int) ≤ hi) && xs.all isNm && decide (xs.map strOf).Nodup
  | _ => false
theorem isNm_str {d : D} (h : isNm d = true) : d = .str (strOf d) := by
  cases d <;> first | rfl | cases h
theorem keys_nms : ∀ {xs : List D}, xs.all isNm = true → keysL xs = some (xs.map fun x => Sum.inr (strOf x))
  | [], _ => rfl
  | x :: xs, h => by
    rw [List.all_cons, Bool.and_eq_true] at h
    have e := isNm_str h.1
    have ih := keys_nms h.2
    show ((keyK x).bind fun k => (keysL xs).map fun r => k :: r) = _
    rw [e, ih]
    rfl
theorem uq_le {α : Type} [DecidableEq α] (xs : List α) : ∀ acc : List α, acc.Nodup → (xs.foldl (fun a x => if x ∈ a then a else a ++ [x]) acc).length ≤ acc.length + xs.length ∧
    ((xs.foldl (fun a x => if x ∈ a then a else a ++ [x]) acc).length = acc.length + xs.length ↔ (acc ++ xs).Nodup) := by
  induction xs with
  | nil => intro acc h; simpa using h
  | cons x xs ih =>
    intro acc h
    rw [List.foldl_cons]
    by_cases hx : x ∈ acc
    · rw [if_pos hx]
      obtain ⟨h1, h2⟩ := ih acc h
      refine ⟨by rw [List.length_cons]; omega, fun e => ?_, fun n => ?_⟩
      · rw [List.length_cons] at e
        omega
      · rw [List.nodup_append] at n
        exact absurd rfl (n.2.2 x hx x List.mem_cons_self)
    · rw [if_neg hx]
      have hn : (acc ++ [x]).Nodup := by
        rw [List.nodup_append]
        exact ⟨h, by simp, fun a ha b hb e => by rw [List.mem_singleton] at hb; subst e; subst hb; exact hx ha⟩
      obtain ⟨h1, h2⟩ := ih _ hn
      rw [List.length_append, List.length_singleton] at h1 h2
      rw [List.length_cons]
      refine ⟨by omega, fun e => ?_, fun n => ?_⟩
      · have := h2.mp (by omega)
        rwa [List.append_assoc] at this
      · have : (acc ++ [x] ++ xs).Nodup := by rw [List.append_assoc]; exact n
        have := h2.mpr this
        omega
theorem uq_len {α : Type} [DecidableEq α] (xs : List α) : (uq xs).length = xs.length ↔ xs.Nodup := by
  have := (uq_le xs [] (by simp)).2
  simpa [uq] using this
theorem lenset_nms {xs : List D} (h : xs.all isNm = true) (hl : xs.length ≤ 4000) : lensetD (.tup xs) = some (.int (uq (xs.map fun x => (Sum.inr (strOf x) : L2.Key))).length) := by
  show (keysL xs).bind _ = _
  rw [keys_nms h, Option.bind_some, if_pos (by rw [List.length_map]; show _ < 4096; omega)]
theorem nodup_inr (xs : List D) : (xs.map fun x => (Sum.inr (strOf x) : L2.Key)).Nodup ↔ (xs.map strOf).Nodup := by
  rw [show (xs.map fun x => (Sum.inr (strOf x) : L2.Key)) = (xs.map strOf).map Sum.inr from by rw [List.map_map]; rfl]
  constructor
  · exact fun h => List.Pairwise.of_map Sum.inr (fun a b h e => h (by rw [e])) h
  · exact fun h => List.Pairwise.map Sum.inr (fun a b h e => h (Sum.inr.inj e)) h
theorem set_len {xs : List D} : decide (((uq (xs.map fun x => (Sum.inr (strOf x) : L2.Key))).length : Int) = (xs.length : Int)) = decide (xs.map strOf).Nodup := by
  refine decide_eq_decide.mpr ?_
  rw [← nodup_inr, ← uq_len, List.length_map]
  omega
theorem are_names_ok {d : D} (h : tame1 d) (lo hi : Int) (hh : hi ≤ 4000) (S : Store) : d_are_names [d, .int lo, .int hi] S = .ok (.bl (isNms d lo hi), S) := by
  unfold d_are_names b_are_names
  rw [runD_a (n := 3) rfl]
  have t1 := isi_tame h.1 (m := "tuple") (by decide)
  cases hb : tyB "tuple" d with
  | false =>
    have e : isNms d lo hi = false := by cases d <;> first | rfl | exact absurd hb (by simp [tyB, biB])
    simp? [t1, hb, e]
  | true =>
    obtain ⟨xs, rfl⟩ := isTup_of h.1 hb
    simp? [t1, hb, Bool.false_or]
    have lo' : ∀ S, lcL (gN 3) bTrue (eCall d_is_name (aC (eV 3) aN)) xs [.val (.tup xs), .val (.int lo), .val (.int hi), .no] S = .ok (xs.map fun x => .bl (isNm x), S) := fun S =>
      lcL_mapD fun x m => ⟨_, rfl, by simp? [is_name_ok (h.2 xs (.inl rfl) x m)]⟩
    cases hc : (decide (lo ≤ (xs.length : Int)) && decide ((xs.length : Int) ≤ hi)) with
    | false => simp? [isNms, hc, Bool.false_and]
    | true =>
      have hl : xs.length ≤ 4000 := by
        simp only [Bool.and_eq_true, decide_eq_true_eq] at hc
        omega
      simp? [lo', allD_map, isNms, hc, Bool.true_and]
      cases ha : xs.all isNm with
      | false => simp? [Bool.false_and]
      | true => simp? [lenset_nms ha hl, eqD_i, set_len, Bool.true_and]
end LW
end

section
set_option linter.all false
set_option maxRecDepth 100000
namespace LW
open PySem L2 GG
local macro_rules
  | `(tactic| simp? [$a,*] $[$l:location]?) => `(tactic| simp only [eC_a, eV_a, hE_a, hV_a, eH_a, eHB_a, eBin_a, eUn_a, eAnd_a, eOr_a, eNot_a, eIf_a, eCmp_a, eChain_a, aN_a, aC_a, eTup_a, eLst_a, eCall_a, eB_a, eFz_a, eAl_a, mLst_a, mLc_a, mLc2_a, mMk_a, mDic0_a, mList_a, eMeth_a, eIsi1_a, eIsi_a, eInH_a, eSl_a, oX_none, oX_some, bV_a, bT_a, bAnd_a, bOr_a, bNot_a, bTrue_a, iS_a, iEn_a, iZ_a, iR1_a, iR2_a, iR3_a, sSeq_a, sNil_a, sExpr_a, sRet_a, sRetN_a, sIf_a, sBrk_a, sCnt_a, sSet_a, sOwn_a, sFz_a, sFor_a, sMt_a, sFld_a, sAsg_a, sRaise_a, sTry_a, sMethO_a, endD_rt, endD_nx, endD_ex, bok, bex, oso, sok, sxc, cok, qnx, qrt, qbk, qct, qex, lnx, lct, lbk, lrt, lxc, oss, okk, obs, oms, add_i, sub_i, neg_i, lt_i, le_i, gt_i, ge_i, len_l, len_t, len_f, len_d, idx_l, idx_t, idx_f, walk_l, walk_t, walk_f, seq_l, seq_t, tuple_l, tuple_t, int_i, atI_0, atI_1, atI_2, dr_n, dr_b, dr_i, dr_s, dr_l, dr_t, dr_k, dr_f, dr_d, dr_o, dr_p, dr_w, now_l, now_d, now_o, frz_l, frz_d, frz_o, isL_l, frzAt, cu_p, cu_w, pu_p, pu_w, startD, startO, List.map_cons, List.map_nil, List.replicate, List.cons_append, List.nil_append, List.length_cons, List.length_nil, Nat.zero_add, Nat.reduceAdd, List.getElem?_cons_zero, List.getElem?_cons_succ, List.set_cons_zero, List.set_cons_succ, if_true, if_false, reduceIte, Bool.false_eq_true, bD_b, tru_n, tru_b, tru_l, tru_t, gN_a, gT_t, gAll_n, gAll_c, wipeD, ite_and, ite_or, ite_andB, ite_orB, szOk_0, szOk_1, szOk_2, szOk_3, szOk_4, Bool.not_true, Bool.not_false, Bool.true_and, Bool.and_true, Bool.false_and, Bool.and_false, Bool.true_or, Bool.or_true, Bool.false_or, Bool.or_false, decide_true, decide_false, tT, tAll, tN, tI, setI, $a,*] $[$l:location]?)
/-! ### tables, typed -/
abbrev nD (n : Nat) : D := .int (n : Nat)
def tuN (ns : List Nat) : D := .tup (ns.map nD)
abbrev Form := Nat × List Nat
def formD (f : Form) : D := .tup [nD f.1, tuN f.2]
def rowD (r : List Form) : D := .tup (r.map formD)
def rowsD (rs : List (List Form)) : D := .tup (rs.map rowD)
theorem nD_nat (n : Nat) : isNat (nD n) = true := decide_eq_true (Int.natCast_nonneg n)
theorem all_nD (ns : List Nat) : (ns.map nD).all isNat = true := by
  rw [List.all_map, List.all_eq_true]
  exact fun n _ => nD_nat n
theorem tame_nD (n : Nat) : tame (nD n) = true := rfl
theorem tame1_tuN (ns : List Nat) : tame1 (tuN ns) := ⟨rfl, fun xs h x m => by
  rcases h with h | h
  · cases h
    obtain ⟨n, _, rfl⟩ := List.mem_map.mp m
    exact ⟨rfl, fun z e => by cases e⟩
  · cases h⟩
theorem isNums_tuN (ns : List Nat) (k : Int) : isNums (tuN ns) k = decide ((ns.length : Int) = k) := by
  show (decide (((ns.map nD).length : Int) = k) && (ns.map nD).all isNat) = _
  rw [all_nD, Bool.and_true, List.length_map]
theorem at_map {α : Type} {xs : List α} {f : α → D} {k : Nat} {x : α} (h : xs[k]? = some x) : atI (xs.map f) (k : Int) = some (f x) :=
  GG.atI_nat (by rw [List.getElem?_map, h]; rfl)
theorem at_nD {xs : List Nat} {k : Nat} (h : k < xs.length) : atI (xs.map nD) (k : Int) = some (nD (xs.getD k 0)) := by
  rw [at_map (x := xs.getD k 0)]
  rw [List.getD_eq_getElem?_getD, List.getElem?_eq_getElem h]
  rfl
theorem len_tuN (ns : List Nat) : lenD (tuN ns) = some (.int ns.length) := by
  show some (D.int ((ns.map nD).length : Nat)) = _
  rw [List.length_map]
theorem are_bounds_ok (b : List Nat) (S : Store) : d_are_bounds [tuN b] S = .ok (.bl (decide ((b.length : Int) ≤ 2)), S) := by
  unfold d_are_bounds b_are_bounds
  rw [runD_a (n := 1) rfl]
  have t1 := isi_tame (tame1_tuN b).1 (m := "tuple") (by decide)
  have t2 : tyB "tuple" (tuN b) = true := rfl
  have e := are_numbers_ok (tame1_tuN b) b.length
  rw [isNums_tuN, decide_eq_true rfl] at e
  have dr : ∀ ρ S, deref ρ S (.d (tuN b)) = some (tuN b) := fun _ _ => rfl
  simp? [t1, t2, dr, len_tuN, e, Bool.and_true]
theorem are_measures_ok (m : List Nat) (k : Int) (S : Store) : d_are_measures [tuN m, .int k] S = .ok (.bl (decide ((m.length : Int) = k) && m.all fun x => decide (0 < x)), S) := by
  unfold d_are_measures b_are_measures
  rw [runD_a (n := 2) rfl]
  have e := are_numbers_ok (tame1_tuN m) k
  rw [isNums_tuN] at e
  have lo : ∀ S, lcL (gN 2) bTrue (eCmp gtD (eV 2) (eC (D.int 0))) (m.map nD) [.val (tuN m), .val (.int k), .no] S = .ok (m.map fun x => .bl (decide (0 < x)), S) := fun S =>
    lcL_map fun x _ => ⟨_, rfl, by
      simp? []
      congr 3
      exact decide_eq_decide.mpr (by omega)⟩
  have w : walkD (tuN m) = some (m.map nD) := rfl
  simp? [e, w, lo, allD_map]
theorem is_great_ok {b c : List Nat} {k : Nat} (h1 : k < b.length) (h2 : k < c.length) (S : Store) : d_is_great [tuN b, tuN c, nD k] S = .ok (.bl (decide (b.getD k 0 ≤ c.getD k 0)), S) := by
  unfold d_is_great b_is_great
  rw [runD_a (n := 3) rfl]
  simp? [tuN, at_nD h1, at_nD h2]
  congr 3
  exact decide_eq_decide.mpr (by omega)
/-- a form of a cell -/
def fitF (b c : List Nat) (f : Form) : Bool := decide (f.2.length = c.length) && (List.range c.length).all fun k => decide (f.2.getD k 0 = 0) || decide (b.getD k 0 ≤ c.getD k 0)
theorem is_form_ok {b c : List Nat} (f : Form) (h1 : c.length ≤ b.length) (h2 : c.length ≤ 16777216) (S : Store) : d_is_form [formD f, tuN b, tuN c] S = .ok (.bl (fitF b c f), S) := by
  obtain ⟨base, steps⟩ := f
  unfold d_is_form b_is_form
  rw [runD_a (n := 3) rfl]
  have t1 := isi_tame (d := formD (base, steps)) rfl (m := "tuple") (by decide)
  have t2 : tyB "tuple" (formD (base, steps)) = true := rfl
  have dr : ∀ ρ S, deref ρ S (.d (formD (base, steps))) = some (formD (base, steps)) := fun _ _ => rfl
  have l2 : lenD (formD (base, steps)) = some (.int 2) := rfl
  have i0 : idxD (formD (base, steps)) (.int 0) = some (nD base) := atI_0 _ _
  have i1 : idxD (formD (base, steps)) (.int 1) = some (tuN steps) := atI_1 _ _ _
  have dc : ∀ ρ S, deref ρ S (.d (tuN c)) = some (tuN c) := fun _ _ => rfl
  have ds : ∀ ρ S, deref ρ S (.d (tuN steps)) = some (tuN steps) := fun _ _ => rfl
  have nn : neD (.int 2) (.int 2) = some false := neD_i 2 2
  have is := are_numbers_ok (tame1_tuN steps) c.length
  rw [isNums_tuN] at is
  have nb := is_number_ok (tame_nD base)
  rw [nD_nat] at nb
  simp? [t1, t2, dr, l2, i0, i1, dc, nn, nb, is, len_tuN, Bool.or_false, Bool.not_true, fitF]
  by_cases hl : steps.length = c.length
  · have lo : ∀ S, lcL (gN 3) bTrue (eOr (eCmp eqD (eHB (hE (eHB (hV 0) (eC (D.int 1)) idxD)) (eV 3) idxD) (eC (D.int 0))) (eCall d_is_great (aC (eV 1) (aC (eV 2) (aC (eV 3) aN))))) ((List.range c.length).map fun i => D.int (i : Nat)) [.val (formD (base, steps)), .val (tuN b), .val (tuN c), .no] S =
        .ok ((List.range c.length).map fun k => .bl (decide (steps.getD k 0 = 0) || decide (b.getD k 0 ≤ c.getD k 0)), S) := fun S => lcL_map fun k hk => ⟨_, rfl, by
      have hk := List.mem_range.mp hk
      have ik : idxD (tuN steps) (.int (k : Nat)) = some (nD (steps.getD k 0)) := at_nD (by omega)
      have g := fun S => is_great_ok (b := b) (c := c) (k := k) (by omega) hk S
      simp? [dr, i1, ds, ik, eqD_i, g]
      congr 4
      exact decide_eq_decide.mpr (by omega)⟩
    have h3 : decide ((steps.length : Int) = c.length) = true := decide_eq_true (by omega)
    simp? [h3, dc, len_tuN, rng1 _ h2, lo, allD_map, hl]
  · have h3 : decide ((steps.length : Int) = c.length) = false := decide_eq_false (by omega)
    simp? [h3, hl]
def fitR (b c : List Nat) (r : List Form) : Bool := decide ((1 : Int) ≤ r.length) && decide ((r.length : Int) ≤ 12) && r.all (fitF b c)
theorem is_row_ok {b c : List Nat} (r : List Form) (h1 : c.length ≤ b.length) (h2 : c.length ≤ 16777216) (S : Store) : d_is_row [rowD r, tuN b, tuN c] S = .ok (.bl (fitR b c r), S) := by
  unfold d_is_row b_is_row
  rw [runD_a (n := 3) rfl]
  have t1 := isi_tame (d := rowD r) rfl (m := "tuple") (by decide)
  have t2 : tyB "tuple" (rowD r) = true := rfl
  have dr : ∀ ρ S, deref ρ S (.d (rowD r)) = some (rowD r) := fun _ _ => rfl
  have l2 : lenD (rowD r) = some (.int r.length) := by
    show some (D.int ((r.map formD).length : Nat)) = _
    rw [List.length_map]
  have w : walkD (rowD r) = some (r.map formD) := rfl
  have lo : ∀ S, lcL (gN 3) bTrue (eCall d_is_form (aC (eV 3) (aC (eV 1) (aC (eV 2) aN)))) (r.map formD) [.val (rowD r), .val (tuN b), .val (tuN c), .no] S = .ok (r.map fun f => .bl (fitF b c f), S) := fun S =>
    lcL_map fun f _ => ⟨_, rfl, by simp? [is_form_ok f h1 h2]⟩
  simp? [t1, t2, dr, l2, w, lo, allD_map, fitR, Bool.not_true, Bool.false_or]
  cases hc : (decide ((1 : Int) ≤ (r.length : Int)) && decide ((r.length : Int) ≤ 12)) with
  | false => simp? []
  | true => simp? [w, lo, allD_map]
/-! cells -/
def cellsL : List Nat → List Nat → List (List Nat) → List (List Nat)
  | b :: bs, m :: ms, found => cellsL bs ms (found.flatMap fun c => (List.range (b + m)).map fun n => c ++ [n])
  | _, _, found => found
def cells (b m : List Nat) : List (List Nat) := cellsL b m [[]]
def prodL : List Nat → List Nat → Nat
  | b :: bs, m :: ms => (b + m) * prodL bs ms
  | _, _ => 1
theorem cellsL_len : ∀ (b m : List Nat) (found : List (List Nat)), (cellsL b m found).length = found.length * prodL b m
  | [], _, found => by simp [cellsL, prodL]
  | _ :: _, [], found => by simp [cellsL, prodL]
  | b :: bs, m :: ms, found => by
    unfold cellsL prodL
    rw [cellsL_len bs ms]
    have : (found.flatMap fun c => (List.range (b + m)).map fun n => c ++ [n]).length = found.length * (b + m) := by
      induction found with
      | nil => simp
      | cons x xs ih => rw [List.flatMap_cons, List.length_append, ih, List.length_map, List.length_range, List.length_cons, Nat.succ_mul, Nat.add_comm]
    rw [this, Nat.mul_assoc]
theorem cells_len (b m : List Nat) : (cells b m).length = prodL b m := by
  unfold cells
  rw [cellsL_len]
  simp
theorem prodL_pos : ∀ (b m : List Nat), (∀ x ∈ m, 0 < x) → 1 ≤ prodL b m
  | [], _, _ => by simp [prodL]
  | _ :: _, [], _ => by simp [prodL]
  | b :: bs, m :: ms, h => by
    unfold prodL
    have h1 := prodL_pos bs ms fun x hx => h x (.tail _ hx)
    have h2 := h m List.mem_cons_self
    exact Nat.mul_pos (by omega) h1
theorem cellsL_item : ∀ (b m : List Nat) (found : List (List Nat)) (k : Nat), b.length = m.length → (∀ c ∈ found, c.length = k) → ∀ c ∈ cellsL b m found, c.length = k + b.length
  | [], _, found, k, hl, h => h
  | b :: bs, [], found, k, hl, h => by simp at hl
  | b :: bs, m :: ms, found, k, hl, h => by
    intro c hc
    unfold cellsL at hc
    have := cellsL_item bs ms _ (k + 1) (by simpa using hl) (fun c hc => by
      obtain ⟨c0, h0, h1⟩ := List.mem_flatMap.mp hc
      obtain ⟨n, _, rfl⟩ := List.mem_map.mp h1
      rw [List.length_append, h c0 h0]
      rfl) c hc
    rw [this, List.length_cons]
    omega
theorem cells_item {b m : List Nat} (hl : b.length = m.length) {c : List Nat} (h : c ∈ cells b m) : c.length = b.length := by
  have := cellsL_item b m [[]] 0 hl (by simp) c h
  omega
theorem zip_nD : ∀ (b m : List Nat), ((b.map nD).zip (m.map nD)).map (fun q => D.tup [q.1, q.2]) = (b.zip m).map fun q => .tup [nD q.1, nD q.2]
  | [], _ => rfl
  | _ :: _, [] => rfl
  | b :: bs, m :: ms => by
    rw [List.map_cons, List.map_cons, List.zip_cons_cons, List.map_cons, zip_nD bs ms]
    rfl
theorem cellsL_fold : ∀ (b m : List Nat) (found : List (List Nat)), (b.zip m).foldl (fun found q => found.flatMap fun c => (List.range (q.1 + q.2)).map fun n => c ++ [n]) found = cellsL b m found
  | [], _, _ => by simp [cellsL]
  | _ :: _, [], _ => by simp [cellsL]
  | b :: bs, m :: ms, found => by
    rw [List.zip_cons_cons, List.foldl_cons, cellsL_fold bs ms]
    rfl
theorem seq_tuN (ns : List Nat) : seqD (tuN ns) = some (ns.map nD) := rfl
theorem addN (a b : Nat) : addD (nD a) (nD b) = some (nD (a + b)) := by
  show some (D.int ((a : Int) + b)) = _
  congr 2
theorem cat_tuN {c : List Nat} {n : Nat} (h : c.length ≤ 1000) : addD (tuN c) (.tup [nD n]) = some (tuN (c ++ [n])) := by
  unfold tuN
  rw [add_t (by rw [List.length_map, List.length_singleton]; omega), List.map_append]
  rfl
theorem cells_flat (found : List (List Nat)) (n : Nat) : (found.flatMap fun c => (List.range n).map fun i => tuN (c ++ [i])) = (found.flatMap fun c => (List.range n).map fun i => c ++ [i]).map tuN := by
  rw [List.map_flatMap]
  congr 1
  funext c
  rw [List.map_map]
  rfl
theorem cells_flen (found : List (List Nat)) (b m : Nat) : (found.flatMap fun c => (List.range (b + m)).map fun n => c ++ [n]).length = found.length * (b + m) := by
  have := cellsL_len [b] [m] found
  simpa [cellsL, prodL] using this
theorem cells_step {S : Store} {x0 x1 s5 s6 : Slot} {found : List (List Nat)} {b m : Nat} (hf : 0 < found.length) (hk : ∀ c ∈ found, c.length ≤ 1000) (hp : found.length * (b + m) ≤ 16777216) :
    L0_cells_of [x0, x1, .val (.lst (found.map tuN)), .val (nD b), .val (nD m), s5, s6] S = .nx [x0, x1, .val (.lst ((found.flatMap fun c => (List.range (b + m)).map fun n => c ++ [n]).map tuN)), .val (nD b), .val (nD m), s5, s6] S := by
  have hbm : b + m ≤ 16777216 := Nat.le_trans (Nat.le_mul_of_pos_left _ hf) hp
  have lc : lc2L (gN 5) bTrue (iR1 (aC (eBin addD (eV 3) (eV 4)) aN)) (gN 6) bTrue (eBin addD (eV 5) (eTup (aC (eV 6) aN))) [6] (found.map tuN) [x0, x1, .val (.lst (found.map tuN)), .val (nD b), .val (nD m), .no, .no] S =
      .ok (found.flatMap fun c => (List.range (b + m)).map fun n => tuN (c ++ [n]), S) := by
    refine lc2L_map fun c hc => ⟨[x0, x1, .val (.lst (found.map tuN)), .val (nD b), .val (nD m), .val (tuN c), .no], (List.range (b + m)).map fun i => D.int (i : Nat), rfl, ?_, ?_⟩
    · have a := addN b m
      simp? [a, rng1 _ hbm]
    · refine lcL_map fun n _ => ⟨_, rfl, ?_⟩
      have a := cat_tuN (c := c) (n := n) (hk c hc)
      simp? [a]
  rw [cells_flat] at lc
  have sz : szOk ((found.flatMap fun c => (List.range (b + m)).map fun n => c ++ [n]).map tuN).length = true := szOk_t (by rw [List.length_map, cells_flen]; exact hp)
  unfold L0_cells_of
  simp? [lc, lcEnd, sz]
theorem cells_loop {S : Store} {x0 x1 : Slot} : ∀ (b m : List Nat) (found : List (List Nat)) (k : Nat) (s3 s4 s5 s6 : Slot), 0 < found.length → (∀ c ∈ found, c.length ≤ k) → k + b.length ≤ 1000 → (∀ x ∈ m, 0 < x) → found.length * prodL b m ≤ 16777216 →
    ∃ s3' s4' s5' s6', forL (gT [gN 3, gN 4]) L0_cells_of ((b.zip m).map fun q => .tup [nD q.1, nD q.2]) [x0, x1, .val (.lst (found.map tuN)), s3, s4, s5, s6] S =
      .nx [x0, x1, .val (.lst ((cellsL b m found).map tuN)), s3', s4', s5', s6'] S
  | [], _, found, _, s3, s4, s5, s6, _, _, _, _, _ => ⟨s3, s4, s5, s6, by simp [cellsL, forL_nil]⟩
  | _ :: _, [], found, _, s3, s4, s5, s6, _, _, _, _, _ => ⟨s3, s4, s5, s6, by simp [cellsL, forL_nil]⟩
  | b :: bs, m :: ms, found, k, s3, s4, s5, s6, hf, hk, hb, hm, hp => by
    have hm' : ∀ x ∈ ms, 0 < x := fun x hx => hm x (.tail _ hx)
    have pp := prodL_pos bs ms hm'
    have hm0 := hm m List.mem_cons_self
    have l1 := cells_flen found b m
    have hp' : found.length * (b + m) * prodL bs ms ≤ 16777216 := by
      unfold prodL at hp
      rw [Nat.mul_assoc]; exact hp
    have hp2 : found.length * (b + m) ≤ 16777216 := Nat.le_trans (Nat.le_mul_of_pos_right _ pp) hp'
    rw [List.length_cons] at hb
    obtain ⟨s3', s4', s5', s6', ih⟩ := cells_loop (S := S) (x0 := x0) (x1 := x1) bs ms (found.flatMap fun c => (List.range (b + m)).map fun n => c ++ [n]) (k + 1) (.val (nD b)) (.val (nD m)) s5 s6 (by rw [l1]; exact Nat.mul_pos hf (by omega)) (fun c hc => by
      obtain ⟨c0, h0, h1⟩ := List.mem_flatMap.mp hc
      obtain ⟨n, _, rfl⟩ := List.mem_map.mp h1
      have := hk c0 h0
      rw [List.length_append, List.length_singleton]
      omega) (by omega) hm' (by rw [l1]; exact hp')
    refine ⟨s3', s4', s5', s6', ?_⟩
    rw [List.zip_cons_cons, List.map_cons, forL_cons (ρ' := [x0, x1, .val (.lst (found.map tuN)), .val (nD b), .val (nD m), s5, s6]) rfl, cells_step hf (fun c hc => by have := hk c hc; omega) hp2, lnx]
    exact ih
theorem cells_of_ok {b m : List Nat} (hl : b.length ≤ 900) (hm : ∀ x ∈ m, 0 < x) (hp : prodL b m ≤ 16777216) (S : Store) : d_cells_of [tuN b, tuN m] S = .ok (.lst ((cells b m).map tuN), S) := by
  unfold d_cells_of b_cells_of
  rw [runD_a (n := 2) rfl]
  obtain ⟨s3', s4', s5', s6', e⟩ := cells_loop (S := S) (x0 := .val (tuN b)) (x1 := .val (tuN m)) b m [[]] 0 .no .no .no .no (by simp) (by simp) (by omega) hm (by simpa using hp)
  have e0 : [[]].map tuN = [D.tup []] := rfl
  rw [e0] at e
  simp? [seq_tuN, zip_nD, e]
  rfl
end LW
end

section
set_option linter.all false
set_option maxRecDepth 100000
namespace LW
open PySem L2 GG
local macro_rules
  | `(tactic| simp? [$a,*] $[$l:location]?) => `(tactic| simp only [eC_a, eV_a, hE_a, hV_a, eH_a, eHB_a, eBin_a, eUn_a, eAnd_a, eOr_a, eNot_a, eIf_a, eCmp_a, eChain_a, aN_a, aC_a, eTup_a, eLst_a, eCall_a, eB_a, eFz_a, eAl_a, mLst_a, mLc_a, mLc2_a, mMk_a, mDic0_a, mList_a, eMeth_a, eIsi1_a, eIsi_a, eInH_a, eSl_a, oX_none, oX_some, bV_a, bT_a, bAnd_a, bOr_a, bNot_a, bTrue_a, iS_a, iEn_a, iZ_a, iR1_a, iR2_a, iR3_a, sSeq_a, sNil_a, sExpr_a, sRet_a, sRetN_a, sIf_a, sBrk_a, sCnt_a, sSet_a, sOwn_a, sFz_a, sFor_a, sMt_a, sFld_a, sAsg_a, sRaise_a, sTry_a, sMethO_a, endD_rt, endD_nx, endD_ex, bok, bex, oso, sok, sxc, cok, qnx, qrt, qbk, qct, qex, lnx, lct, lbk, lrt, lxc, oss, okk, obs, oms, add_i, sub_i, neg_i, lt_i, le_i, gt_i, ge_i, len_l, len_t, len_f, len_d, idx_l, idx_t, idx_f, walk_l, walk_t, walk_f, seq_l, seq_t, tuple_l, tuple_t, int_i, atI_0, atI_1, atI_2, dr_n, dr_b, dr_i, dr_s, dr_l, dr_t, dr_k, dr_f, dr_d, dr_o, dr_p, dr_w, now_l, now_d, now_o, frz_l, frz_d, frz_o, isL_l, frzAt, cu_p, cu_w, pu_p, pu_w, startD, startO, List.map_cons, List.map_nil, List.replicate, List.cons_append, List.nil_append, List.length_cons, List.length_nil, Nat.zero_add, Nat.reduceAdd, List.getElem?_cons_zero, List.getElem?_cons_succ, List.set_cons_zero, List.set_cons_succ, if_true, if_false, reduceIte, Bool.false_eq_true, bD_b, tru_n, tru_b, tru_l, tru_t, gN_a, gT_t, gAll_n, gAll_c, wipeD, ite_and, ite_or, ite_andB, ite_orB, szOk_0, szOk_1, szOk_2, szOk_3, szOk_4, Bool.not_true, Bool.not_false, Bool.true_and, Bool.and_true, Bool.false_and, Bool.and_false, Bool.true_or, Bool.or_true, Bool.false_or, Bool.or_false, decide_true, decide_false, tT, tAll, tN, tI, setI, $a,*] $[$l:location]?)
/-! many_cells, Table -/
theorem mulOk_nat {a b : Nat} (ha : a.log2 < 400000) (hb : b.log2 < 400000) : mulOk (a : Nat) (b : Nat) = true := by
  unfold mulOk
  rw [Int.natAbs_natCast, Int.natAbs_natCast]
  exact decide_eq_true (by omega)
theorem mulN {a b : Nat} (ha : a.log2 < 400000) (hb : b.log2 < 400000) : mulD (nD a) (nD b) = some (nD (a * b)) := by
  show mulD (.int (a : Nat)) (.int (b : Nat)) = _
  rw [mul_i (mulOk_nat ha hb)]
  congr 2
theorem log_small {n k : Nat} (h : n < 2 ^ k) (hk : k ≤ 400000) (h0 : 0 < k) : n.log2 < 400000 := by
  by_cases e : n = 0
  · subst e; decide
  · exact Nat.lt_of_lt_of_le ((Nat.log2_lt e).mpr h) hk
theorem mc_step {S : Store} {x0 x1 s3 s4 : Slot} {a b m : Nat} {ds : List D} (ha : a.log2 < 400000) (hb : (b + m).log2 < 400000) :
    forL (gT [gN 3, gN 4]) L0_many_cells (.tup [nD b, nD m] :: ds) [x0, x1, .val (nD a), s3, s4] S = forL (gT [gN 3, gN 4]) L0_many_cells ds [x0, x1, .val (nD (a * (b + m))), .val (nD b), .val (nD m)] S := by
  rw [forL_cons (ρ' := [x0, x1, .val (nD a), .val (nD b), .val (nD m)]) rfl]
  have a1 := addN b m
  have m1 := mulN ha hb
  have e : L0_many_cells [x0, x1, .val (nD a), .val (nD b), .val (nD m)] S = .nx [x0, x1, .val (nD (a * (b + m))), .val (nD b), .val (nD m)] S := by
    unfold L0_many_cells
    simp? [a1, m1]
  rw [e, lnx]
theorem many_cells_ok {b m : List Nat} (hl : b.length = m.length) (h2 : b.length ≤ 2) (hb : ∀ q ∈ b.zip m, (q.1 + q.2).log2 < 400000) (S : Store) : d_many_cells [tuN b, tuN m] S = .ok (nD (prodL b m), S) := by
  unfold d_many_cells b_many_cells
  rw [runD_a (n := 2) rfl]
  have l1 : (1 : Nat).log2 < 400000 := by decide
  have fin : ∀ (s3 s4 : Slot) (ds : List D) (k : Nat), forL (gT [gN 3, gN 4]) L0_many_cells ds [.val (tuN b), .val (tuN m), .val (nD 1), .no, .no] S = .nx [.val (tuN b), .val (tuN m), .val (nD k), s3, s4] S →
      ((b.map nD).zip (m.map nD)).map (fun q => D.tup [q.1, q.2]) = ds → endD (sSeq (sSet 2 (eC (D.int 1))) (sSeq (sFor (iZ (eV 0) (eV 1)) (gT [(gN 3), (gN 4)]) L0_many_cells) (sRet (eV 2))) (startD 3 [tuN b, tuN m]) S) = .ok (nD k, S) := fun s3 s4 ds k e e2 => by
    have e : forL (gT [gN 3, gN 4]) L0_many_cells ds [.val (tuN b), .val (tuN m), .val (.int 1), .no, .no] S = _ := e
    simp? [seq_tuN, e2, e]
  match b, m, hl, h2, hb with
  | [], [], _, _, _ => exact fin _ _ [] 1 rfl rfl
  | [b1], [m1], _, _, hb =>
    refine fin (.val (nD b1)) (.val (nD m1)) [.tup [nD b1, nD m1]] _ ?_ rfl
    rw [mc_step l1 (hb _ List.mem_cons_self), forL_nil]
    simp only [prodL, Nat.one_mul, Nat.mul_one]
  | [b1, b2], [m1, m2], _, _, hb =>
    have c1 := hb (b1, m1) List.mem_cons_self
    have c2 := hb (b2, m2) (.tail _ List.mem_cons_self)
    refine fin (.val (nD b2)) (.val (nD m2)) [.tup [nD b1, nD m1], .tup [nD b2, nD m2]] _ ?_ rfl
    rw [mc_step l1 c1, Nat.one_mul, mc_step c1 c2, forL_nil]
    simp only [prodL, Nat.mul_one]
/-! a right table -/
structure Tb where
  b : List Nat
  m : List Nat
  rows : List (List Form)
structure Tb.Ok (t : Tb) : Prop where
  len : t.b.length = t.m.length
  two : t.b.length ≤ 2
  pos : ∀ x ∈ t.m, 0 < x
  most : prodL t.b t.m ≤ 1000
  rows : t.rows.length = prodL t.b t.m
  fit : ∀ k r, t.rows[k]? = some r → fitR t.b ((cells t.b t.m).getD k []) r = true ∧ r.length = (t.rows.getD 0 []).length
def tbD (t : Tb) : D := .obj "Table" ["bounds", "measures", "rows"] [tuN t.b, tuN t.m, rowsD t.rows]
theorem prodL_le : ∀ {b m : List Nat}, b.length = m.length → (∀ x ∈ m, 0 < x) → ∀ q ∈ b.zip m, q.1 + q.2 ≤ prodL b m
  | [], _, _, _, q, h => by simp at h
  | _ :: _, [], _, _, q, h => by simp at h
  | b :: bs, m :: ms, hl, hm, q, h => by
    have pp := prodL_pos bs ms fun x hx => hm x (.tail _ hx)
    have m0 := hm m List.mem_cons_self
    unfold prodL
    rw [List.zip_cons_cons] at h
    rcases List.mem_cons.mp h with rfl | h
    · exact Nat.le_mul_of_pos_right _ pp
    · have := prodL_le (by simpa using hl) (fun x hx => hm x (.tail _ hx)) q h
      exact Nat.le_trans this (Nat.le_mul_of_pos_left _ (by omega))
theorem len_rows (rs : List (List Form)) : lenD (rowsD rs) = some (.int rs.length) := by
  show some (D.int ((rs.map rowD).length : Nat)) = _
  rw [List.length_map]
theorem len_row (r : List Form) : lenD (rowD r) = some (.int r.length) := by
  show some (D.int ((r.map formD).length : Nat)) = _
  rw [List.length_map]
theorem keep_ok (b m r : D) (S : Store) : d_Table_keep (.ins "Table" [] []) [b, m, r] S = .ok (.ins "Table" ["bounds", "measures", "rows"] [b, m, r], S) := by
  unfold d_Table_keep b_Table_keep
  rw [runO_a (n := 3) rfl]
  rfl
theorem table_init_ok {t : Tb} (h : t.Ok) (S : Store) : d_Table___init__ (.ins "Table" [] []) [tuN t.b, tuN t.m, rowsD t.rows] S = .ok (.ins "Table" ["bounds", "measures", "rows"] [tuN t.b, tuN t.m, rowsD t.rows], S) := by
  unfold d_Table___init__ b_Table___init__
  rw [runO_a (n := 3) rfl]
  have e1 := are_bounds_ok t.b
  rw [decide_eq_true (by have := h.two; omega)] at e1
  have e2 := are_measures_ok t.m t.b.length
  have hm : (t.m.all fun x => decide (0 < x)) = true := List.all_eq_true.mpr fun x hx => decide_eq_true (h.pos x hx)
  rw [decide_eq_true (by rw [h.len]), hm] at e2
  have e3 := many_cells_ok (b := t.b) (m := t.m) h.len h.two fun q hq => log_small (k := 10) (by have := prodL_le h.len h.pos q hq; have := h.most; omega) (by decide) (by decide)
  have e4 := cells_of_ok (b := t.b) (m := t.m) (by have := h.two; omega) h.pos (by have := h.most; omega)
  have g : gtD (nD (prodL t.b t.m)) (.int 1000) = some false := by
    rw [gt_i, decide_eq_false (by have := h.most; omega)]
  have t1 := isi_tame (d := rowsD t.rows) rfl (m := "tuple") (by decide)
  have t2 : tyB "tuple" (rowsD t.rows) = true := rfl
  have db : ∀ ρ S, deref ρ S (.d (tuN t.b)) = some (tuN t.b) := fun _ _ => rfl
  have dr : ∀ ρ S, deref ρ S (.d (rowsD t.rows)) = some (rowsD t.rows) := fun _ _ => rfl
  have dw : ∀ r ρ S, deref ρ S (.d (rowD r)) = some (rowD r) := fun _ _ _ => rfl
  have sr : seqD (rowsD t.rows) = some (t.rows.map rowD) := rfl
  have lc : ((cells t.b t.m).map tuN).length = t.rows.length := by rw [List.length_map, cells_len, h.rows]
  have ne : neD (.int t.rows.length) (.int t.rows.length) = some false := by rw [neD_i, decide_eq_true rfl]; rfl
  have pp := prodL_pos t.b t.m h.pos
  have zi : ((t.rows.map rowD).zipIdx.map fun q => D.tup [.int (q.2 : Nat), q.1]) = t.rows.zipIdx.map fun q => .tup [nD q.2, rowD q.1] := by
    rw [List.zipIdx_map, List.map_map]
    rfl
  have lp : ∃ s5 s6, forL (gT [gN 5, gN 6]) L0_Table___init__ (t.rows.zipIdx.map fun q => .tup [nD q.2, rowD q.1]) [.own (.ins "Table" [] []), .val (tuN t.b), .val (tuN t.m), .val (rowsD t.rows), .val (.lst ((cells t.b t.m).map tuN)), .no, .no] S =
      .nx [.own (.ins "Table" [] []), .val (tuN t.b), .val (tuN t.m), .val (rowsD t.rows), .val (.lst ((cells t.b t.m).map tuN)), s5, s6] S := by
    obtain ⟨ρ', S', e, ⟨s5, s6, rfl⟩, rfl⟩ := forL_fold (σ := Unit) (enc := fun q => D.tup [nD q.2, rowD q.1]) (n := gT [gN 5, gN 6]) (body := L0_Table___init__) (fun _ ρ S' => (∃ s5 s6, ρ = [.own (.ins "Table" [] []), .val (tuN t.b), .val (tuN t.m), .val (rowsD t.rows), .val (.lst ((cells t.b t.m).map tuN)), s5, s6]) ∧ S' = S) (fun _ _ => ())
      t.rows.zipIdx () [.own (.ins "Table" [] []), .val (tuN t.b), .val (tuN t.m), .val (rowsD t.rows), .val (.lst ((cells t.b t.m).map tuN)), .no, .no] S ⟨⟨_, _, rfl⟩, rfl⟩ fun _ q ρ S' hq hR => by
        obtain ⟨⟨s5, s6, rfl⟩, rfl⟩ := hR
        obtain ⟨r, k⟩ := q
        have hk : t.rows[k]? = some r := by
          have := List.mk_mem_zipIdx_iff_getElem?.mp hq
          simpa using this
        obtain ⟨f1, f2⟩ := h.fit k r hk
        have kl : k < (cells t.b t.m).length := by
          have := (List.getElem?_eq_some_iff.mp hk).1
          rw [cells_len, ← h.rows]
          exact this
        have ck : (cells t.b t.m)[k]? = some ((cells t.b t.m).getD k []) := by
          rw [List.getD_eq_getElem?_getD, List.getElem?_eq_getElem kl]
          rfl
        have cl := cells_item h.len (List.mem_of_getElem? ck)
        have i4 : idxD (.lst ((cells t.b t.m).map tuN)) (nD k) = some (tuN ((cells t.b t.m).getD k [])) := at_map ck
        have i3 : idxD (rowsD t.rows) (.int 0) = some (rowD (t.rows.getD 0 [])) := at_map (k := 0) (by
          rw [List.getD_eq_getElem?_getD, List.getElem?_eq_getElem (by rw [h.rows]; omega)]
          rfl)
        have ir := fun S => is_row_ok (b := t.b) (c := (cells t.b t.m).getD k []) r (by omega) (by have := h.two; omega) S
        rw [f1] at ir
        have nn : neD (.int r.length) (.int (t.rows.getD 0 []).length) = some false := by rw [neD_i, f2, decide_eq_true rfl]; rfl
        refine ⟨_, [.own (.ins "Table" [] []), .val (tuN t.b), .val (tuN t.m), .val (rowsD t.rows), .val (.lst ((cells t.b t.m).map tuN)), .val (nD k), .val (rowD r)], S', rfl, .inl ?_, ⟨_, _, rfl⟩, rfl⟩
        unfold L0_Table___init__
        simp? [i4, i3, ir, dr, dw, len_row, nn]
    exact ⟨s5, s6, e⟩
  obtain ⟨s5, s6, lp⟩ := lp
  have lk : OTab := ot_keep
  have own : ∀ ρ1, ownAt "keep" ot_keep (.own (.ins "Table" [] []) :: ρ1) 0 = some (.ins "Table" [] [], d_Table_keep) := fun _ => rfl
  simp? [e1, e2, e3, e4, g, t1, t2, db, dr, len_tuN, len_rows, lc, ne, sr, zi, lp, own, keep_ok]
  rfl
end LW
end

section
set_option linter.all false
set_option maxRecDepth 100000
namespace LW
open PySem L2 GG
local macro_rules
  | `(tactic| simp? [$a,*] $[$l:location]?) => `(tactic| simp only [eC_a, eV_a, hE_a, hV_a, eH_a, eHB_a, eBin_a, eUn_a, eAnd_a, eOr_a, eNot_a, eIf_a, eCmp_a, eChain_a, aN_a, aC_a, eTup_a, eLst_a, eCall_a, eB_a, eFz_a, eAl_a, mLst_a, mLc_a, mLc2_a, mMk_a, mDic0_a, mList_a, eMeth_a, eIsi1_a, eIsi_a, eInH_a, eSl_a, oX_none, oX_some, bV_a, bT_a, bAnd_a, bOr_a, bNot_a, bTrue_a, iS_a, iEn_a, iZ_a, iR1_a, iR2_a, iR3_a, sSeq_a, sNil_a, sExpr_a, sRet_a, sRetN_a, sIf_a, sBrk_a, sCnt_a, sSet_a, sOwn_a, sFz_a, sFor_a, sMt_a, sFld_a, sAsg_a, sRaise_a, sTry_a, sMethO_a, endD_rt, endD_nx, endD_ex, bok, bex, oso, sok, sxc, cok, qnx, qrt, qbk, qct, qex, lnx, lct, lbk, lrt, lxc, oss, okk, obs, oms, add_i, sub_i, neg_i, lt_i, le_i, gt_i, ge_i, len_l, len_t, len_f, len_d, idx_l, idx_t, idx_f, walk_l, walk_t, walk_f, seq_l, seq_t, tuple_l, tuple_t, int_i, atI_0, atI_1, atI_2, dr_n, dr_b, dr_i, dr_s, dr_l, dr_t, dr_k, dr_f, dr_d, dr_o, dr_p, dr_w, now_l, now_d, now_o, frz_l, frz_d, frz_o, isL_l, frzAt, cu_p, cu_w, pu_p, pu_w, startD, startO, List.map_cons, List.map_nil, List.replicate, List.cons_append, List.nil_append, List.length_cons, List.length_nil, Nat.zero_add, Nat.reduceAdd, List.getElem?_cons_zero, List.getElem?_cons_succ, List.set_cons_zero, List.set_cons_succ, if_true, if_false, reduceIte, Bool.false_eq_true, bD_b, tru_n, tru_b, tru_l, tru_t, gN_a, gT_t, gAll_n, gAll_c, wipeD, ite_and, ite_or, ite_andB, ite_orB, szOk_0, szOk_1, szOk_2, szOk_3, szOk_4, Bool.not_true, Bool.not_false, Bool.true_and, Bool.and_true, Bool.false_and, Bool.and_false, Bool.true_or, Bool.or_true, Bool.false_or, Bool.or_false, decide_true, decide_false, tT, tAll, tN, tI, setI, $a,*] $[$l:location]?)
/-! ### the maker -/
inductive Dd where
  | zero (x : Str) | copy (x y : Str) | more (x : Str)
inductive Stm where
  | deed (d : Dd) | round (x : Str) (ds : List Dd)
def ddD : Dd → D
  | .zero x => .tup [.str "zero", .str x]
  | .copy x y => .tup [.str "copy", .str x, .str y]
  | .more x => .tup [.str "more", .str x]
def stD : Stm → D
  | .deed d => ddD d
  | .round x ds => .tup [.str "round", .str x, .tup (ds.map ddD)]
/-- the name of four letters with a number -/
def ltr (n : Nat) : Nat := 97 + n % 26
def nm (n : Nat) : Str := ⟨#[ltr (n / 17576), ltr (n / 676), ltr (n / 26), ltr n]⟩
structure Mk where
  used : Nat
  block : List Stm
/-- at most every second name is taken -/
def Good (T : List Str) : Prop := ∀ u, nm u ∈ T → nm (u + 1) ∉ T
open Classical in
noncomputable def frU (T : List Str) (u : Nat) : Nat := if nm u ∈ T then u + 1 else u
noncomputable def fresh (T : List Str) (m : Mk) : Str × Mk := (nm (frU T m.used), ⟨frU T m.used + 1, m.block⟩)
def put (s : Stm) (m : Mk) : Mk := ⟨m.used, m.block ++ [s]⟩
noncomputable def manyFresh (T : List Str) : Nat → Mk → List Str × Mk
  | 0, m => ([], m)
  | n + 1, m => let p := fresh T m; let q := manyFresh T n p.2; (p.1 :: q.1, q.2)
noncomputable def one (T : List Str) (m : Mk) : Str × Mk := let p := fresh T m; (p.1, put (.deed (.more p.1)) p.2)
def cif (f x y : Str) (m : Mk) : Mk := put (.round f [.copy x y]) m
noncomputable def reached (T : List Str) (name : Str) (bound : Nat) (m : Mk) : (List Str × Str) × Mk :=
  let p := one T m; let q := manyFresh T bound p.2; let flags := p.1 :: q.1
  let l := manyFresh T (bound + 1) q.2
  let deeds := ((List.range bound).reverse.map fun i => Dd.copy (flags.getD (i + 1) "") (flags.getD i "")) ++ ((List.range bound).map fun i => Dd.copy (l.1.getD i "") (l.1.getD (i + 1) "")) ++ [.more (l.1.getD bound "")]
  ((flags, l.1.getD 0 ""), put (.round name deeds) l.2)
noncomputable def divided (T : List Str) (name : Str) (measure : Nat) (m : Mk) : (List Str × Str) × Mk :=
  let p := one T m; let q := manyFresh T (measure - 1) p.2; let rests := p.1 :: q.1
  let l := manyFresh T measure q.2; let times := l.1
  let s := fresh T l.2; let spare := s.1
  let deeds := [Dd.copy spare (rests.getD (measure - 1) "")] ++ ((List.range (measure - 1)).reverse.map fun i => Dd.copy (rests.getD (i + 1) "") (rests.getD i ""))
    ++ [.copy (rests.getD 0 "") spare, .copy spare (times.getD 0 "")] ++ ((List.range (measure - 1)).map fun i => Dd.copy (times.getD i "") (times.getD (i + 1) "")) ++ [.copy (times.getD (measure - 1) "") spare, .more (times.getD (measure - 1) "")]
  ((rests, times.getD 0 ""), put (.round name deeds) s.2)
noncomputable def partA (T : List Str) (r : List Str) : List Nat → List Str × Mk → List Str × Mk
  | [], a => a
  | i :: is, a => let p := fresh T a.2; partA T r is (a.1 ++ [p.1], put (.round (r.getD (i + 1) "") [.zero p.1]) (put (.deed (.copy p.1 (r.getD i ""))) p.2))
noncomputable def partB (T : List Str) (f : Str) : List Str → List Str × Mk → List Str × Mk
  | [], a => a
  | x :: xs, a => let p := fresh T a.2; partB T f xs (a.1 ++ [p.1], cif f p.1 x p.2)
noncomputable def parted (T : List Str) (name : Str) (bound measure : Nat) (m : Mk) : (List Str × Str) × Mk :=
  let r := reached T name bound m; let d := divided T r.1.2 measure r.2
  let a := partA T r.1.1 (List.range bound) ([], d.2)
  let b := partB T (r.1.1.getD bound "") d.1.1 a
  ((b.1, d.1.2), b.2)
noncomputable def flagL (T : List Str) : List Str → Str × Mk → Str × Mk
  | [], a => a
  | x :: xs, a => let p := fresh T a.2; flagL T xs (p.1, cif a.1 p.1 x p.2)
noncomputable def cellFlag (T : List Str) (flags : List Str) (m : Mk) : Str × Mk := flagL T flags (one T m)
noncomputable def consL (T : List Str) : Nat → List Str × Mk → List Str × Mk
  | 0, a => a
  | n + 1, a => let p := fresh T a.2; consL T n (a.1 ++ [p.1], put (.deed (.more p.1)) (put (.deed (.copy p.1 (a.1.getD (a.1.length - 1) ""))) p.2))
noncomputable def constants (T : List Str) (most : Nat) (m : Mk) : List Str × Mk := let p := fresh T m; consL T most ([p.1], p.2)
noncomputable def addSteps (T : List Str) (found : Str) (flags : List Str) (step : Nat) (name : Str) (m : Mk) : Mk :=
  let p := fresh T m
  put (.round p.1 (List.replicate step (.more found))) (flags.foldl (fun m f => cif f p.1 name m) p.2)
noncomputable def stepsOf (forms : List Form) (k : Nat) : List Int := srtU ((forms.filter fun f => decide (0 < f.2.getD k 0)).map fun f => ((f.2.getD k 0 : Nat) : Int))
noncomputable def resS (T : List Str) (found : Str) (cells : List Str) (forms : List Form) (k : Nat) (name : Str) : List Int → Mk → Mk
  | [], m => m
  | st :: sts, m => resS T found cells forms k name sts (addSteps T found (((cells.zip forms).filter fun q => decide (((q.2.2.getD k 0 : Nat) : Int) = st)).map (·.1)) st.toNat name m)
noncomputable def resK (T : List Str) (found : Str) (cells : List Str) (forms : List Form) : List (Str × Nat) → Mk → Mk
  | [], m => m
  | q :: qs, m => resK T found cells forms qs (resS T found cells forms q.2 q.1 (stepsOf forms q.2) m)
noncomputable def resF (found : Str) (cs : List Str) : List (Str × Form) → Mk → Mk
  | [], m => m
  | q :: qs, m => resF found cs qs (cif q.1 found (cs.getD q.2.1 "") m)
noncomputable def result (T : List Str) (cells : List Str) (forms : List Form) (cs times : List Str) (m : Mk) : Str × Mk :=
  let p := fresh T m
  (p.1, resK T p.1 cells forms times.zipIdx (resF p.1 cs (cells.zip forms) p.2))
/-! ### the maker's walk -/
theorem modN {a b : Nat} (h : 0 < b) : modD (nD a) (nD b) = some (nD (a % b)) := by
  show modD (.int (a : Nat)) (.int (b : Nat)) = _
  rw [mod_i (by omega)]
  congr 2
theorem divOk_nat {b : Nat} (h : 0 < b) (h2 : b.log2 < 9000) : divOk (b : Nat) = true := by
  unfold divOk
  rw [Int.natAbs_natCast, decide_eq_true (by omega), decide_eq_true h2]
  rfl
theorem fdivN {a b : Nat} (h : 0 < b) (h2 : b.log2 < 9000) : fdivD (nD a) (nD b) = some (nD (a / b)) := by
  show fdivD (.int (a : Nat)) (.int (b : Nat)) = _
  rw [fdiv_i (divOk_nat h h2)]
  congr 2
theorem subN {a b : Nat} (h : b ≤ a) : subD (nD a) (nD b) = some (nD (a - b)) := by
  show some (D.int ((a : Int) - b)) = _
  congr 2
  omega
def abc : Str := "abcdefghijklmnopqrstuvwxyz"
theorem abc_at : ∀ r : Fin 26, abc.cps.toList[r.val]? = some (97 + r.val) := by decide +kernel
theorem abc_ix (n : Nat) : idxD (.str abc) (nD (n % 26)) = some (.str ⟨#[ltr n]⟩) := by
  have h := abc_at ⟨n % 26, Nat.mod_lt _ (by decide)⟩
  have l : abc.length ≤ 16777216 := by decide +kernel
  show (if abc.length ≤ 16777216 then (atI abc.cps.toList ((n % 26 : Nat) : Int)).map fun c => D.str ⟨#[c]⟩ else none) = _
  rw [if_pos l, GG.atI_nat h]
  rfl
theorem nbn_step {S : Store} {ds : List D} {n : Nat} {z : Str} {s2 : Slot} {d : D} (hz : z.length ≤ 1000) :
    forL (gN 2) L0_name_by_number (d :: ds) [.val (nD n), .val (.str z), s2] S = forL (gN 2) L0_name_by_number ds [.val (nD (n / 26)), .val (.str (⟨#[ltr n]⟩ ++ z)), .val d] S := by
  rw [forL_cons (ρ' := [.val (nD n), .val (.str z), .val d]) rfl]
  have e : L0_name_by_number [.val (nD n), .val (.str z), .val d] S = .nx [.val (nD (n / 26)), .val (.str (⟨#[ltr n]⟩ ++ z)), .val d] S := by
    unfold L0_name_by_number
    have m := modN (a := n) (b := 26) (by decide)
    have f := fdivN (a := n) (b := 26) (by decide) (by decide)
    have i := abc_ix n
    unfold abc at i
    have a : addD (.str ⟨#[ltr n]⟩) (.str z) = some (.str (⟨#[ltr n]⟩ ++ z)) := add_s (by
      show 1 + z.length ≤ _
      omega)
    have o : (D.int 26) = nD 26 := rfl
    simp? [o, m, f, i, a]
  rw [e, lnx]
theorem name_by_number_ok (n : Nat) (S : Store) : d_name_by_number [nD n] S = .ok (.str (nm n), S) := by
  unfold d_name_by_number b_name_by_number
  rw [runD_a (n := 1) rfl]
  have r : rngD1 [.int 4] = some [D.int 0, .int 1, .int 2, .int 3] := by
    have := rng1 4 (by decide)
    exact this
  have e : forL (gN 2) L0_name_by_number [D.int 0, .int 1, .int 2, .int 3] [.val (nD n), .val (.str ""), .no] S = .nx [.val (nD (n / 26 / 26 / 26 / 26)), .val (.str (nm n)), .val (.int 3)] S := by
    have l : ∀ (c : Nat) (z : Str), (⟨#[c]⟩ ++ z : Str).length = 1 + z.length := fun c z => by
      show (#[c] ++ z.cps).size = _
      rw [Array.size_append]
      rfl
    have l0 : ("" : Str).length = 0 := rfl
    rw [nbn_step (by rw [l0]; omega), nbn_step (by rw [l, l0]; omega), nbn_step (by rw [l, l, l0]; omega), nbn_step (by rw [l, l, l, l0]; omega), forL_nil]
    have e1 : n / 26 / 26 = n / 676 := by rw [Nat.div_div_eq_div_mul]
    have e2 : n / 676 / 26 = n / 17576 := by rw [Nat.div_div_eq_div_mul]
    rw [e1, e2]
    rfl
  simp? [r, e]
/-- a dict of the names of a list -/
structure Tk (tk : D) (T : List Str) : Prop where
  ex : ∃ ks vs, tk = .dic ks vs ∧ (ks.all (sameKind (.k (.inr "")))) = true ∧ ∀ x : Str, (lookD ks vs (.k (.inr x))).isSome = true ↔ x ∈ T
noncomputable def mkS (S : Store) (tk : D) (m : Mk) : Store := S ++ [.lst (m.block.map stD), .ins "Maker" ["taken", "used", "block"] [tk, nD m.used, .ptr S.length]]
section
variable {S : Store} {tk : D} {T : List Str} {m : Mk}
theorem mkS_p : (mkS S tk m)[S.length + 1]? = some (.ins "Maker" ["taken", "used", "block"] [tk, nD m.used, .ptr S.length]) := by
  unfold mkS
  rw [List.getElem?_append_right (by omega), show S.length + 1 - S.length = 1 from by omega]
  rfl
theorem mkS_b : (mkS S tk m)[S.length]? = some (.lst (m.block.map stD)) := by
  unfold mkS
  rw [List.getElem?_append_right (by omega), show S.length - S.length = 0 from by omega]
  rfl
theorem set_app {α : Type} (xs ys : List α) (k : Nat) (x : α) : (xs ++ ys).set (xs.length + k) x = xs ++ ys.set k x := by
  induction xs with
  | nil => simp
  | cons a xs ih =>
    rw [List.cons_append, List.length_cons, show xs.length + 1 + k = (xs.length + k) + 1 from by omega, List.set_cons_succ, ih]
    rfl
theorem mkS_setp {u : Nat} : (mkS S tk m).set (S.length + 1) (.ins "Maker" ["taken", "used", "block"] [tk, nD u, .ptr S.length]) = mkS S tk ⟨u, m.block⟩ := set_app S _ 1 _
theorem mkS_setb {bl : List Stm} : (mkS S tk m).set S.length (.lst (bl.map stD)) = mkS S tk ⟨m.used, bl⟩ := set_app S _ 0 _
theorem mk_meth {mn : Str} {tab : GTab} {den : Den} (hc : (["taken", "used", "block"] : List Str).contains mn = false) (hl : tab.lookup ("Maker" : Str) = some den) : methAt mn tab (mkS S tk m) (.ptr (S.length + 1)) = some den := by
  unfold methAt clsOf
  simp only [mkS_p, Option.bind_some, hc, hl, Bool.false_eq_true, if_false]
theorem f_taken (a b c : D) : fldD "taken" (.obj "Maker" ["taken", "used", "block"] [a, b, c]) = some a := rfl
theorem f_used (a b c : D) : fldD "used" (.obj "Maker" ["taken", "used", "block"] [a, b, c]) = some b := rfl
theorem f_block (a b c : D) : fldD "block" (.obj "Maker" ["taken", "used", "block"] [a, b, c]) = some c := rfl
theorem s_used (a b c d : D) : setFD "used" d (.ins "Maker" ["taken", "used", "block"] [a, b, c]) = some (.ins "Maker" ["taken", "used", "block"] [a, d, c]) := by
  rfl
theorem put_ok (s : Stm) (h : m.block.length < 16777216) : d_Maker_put [.ptr (S.length + 1), stD s] (mkS S tk m) = .ok (.non, mkS S tk (put s m)) := by
  unfold d_Maker_put b_Maker_put
  rw [runD_a (n := 2) rfl]
  have a : appD [stD s] (.lst (m.block.map stD)) = some (.lst ((m.block ++ [s]).map stD)) := by
    rw [app_l (by rw [List.length_map]; exact h), List.map_append]
    rfl
  simp? [mkS_p, f_block, mkS_b, a, mkS_setb]
  rfl
theorem mkS_seti {u : Nat} : (mkS S tk m).set (S.length + 1) (.ins "Maker" ["taken", "used", "block"] [tk, .int ((u : Int) + 1), .ptr S.length]) = mkS S tk ⟨u + 1, m.block⟩ := mkS_setp (u := u + 1)
theorem in_tk (t : Tk tk T) (x : Str) : inD (.str x) tk = some (decide (x ∈ T)) := by
  obtain ⟨ks, vs, rfl, h1, h2⟩ := t.ex
  show ((keyD (.str x)).bind fun k => if (ks.all (sameKind k)) = true then some ((lookD ks vs k).isSome) else none) = _
  have e : (ks.all (sameKind (.k (.inr x)))) = true := by
    rw [List.all_eq_true] at h1 ⊢
    intro k hk
    have := h1 k hk
    cases k with
    | k _ => rfl
    | t _ => cases this
  show (if (ks.all (sameKind (.k (.inr x)))) = true then some ((lookD ks vs (.k (.inr x))).isSome) else none) = _
  rw [if_pos e]
  congr 1
  cases hd : (lookD ks vs (.k (.inr x))).isSome with
  | true => rw [decide_eq_true ((h2 x).mp hd)]
  | false => rw [decide_eq_false fun hx => by rw [(h2 x).mpr hx] at hd; cases hd]
theorem tk_dr (t : Tk tk T) (ρ : LEnv) (S : Store) : deref ρ S (.d tk) = some tk := by
  obtain ⟨ks, vs, rfl, _⟩ := t.ex
  rfl
theorem s_used' {a b c d : D} (ρ : LEnv) : (curH ρ (mkS S tk m) (.d (.ptr (S.length + 1)))).bind (setFD "used" d) = some (.ins "Maker" ["taken", "used", "block"] [tk, d, .ptr S.length]) := by
  rw [cu_p, mkS_p]
  rfl
theorem used_up (u : Nat) : addD (nD u) (.int 1) = some (nD (u + 1)) := addN u 1
theorem w_step {x : D} : W0_Maker_fresh [.val (.ptr (S.length + 1)), .val x] (mkS S tk m) = .nx [.val (.ptr (S.length + 1)), .val (.str (nm (m.used + 1)))] (mkS S tk ⟨m.used + 1, m.block⟩) := by
  unfold W0_Maker_fresh
  simp? [mkS_p, f_used, s_used, mkS_seti, name_by_number_ok]
theorem w_test (t : Tk tk T) (u : Nat) : bV (eInH false (eV 1) (hE (eH (hV 0) (fldD "taken")))) [.val (.ptr (S.length + 1)), .val (.str (nm u))] (mkS S tk m) = .ok (decide (nm u ∈ T), mkS S tk m) := by
  simp? [mkS_p, f_taken, tk_dr t, in_tk t]
theorem fresh_ok (t : Tk tk T) (g : Good T) : d_Maker_fresh [.ptr (S.length + 1)] (mkS S tk m) = .ok (.str (fresh T m).1, mkS S tk (fresh T m).2) := by
  unfold d_Maker_fresh b_Maker_fresh
  rw [runD_a (n := 1) rfl]
  have lp : sWhile (bV (eInH false (eV 1) (hE (eH (hV 0) (fldD "taken"))))) W0_Maker_fresh [.val (.ptr (S.length + 1)), .val (.str (nm m.used))] (mkS S tk m) = .nx [.val (.ptr (S.length + 1)), .val (.str (nm (frU T m.used)))] (mkS S tk ⟨frU T m.used, m.block⟩) := by
    unfold frU
    by_cases h : nm m.used ∈ T
    · rw [if_pos h, while_t (by rw [w_test t, decide_eq_true h]), w_step, lnx, while_f (by rw [w_test t, decide_eq_false (g _ h)])]
    · rw [if_neg h, while_f (by rw [w_test t, decide_eq_false h])]
  simp? [mkS_p, f_used, name_by_number_ok, lp, s_used, mkS_seti]
  rfl
end
end LW
end

section
set_option linter.all false
set_option maxRecDepth 100000
namespace LW
open PySem L2 GG
local macro_rules
  | `(tactic| simp? [$a,*] $[$l:location]?) => `(tactic| simp only [eC_a, eV_a, hE_a, hV_a, eH_a, eHB_a, eBin_a, eUn_a, eAnd_a, eOr_a, eNot_a, eIf_a, eCmp_a, eChain_a, aN_a, aC_a, eTup_a, eLst_a, eCall_a, eB_a, eFz_a, eAl_a, mLst_a, mLc_a, mLc2_a, mMk_a, mDic0_a, mList_a, eMeth_a, eIsi1_a, eIsi_a, eInH_a, eSl_a, oX_none, oX_some, bV_a, bT_a, bAnd_a, bOr_a, bNot_a, bTrue_a, iS_a, iEn_a, iZ_a, iR1_a, iR2_a, iR3_a, sSeq_a, sNil_a, sExpr_a, sRet_a, sRetN_a, sIf_a, sBrk_a, sCnt_a, sSet_a, sOwn_a, sFz_a, sFor_a, sMt_a, sFld_a, sAsg_a, sRaise_a, sTry_a, sMethO_a, endD_rt, endD_nx, endD_ex, bok, bex, oso, sok, sxc, cok, qnx, qrt, qbk, qct, qex, lnx, lct, lbk, lrt, lxc, oss, okk, obs, oms, add_i, sub_i, neg_i, lt_i, le_i, gt_i, ge_i, len_l, len_t, len_f, len_d, idx_l, idx_t, idx_f, walk_l, walk_t, walk_f, seq_l, seq_t, tuple_l, tuple_t, int_i, atI_0, atI_1, atI_2, dr_n, dr_b, dr_i, dr_s, dr_l, dr_t, dr_k, dr_f, dr_d, dr_o, dr_p, dr_w, now_l, now_d, now_o, frz_l, frz_d, frz_o, isL_l, frzAt, cu_p, cu_w, pu_p, pu_w, startD, startO, List.map_cons, List.map_nil, List.replicate, List.cons_append, List.nil_append, List.length_cons, List.length_nil, Nat.zero_add, Nat.reduceAdd, List.getElem?_cons_zero, List.getElem?_cons_succ, List.set_cons_zero, List.set_cons_succ, if_true, if_false, reduceIte, Bool.false_eq_true, bD_b, tru_n, tru_b, tru_l, tru_t, gN_a, gT_t, gAll_n, gAll_c, wipeD, ite_and, ite_or, ite_andB, ite_orB, szOk_0, szOk_1, szOk_2, szOk_3, szOk_4, Bool.not_true, Bool.not_false, Bool.true_and, Bool.and_true, Bool.false_and, Bool.and_false, Bool.true_or, Bool.or_true, Bool.false_or, Bool.or_false, decide_true, decide_false, tT, tAll, tN, tI, setI, $a,*] $[$l:location]?)
/-! the other methods -/
section
variable {S : Store} {tk : D} {T : List Str} {m : Mk}
theorem M_fresh : methAt "fresh" mt_fresh (mkS S tk m) (.ptr (S.length + 1)) = some d_Maker_fresh := mk_meth rfl rfl
theorem M_put : methAt "put" mt_put (mkS S tk m) (.ptr (S.length + 1)) = some d_Maker_put := mk_meth rfl rfl
theorem M_one : methAt "one" mt_one (mkS S tk m) (.ptr (S.length + 1)) = some d_Maker_one := mk_meth rfl rfl
theorem M_many : methAt "many_fresh" mt_many_fresh (mkS S tk m) (.ptr (S.length + 1)) = some d_Maker_many_fresh := mk_meth rfl rfl
theorem M_cif : methAt "copied_if" mt_copied_if (mkS S tk m) (.ptr (S.length + 1)) = some d_Maker_copied_if := mk_meth rfl rfl
theorem fresh_block : (fresh T m).2.block = m.block := rfl
theorem many_block : ∀ (n : Nat) (m : Mk), (manyFresh T n m).2.block = m.block
  | 0, _ => rfl
  | n + 1, m => many_block n (fresh T m).2
theorem many_len : ∀ (n : Nat) (m : Mk), (manyFresh T n m).1.length = n
  | 0, _ => rfl
  | n + 1, m => by
    show ((fresh T m).1 :: (manyFresh T n (fresh T m).2).1).length = n + 1
    rw [List.length_cons, many_len n]
theorem put_block (s : Stm) : (put s m).block.length = m.block.length + 1 := by
  show (m.block ++ [s]).length = _
  rw [List.length_append]
  rfl
theorem many_l (t : Tk tk T) (g : Good T) {x1 : Slot} : ∀ (ds : List D) (m : Mk), lcL (gN 2) bTrue (eMeth "fresh" mt_fresh (eV 0) aN) ds [.val (.ptr (S.length + 1)), x1, .no] (mkS S tk m) = .ok ((manyFresh T ds.length m).1.map .str, mkS S tk (manyFresh T ds.length m).2)
  | [], m => rfl
  | d :: ds, m => by
    rw [lcL_cons (ρ' := [.val (.ptr (S.length + 1)), x1, .val d]) rfl]
    have ih := many_l t g ds (fresh T m).2 (x1 := x1)
    simp? [M_fresh, fresh_ok t g, ih]
    rfl
theorem many_fresh_ok (t : Tk tk T) (g : Good T) {n : Nat} (h : n ≤ 16777216) : d_Maker_many_fresh [.ptr (S.length + 1), nD n] (mkS S tk m) = .ok (.lst ((manyFresh T n m).1.map .str), mkS S tk (manyFresh T n m).2) := by
  unfold d_Maker_many_fresh b_Maker_many_fresh
  rw [runD_a (n := 2) rfl]
  have l := many_l t g (S := S) (x1 := .val (nD n)) ((List.range n).map fun i => D.int (i : Nat)) m
  rw [List.length_map, List.length_range] at l
  simp? [rng1 n h, l]
theorem st_more (x : Str) : stD (.deed (.more x)) = .tup [.str "more", .str x] := rfl
theorem st_copy (x y : Str) : stD (.deed (.copy x y)) = .tup [.str "copy", .str x, .str y] := rfl
theorem st_cif (f x y : Str) : stD (.round f [.copy x y]) = .tup [.str "round", .str f, .tup [.tup [.str "copy", .str x, .str y]]] := rfl
theorem st_zif (f x : Str) : stD (.round f [.zero x]) = .tup [.str "round", .str f, .tup [.tup [.str "zero", .str x]]] := rfl
theorem st_round (f : Str) (ds : List Dd) : stD (.round f ds) = .tup [.str "round", .str f, .tup (ds.map ddD)] := rfl
theorem one_ok (t : Tk tk T) (g : Good T) (h : m.block.length < 16777216) : d_Maker_one [.ptr (S.length + 1)] (mkS S tk m) = .ok (.str (one T m).1, mkS S tk (one T m).2) := by
  unfold d_Maker_one b_Maker_one
  rw [runD_a (n := 1) rfl]
  have p := fun x => put_ok (S := S) (tk := tk) (m := (fresh T m).2) (.deed (.more x)) h
  simp only [st_more] at p
  simp? [M_fresh, M_put, fresh_ok t g, p]
  rfl
theorem cif_ok (f x y : Str) (h : m.block.length < 16777216) : d_Maker_copied_if [.ptr (S.length + 1), .str f, .str x, .str y] (mkS S tk m) = .ok (.non, mkS S tk (cif f x y m)) := by
  unfold d_Maker_copied_if b_Maker_copied_if
  rw [runD_a (n := 4) rfl]
  have p := put_ok (S := S) (tk := tk) (m := m) (.round f [.copy x y]) h
  simp only [st_cif] at p
  simp? [M_put, p]
  rfl
theorem rng3 (n : Nat) (h : n ≤ 16777216) : rngD3 [.int (n : Nat), .int 0, .int (-1)] = some ((List.range n).reverse.map fun i => D.int ((i + 1 : Nat) : Int)) := by
  have e : (((n : Int) - 0).toNat) = n := by omega
  show (if ((-1 : Int) == -1 && fitI n && fitI 0 && szOk ((n : Int) - 0).toNat) = true then some (rngL n (-1) ((n : Int) - 0).toNat) else none) = _
  rw [e, fit_of (by omega) (by omega), fit_of (by omega) (by omega), szOk_of h]
  show some (rngL n (-1) n) = _
  unfold rngL
  congr 1
  refine List.ext_getElem (by simp) fun i h1 h2 => ?_
  rw [List.length_map, List.length_range] at h1
  rw [List.getElem_map, List.getElem_map, List.getElem_range, List.getElem_reverse, List.getElem_range, List.length_range]
  congr 1
  omega
theorem at_str {xs : List Str} {k : Nat} (h : k < xs.length) : atI (xs.map D.str) (k : Int) = some (.str (xs.getD k "")) := by
  rw [at_map (x := xs.getD k "")]
  rw [List.getD_eq_getElem?_getD, List.getElem?_eq_getElem h]
  rfl
theorem at_neg {xs : List Str} (h : 0 < xs.length) : atI (xs.map D.str) (-1) = some (.str (xs.getD (xs.length - 1) "")) := by
  have e : ixN (xs.map D.str).length (-1) = some (xs.length - 1) := by
    unfold ixN
    rw [List.length_map, if_neg (by decide), if_pos (by omega)]
    congr 1
    omega
  unfold atI
  rw [e, Option.bind_some, List.getElem?_map, List.getD_eq_getElem?_getD, List.getElem?_eq_getElem (by omega)]
  rfl
theorem pre_i (k : Nat) : ((k + 1 : Nat) : Int) - 1 = (k : Nat) := by omega
theorem suc_i (k : Nat) : (k : Int) + 1 = ((k + 1 : Nat) : Int) := by omega
theorem lst_strs (x : Str) (xs : List Str) : (D.lst (D.str x :: xs.map D.str)) = .lst ((x :: xs).map D.str) := rfl
theorem cat_strs (x : Str) (xs : List Str) (h : xs.length ≤ 16777215) : addD (.lst [.str x]) (.lst (xs.map D.str)) = some (.lst ((x :: xs).map D.str)) := by
  rw [add_l (by rw [List.length_singleton, List.length_map]; omega)]
  rfl
/-- copies from each to the next, downward -/
theorem down_l {ρ : LEnv} {S : Store} {fl : List Str} {n i j : Nat} (hn : n < fl.length) (hi : ρ[i]? = some (.val (.lst (fl.map D.str)))) (hij : i ≠ j) (hj : j < ρ.length) :
    lcL (gN j) bTrue (eTup (aC (eC (.str "copy")) (aC (eHB (hV i) (eV j) idxD) (aC (eHB (hV i) (eBin subD (eV j) (eC (.int 1))) idxD) aN)))) ((List.range n).reverse.map fun k => D.int ((k + 1 : Nat) : Int)) ρ S =
      .ok (((List.range n).reverse.map fun k => Dd.copy (fl.getD (k + 1) "") (fl.getD k "")).map ddD, S) := by
  rw [List.map_map]
  refine lcL_map fun k hk => ⟨_, rfl, ?_⟩
  have hk : k < n := by simpa using hk
  have g1 : (ρ.set j (.val (.int ((k + 1 : Nat) : Int))))[i]? = some (.val (.lst (fl.map D.str))) := by rw [List.getElem?_set_ne (Ne.symm hij)]; exact hi
  have g2 : (ρ.set j (.val (.int ((k + 1 : Nat) : Int))))[j]? = some (.val (.int ((k + 1 : Nat) : Int))) := List.getElem?_set_self hj
  have a1 := at_str (xs := fl) (k := k + 1) (by omega)
  have a2 := at_str (xs := fl) (k := k) (by omega)
  simp? [g1, g2, pre_i, a1, a2]
  rfl
/-- copies from the next, upward -/
theorem up_l {ρ : LEnv} {S : Store} {fl : List Str} {n i j : Nat} (hn : n < fl.length) (hi : ρ[i]? = some (.val (.lst (fl.map D.str)))) (hij : i ≠ j) (hj : j < ρ.length) :
    lcL (gN j) bTrue (eTup (aC (eC (.str "copy")) (aC (eHB (hV i) (eV j) idxD) (aC (eHB (hV i) (eBin addD (eV j) (eC (.int 1))) idxD) aN)))) ((List.range n).map fun k => D.int (k : Nat)) ρ S =
      .ok (((List.range n).map fun k => Dd.copy (fl.getD k "") (fl.getD (k + 1) "")).map ddD, S) := by
  rw [List.map_map]
  refine lcL_map fun k hk => ⟨_, rfl, ?_⟩
  have hk : k < n := by simpa using hk
  have g1 : (ρ.set j (.val (.int (k : Nat))))[i]? = some (.val (.lst (fl.map D.str))) := by rw [List.getElem?_set_ne (Ne.symm hij)]; exact hi
  have g2 : (ρ.set j (.val (.int (k : Nat))))[j]? = some (.val (.int (k : Nat))) := List.getElem?_set_self hj
  have a1 := at_str (xs := fl) (k := k + 1) (by omega)
  have a2 := at_str (xs := fl) (k := k) (by omega)
  simp? [g1, g2, suc_i, a1, a2]
  rfl
theorem ext_dd {xs ys : List Dd} (h : xs.length + ys.length ≤ 16777216) : extD [.lst (ys.map ddD)] (.lst (xs.map ddD)) = some (.lst ((xs ++ ys).map ddD)) := by
  rw [ext_l (by rw [List.length_map, List.length_map]; exact h), List.map_append]
theorem app_dd {xs : List Dd} {y : Dd} (h : xs.length < 16777216) : appD [ddD y] (.lst (xs.map ddD)) = some (.lst ((xs ++ [y]).map ddD)) := by
  rw [app_l (by rw [List.length_map]; exact h), List.map_append]
  rfl
theorem reached_ok (t : Tk tk T) (g : Good T) (name : Str) {bound : Nat} (hb : bound ≤ 1000000) (h : m.block.length + 2 ≤ 16777216) :
    d_Maker_reached [.ptr (S.length + 1), .str name, nD bound] (mkS S tk m) = .ok (.tup [.lst ((reached T name bound m).1.1.map D.str), .str (reached T name bound m).1.2], mkS S tk (reached T name bound m).2) := by
  unfold d_Maker_reached b_Maker_reached
  rw [runD_a (n := 3) rfl]
  generalize hp : one T m = p
  generalize hq : manyFresh T bound p.2 = q
  generalize hl : manyFresh T (bound + 1) q.2 = l
  have e1 := one_ok (S := S) (m := m) t g (by omega)
  have e2 := many_fresh_ok (S := S) (m := p.2) t g (n := bound) (by omega)
  have e3 := many_fresh_ok (S := S) (m := q.2) t g (n := bound + 1) (by omega)
  rw [hp] at e1
  rw [hq] at e2
  rw [hl] at e3
  have n2 : q.1.length = bound := by rw [← hq]; exact many_len _ _
  have n3 : l.1.length = bound + 1 := by rw [← hl]; exact many_len _ _
  have bl : l.2.block.length = m.block.length + 1 := by
    rw [← hl, many_block, ← hq, many_block, ← hp]
    exact put_block _
  have c1 := cat_strs p.1 q.1 (by omega)
  generalize hf : p.1 :: q.1 = fl at c1
  have n4 : fl.length = bound + 1 := by rw [← hf, List.length_cons, n2]
  have r3 := rng3 bound (by omega)
  have r1 := rng1 bound (by omega)
  generalize hd1 : ((List.range bound).reverse.map fun i => Dd.copy (fl.getD (i + 1) "") (fl.getD i "")) = dd1
  generalize hd2 : ((List.range bound).map fun i => Dd.copy (l.1.getD i "") (l.1.getD (i + 1) "")) = dd2
  have ln1 : dd1.length = bound := by rw [← hd1, List.length_map, List.length_reverse, List.length_range]
  have ln2 : dd2.length = bound := by rw [← hd2, List.length_map, List.length_range]
  have d1 := fun S' => down_l (S := S') (ρ := [.val (.ptr (S.length + 1)), .val (.str name), .val (nD bound), .val (.lst (fl.map D.str)), .val (.lst (l.1.map D.str)), .no, .no]) (fl := fl) (n := bound) (i := 3) (j := 6) (by omega) rfl (by decide) (show 6 < 7 from by decide)
  have d2 := fun S' => up_l (S := S') (ρ := [.val (.ptr (S.length + 1)), .val (.str name), .val (nD bound), .val (.lst (fl.map D.str)), .val (.lst (l.1.map D.str)), .own (.lst (dd1.map ddD)), .no]) (fl := l.1) (n := bound) (i := 4) (j := 6) (by omega) rfl (by decide) (show 6 < 7 from by decide)
  rw [hd1] at d1
  rw [hd2] at d2
  have x1 := ext_dd (xs := dd1) (ys := dd2) (by omega)
  have x2 := app_dd (xs := dd1 ++ dd2) (y := .more (l.1.getD bound "")) (by rw [List.length_append]; omega)
  have dm : ∀ x, D.tup [.str "more", .str x] = ddD (.more x) := fun _ => rfl
  have i1 := at_str (xs := l.1) (k := bound) (by omega)
  have i2 : atI (l.1.map D.str) 0 = some (.str (l.1.getD 0 "")) := at_str (xs := l.1) (k := 0) (by omega)
  have e4 := put_ok (S := S) (tk := tk) (m := l.2) (.round name (dd1 ++ dd2 ++ [.more (l.1.getD bound "")])) (by omega)
  rw [st_round] at e4
  simp? [M_one, M_many, M_put, e1, e2, c1, suc_i, e3, r3, r1, d1, d2, x1, i1, dm, x2, e4, i2]
  unfold reached
  dsimp only
  rw [hp, hq, hl, hf, hd1, hd2]
theorem reached_len {name : Str} {bound : Nat} : (reached T name bound m).1.1.length = bound + 1 := by
  unfold reached
  dsimp only
  rw [List.length_cons, many_len]
theorem reached_bl {name : Str} {bound : Nat} : (reached T name bound m).2.block.length = m.block.length + 2 := by
  unfold reached
  dsimp only
  rw [put_block, many_block, many_block]
  show (put _ _).block.length + 1 = _
  rw [put_block]
  rfl
theorem divided_ok (t : Tk tk T) (g : Good T) (name : Str) {k : Nat} (hb : k ≤ 1000000) (h : m.block.length + 2 ≤ 16777216) :
    d_Maker_divided [.ptr (S.length + 1), .str name, nD (k + 1)] (mkS S tk m) = .ok (.tup [.lst ((divided T name (k + 1) m).1.1.map D.str), .str (divided T name (k + 1) m).1.2], mkS S tk (divided T name (k + 1) m).2) := by
  unfold d_Maker_divided b_Maker_divided
  rw [runD_a (n := 3) rfl]
  generalize hp : one T m = p
  generalize hq : manyFresh T k p.2 = q
  generalize hl : manyFresh T (k + 1) q.2 = l
  generalize hs : fresh T l.2 = sp
  have e1 := one_ok (S := S) (m := m) t g (by omega)
  have e2 := many_fresh_ok (S := S) (m := p.2) t g (n := k) (by omega)
  have e3 := many_fresh_ok (S := S) (m := q.2) t g (n := k + 1) (by omega)
  have e5 := fresh_ok (S := S) (m := l.2) t g
  rw [hp] at e1
  rw [hq] at e2
  rw [hl] at e3
  rw [hs] at e5
  have n2 : q.1.length = k := by rw [← hq]; exact many_len _ _
  have n3 : l.1.length = k + 1 := by rw [← hl]; exact many_len _ _
  have bl : sp.2.block.length = m.block.length + 1 := by
    rw [← hs, fresh_block, ← hl, many_block, ← hq, many_block, ← hp]
    exact put_block _
  have c1 := cat_strs p.1 q.1 (by omega)
  generalize hf : p.1 :: q.1 = fl at c1
  have n4 : fl.length = k + 1 := by rw [← hf, List.length_cons, n2]
  have r3 := rng3 k (by omega)
  have r1 := rng1 k (by omega)
  generalize hd1 : ((List.range k).reverse.map fun i => Dd.copy (fl.getD (i + 1) "") (fl.getD i "")) = dd1
  generalize hd2 : ((List.range k).map fun i => Dd.copy (l.1.getD i "") (l.1.getD (i + 1) "")) = dd2
  have ln1 : dd1.length = k := by rw [← hd1, List.length_map, List.length_reverse, List.length_range]
  have ln2 : dd2.length = k := by rw [← hd2, List.length_map, List.length_range]
  generalize hy0 : [Dd.copy sp.1 (fl.getD k "")] = y0
  generalize hy2 : [Dd.copy (fl.getD 0 "") sp.1, .copy sp.1 (l.1.getD 0 "")] = y2
  generalize hy4 : [Dd.copy (l.1.getD k "") sp.1, .more (l.1.getD k "")] = y4
  have m0 : y0.length = 1 := by rw [← hy0]; rfl
  have m2 : y2.length = 2 := by rw [← hy2]; rfl
  have m4 : y4.length = 2 := by rw [← hy4]; rfl
  have z0 : [D.tup [.str "copy", .str sp.1, .str (fl.getD k "")]] = y0.map ddD := by rw [← hy0]; rfl
  have z2 : [D.tup [.str "copy", .str (fl.getD 0 ""), .str sp.1], D.tup [.str "copy", .str sp.1, .str (l.1.getD 0 "")]] = y2.map ddD := by rw [← hy2]; rfl
  have z4 : [D.tup [.str "copy", .str (l.1.getD k ""), .str sp.1], D.tup [.str "more", .str (l.1.getD k "")]] = y4.map ddD := by rw [← hy4]; rfl
  have sz0 : szOk (y0.map ddD).length = true := szOk_t (by rw [List.length_map]; omega)
  have sz2 : szOk (y2.map ddD).length = true := szOk_t (by rw [List.length_map]; omega)
  have sz4 : szOk (y4.map ddD).length = true := szOk_t (by rw [List.length_map]; omega)
  have d1 := fun S' => down_l (S := S') (ρ := [.val (.ptr (S.length + 1)), .val (.str name), .val (nD (k + 1)), .val (.lst (fl.map D.str)), .val (.lst (l.1.map D.str)), .val (.str sp.1), .own (.lst (y0.map ddD)), .no]) (fl := fl) (n := k) (i := 3) (j := 7) (by omega) rfl (by decide) (show 7 < 8 from by decide)
  have d2 := fun S' => up_l (S := S') (ρ := [.val (.ptr (S.length + 1)), .val (.str name), .val (nD (k + 1)), .val (.lst (fl.map D.str)), .val (.lst (l.1.map D.str)), .val (.str sp.1), .own (.lst ((y0 ++ dd1 ++ y2).map ddD)), .no]) (fl := l.1) (n := k) (i := 4) (j := 7) (by omega) rfl (by decide) (show 7 < 8 from by decide)
  rw [hd1] at d1
  rw [hd2] at d2
  have x1 := ext_dd (xs := y0) (ys := dd1) (by omega)
  have x2 := ext_dd (xs := y0 ++ dd1) (ys := y2) (by rw [List.length_append]; omega)
  have x3 := ext_dd (xs := y0 ++ dd1 ++ y2) (ys := dd2) (by rw [List.length_append, List.length_append]; omega)
  have x4 := ext_dd (xs := y0 ++ dd1 ++ y2 ++ dd2) (ys := y4) (by rw [List.length_append, List.length_append, List.length_append]; omega)
  have i0 : atI (fl.map D.str) 0 = some (.str (fl.getD 0 "")) := at_str (xs := fl) (k := 0) (by omega)
  have i1 : atI (fl.map D.str) (-1) = some (.str (fl.getD k "")) := by rw [at_neg (by omega), n4]; rfl
  have i2 : atI (l.1.map D.str) 0 = some (.str (l.1.getD 0 "")) := at_str (xs := l.1) (k := 0) (by omega)
  have i3 : atI (l.1.map D.str) (-1) = some (.str (l.1.getD k "")) := by rw [at_neg (by omega), n3]; rfl
  have e4 := put_ok (S := S) (tk := tk) (m := sp.2) (.round name (y0 ++ dd1 ++ y2 ++ dd2 ++ y4)) (by omega)
  rw [st_round] at e4
  simp? [M_one, M_many, M_put, M_fresh, e1, pre_i, e2, c1, e3, e5, i1, z0, sz0, sz2, sz4, r3, d1, x1, i0, i2, z2, x2, r1, d2, x3, i3, z4, x4, e4]
  unfold divided
  dsimp only
  rw [hp, Nat.add_sub_cancel, hq, hl, hs, hf, hd1, hd2, hy0, hy2, hy4]
theorem divided_bl {name : Str} {k : Nat} : (divided T name (k + 1) m).2.block.length = m.block.length + 2 := by
  unfold divided
  dsimp only
  rw [put_block, fresh_block, many_block, many_block]
  show (put _ _).block.length + 1 = _
  rw [put_block]
  rfl
theorem divided_len {name : Str} {k : Nat} : (divided T name (k + 1) m).1.1.length = k + 1 := by
  unfold divided
  dsimp only
  rw [List.length_cons, many_len]
  rfl
end
end LW
end

section
set_option linter.all false
set_option maxRecDepth 100000
namespace LW
open PySem L2 GG
local macro_rules
  | `(tactic| simp? [$a,*] $[$l:location]?) => `(tactic| simp only [eC_a, eV_a, hE_a, hV_a, eH_a, eHB_a, eBin_a, eUn_a, eAnd_a, eOr_a, eNot_a, eIf_a, eCmp_a, eChain_a, aN_a, aC_a, eTup_a, eLst_a, eCall_a, eB_a, eFz_a, eAl_a, mLst_a, mLc_a, mLc2_a, mMk_a, mDic0_a, mList_a, eMeth_a, eIsi1_a, eIsi_a, eInH_a, eSl_a, oX_none, oX_some, bV_a, bT_a, bAnd_a, bOr_a, bNot_a, bTrue_a, iS_a, iEn_a, iZ_a, iR1_a, iR2_a, iR3_a, sSeq_a, sNil_a, sExpr_a, sRet_a, sRetN_a, sIf_a, sBrk_a, sCnt_a, sSet_a, sOwn_a, sFz_a, sFor_a, sMt_a, sFld_a, sAsg_a, sRaise_a, sTry_a, sMethO_a, endD_rt, endD_nx, endD_ex, bok, bex, oso, sok, sxc, cok, qnx, qrt, qbk, qct, qex, lnx, lct, lbk, lrt, lxc, oss, okk, obs, oms, add_i, sub_i, neg_i, lt_i, le_i, gt_i, ge_i, len_l, len_t, len_f, len_d, idx_l, idx_t, idx_f, walk_l, walk_t, walk_f, seq_l, seq_t, tuple_l, tuple_t, int_i, atI_0, atI_1, atI_2, dr_n, dr_b, dr_i, dr_s, dr_l, dr_t, dr_k, dr_f, dr_d, dr_o, dr_p, dr_w, now_l, now_d, now_o, frz_l, frz_d, frz_o, isL_l, frzAt, cu_p, cu_w, pu_p, pu_w, startD, startO, List.map_cons, List.map_nil, List.replicate, List.cons_append, List.nil_append, List.length_cons, List.length_nil, Nat.zero_add, Nat.reduceAdd, List.getElem?_cons_zero, List.getElem?_cons_succ, List.set_cons_zero, List.set_cons_succ, if_true, if_false, reduceIte, Bool.false_eq_true, bD_b, tru_n, tru_b, tru_l, tru_t, gN_a, gT_t, gAll_n, gAll_c, wipeD, ite_and, ite_or, ite_andB, ite_orB, szOk_0, szOk_1, szOk_2, szOk_3, szOk_4, Bool.not_true, Bool.not_false, Bool.true_and, Bool.and_true, Bool.false_and, Bool.and_false, Bool.true_or, Bool.or_true, Bool.false_or, Bool.or_false, decide_true, decide_false, tT, tAll, tN, tI, setI, $a,*] $[$l:location]?)
section
variable {S : Store} {tk : D} {T : List Str}
theorem M_reached {m : Mk} : methAt "reached" mt_reached (mkS S tk m) (.ptr (S.length + 1)) = some d_Maker_reached := mk_meth rfl rfl
theorem M_divided {m : Mk} : methAt "divided" mt_divided (mkS S tk m) (.ptr (S.length + 1)) = some d_Maker_divided := mk_meth rfl rfl
theorem app_str {xs : List Str} {y : Str} (h : xs.length < 16777216) : appD [.str y] (.lst (xs.map .str)) = some (.lst ((xs ++ [y]).map .str)) := by
  rw [app_l (by rw [List.length_map]; exact h), List.map_append]
  rfl
theorem partA_loop (t : Tk tk T) (g : Good T) {r : List Str} {x1 x2 x3 x5 x6 x7 s11 : Slot} : ∀ (is : List Nat) (found : List Str) (m : Mk) (s9 s10 : Slot), (∀ i ∈ is, i + 1 < r.length) → m.block.length + 2 * is.length ≤ 16777216 → found.length + is.length ≤ 16777216 →
    ∃ s9' s10', forL (gN 9) L0_Maker_parted (is.map fun i => D.int (i : Nat)) [.val (.ptr (S.length + 1)), x1, x2, x3, .val (.lst (r.map .str)), x5, x6, x7, .own (.lst (found.map .str)), s9, s10, s11] (mkS S tk m) =
      .nx [.val (.ptr (S.length + 1)), x1, x2, x3, .val (.lst (r.map .str)), x5, x6, x7, .own (.lst ((partA T r is (found, m)).1.map .str)), s9', s10', s11] (mkS S tk (partA T r is (found, m)).2) ∧ (partA T r is (found, m)).1.length = found.length + is.length ∧ (partA T r is (found, m)).2.block.length = m.block.length + 2 * is.length
  | [], found, m, s9, s10, _, _, _ => ⟨s9, s10, rfl, rfl, rfl⟩
  | i :: is, found, m, s9, s10, h1, h2, h3 => by
    rw [List.length_cons] at h2 h3
    have hi := h1 i List.mem_cons_self
    have a1 := at_str (xs := r) (k := i) (by omega)
    have a2 := at_str (xs := r) (k := i + 1) hi
    generalize hp : fresh T m = p
    have bp : p.2.block = m.block := by rw [← hp]; rfl
    have e1 := fresh_ok (S := S) (m := m) t g
    rw [hp] at e1
    have e2 := put_ok (S := S) (tk := tk) (m := p.2) (.deed (.copy p.1 (r.getD i ""))) (by rw [bp]; omega)
    have e3 := put_ok (S := S) (tk := tk) (m := put (.deed (.copy p.1 (r.getD i ""))) p.2) (.round (r.getD (i + 1) "") [.zero p.1]) (by rw [put_block, bp]; omega)
    rw [st_copy] at e2
    rw [st_zif] at e3
    have e4 := app_str (xs := found) (y := p.1) (by omega)
    obtain ⟨s9', s10', ih, l1, l2⟩ := partA_loop t g is (found ++ [p.1]) (put (.round (r.getD (i + 1) "") [.zero p.1]) (put (.deed (.copy p.1 (r.getD i ""))) p.2)) (.val (.int (i : Nat))) (.val (.str p.1)) (x1 := x1) (x2 := x2) (x3 := x3) (x5 := x5) (x6 := x6) (x7 := x7) (s11 := s11) (fun j hj => h1 j (.tail _ hj)) (by rw [put_block, put_block, bp]; omega) (by rw [List.length_append, List.length_singleton]; omega)
    have eq : partA T r (i :: is) (found, m) = partA T r is (found ++ [p.1], put (.round (r.getD (i + 1) "") [.zero p.1]) (put (.deed (.copy p.1 (r.getD i ""))) p.2)) := by
      rw [← hp]
      rfl
    refine ⟨s9', s10', ?_, ?_, ?_⟩
    · rw [List.map_cons, forL_cons (ρ' := [.val (.ptr (S.length + 1)), x1, x2, x3, .val (.lst (r.map .str)), x5, x6, x7, .own (.lst (found.map .str)), .val (.int (i : Nat)), s10, s11]) rfl]
      have st : L0_Maker_parted [.val (.ptr (S.length + 1)), x1, x2, x3, .val (.lst (r.map .str)), x5, x6, x7, .own (.lst (found.map .str)), .val (.int (i : Nat)), s10, s11] (mkS S tk m) =
          .nx [.val (.ptr (S.length + 1)), x1, x2, x3, .val (.lst (r.map .str)), x5, x6, x7, .own (.lst ((found ++ [p.1]).map .str)), .val (.int (i : Nat)), .val (.str p.1), s11] (mkS S tk (put (.round (r.getD (i + 1) "") [.zero p.1]) (put (.deed (.copy p.1 (r.getD i ""))) p.2))) := by
        unfold L0_Maker_parted
        simp? [M_fresh, M_put, e1, a1, e2, suc_i, a2, e3, e4]
      rw [st, lnx, ih, eq]
    · rw [eq, l1, List.length_append, List.length_singleton, List.length_cons]
      omega
    · rw [eq, l2, put_block, put_block, bp, List.length_cons]
      omega
theorem partB_loop (t : Tk tk T) (g : Good T) {r : List Str} {bound : Nat} (hr : bound < r.length) {x1 x3 x5 x6 x7 s9 : Slot} : ∀ (ks : List Str) (found : List Str) (m : Mk) (s10 s11 : Slot), m.block.length + ks.length ≤ 16777216 → found.length + ks.length ≤ 16777216 →
    ∃ s10' s11', forL (gN 11) L1_Maker_parted (ks.map D.str) [.val (.ptr (S.length + 1)), x1, .val (nD bound), x3, .val (.lst (r.map .str)), x5, x6, x7, .own (.lst (found.map .str)), s9, s10, s11] (mkS S tk m) =
      .nx [.val (.ptr (S.length + 1)), x1, .val (nD bound), x3, .val (.lst (r.map .str)), x5, x6, x7, .own (.lst ((partB T (r.getD bound "") ks (found, m)).1.map .str)), s9, s10', s11'] (mkS S tk (partB T (r.getD bound "") ks (found, m)).2) ∧ (partB T (r.getD bound "") ks (found, m)).1.length = found.length + ks.length ∧ (partB T (r.getD bound "") ks (found, m)).2.block.length = m.block.length + ks.length
  | [], found, m, s10, s11, _, _ => ⟨s10, s11, rfl, rfl, rfl⟩
  | x :: ks, found, m, s10, s11, h2, h3 => by
    rw [List.length_cons] at h2 h3
    have a1 := at_str (xs := r) (k := bound) hr
    generalize hp : fresh T m = p
    have bp : p.2.block = m.block := by rw [← hp]; rfl
    have e1 := fresh_ok (S := S) (m := m) t g
    rw [hp] at e1
    have e2 := cif_ok (S := S) (tk := tk) (m := p.2) (r.getD bound "") p.1 x (by rw [bp]; omega)
    have cb : (cif (r.getD bound "") p.1 x p.2).block.length = m.block.length + 1 := by rw [← bp]; exact put_block _
    have e4 := app_str (xs := found) (y := p.1) (by omega)
    obtain ⟨s10', s11', ih, l1, l2⟩ := partB_loop t g hr ks (found ++ [p.1]) (cif (r.getD bound "") p.1 x p.2) (.val (.str p.1)) (.val (.str x)) (x1 := x1) (x3 := x3) (x5 := x5) (x6 := x6) (x7 := x7) (s9 := s9) (by omega) (by rw [List.length_append, List.length_singleton]; omega)
    have eq : partB T (r.getD bound "") (x :: ks) (found, m) = partB T (r.getD bound "") ks (found ++ [p.1], cif (r.getD bound "") p.1 x p.2) := by
      rw [← hp]
      rfl
    refine ⟨s10', s11', ?_, ?_, ?_⟩
    · rw [List.map_cons, forL_cons (ρ' := [.val (.ptr (S.length + 1)), x1, .val (nD bound), x3, .val (.lst (r.map .str)), x5, x6, x7, .own (.lst (found.map .str)), s9, s10, .val (.str x)]) rfl]
      have st : L1_Maker_parted [.val (.ptr (S.length + 1)), x1, .val (nD bound), x3, .val (.lst (r.map .str)), x5, x6, x7, .own (.lst (found.map .str)), s9, s10, .val (.str x)] (mkS S tk m) =
          .nx [.val (.ptr (S.length + 1)), x1, .val (nD bound), x3, .val (.lst (r.map .str)), x5, x6, x7, .own (.lst ((found ++ [p.1]).map .str)), s9, .val (.str p.1), .val (.str x)] (mkS S tk (cif (r.getD bound "") p.1 x p.2)) := by
        unfold L1_Maker_parted
        simp? [M_fresh, M_cif, e1, a1, e2, e4]
      rw [st, lnx, ih, eq]
    · rw [eq, l1, List.length_append, List.length_singleton, List.length_cons]
      omega
    · rw [eq, l2, cb, List.length_cons]
      omega
theorem parted_ok {m : Mk} (t : Tk tk T) (g : Good T) (name : Str) {bound k : Nat} (hb : bound ≤ 1000000) (hk : k ≤ 1000000) (h : m.block.length + 4 + 2 * bound + (k + 1) ≤ 16777216) :
    d_Maker_parted [.ptr (S.length + 1), .str name, nD bound, nD (k + 1)] (mkS S tk m) = .ok (.tup [.lst ((parted T name bound (k + 1) m).1.1.map D.str), .str (parted T name bound (k + 1) m).1.2], mkS S tk (parted T name bound (k + 1) m).2) ∧
    (parted T name bound (k + 1) m).1.1.length = bound + (k + 1) ∧ (parted T name bound (k + 1) m).2.block.length = m.block.length + 4 + 2 * bound + (k + 1) := by
  generalize hr : reached T name bound m = r
  generalize hd : divided T r.1.2 (k + 1) r.2 = d
  have e1 := reached_ok (S := S) (m := m) t g name hb (by omega)
  rw [hr] at e1
  have rl : r.1.1.length = bound + 1 := by rw [← hr]; exact reached_len
  have rb : r.2.block.length = m.block.length + 2 := by rw [← hr]; exact reached_bl
  have e2 := divided_ok (S := S) (m := r.2) t g r.1.2 hk (by omega)
  rw [hd] at e2
  have dl : d.1.1.length = k + 1 := by rw [← hd]; exact divided_len
  have db : d.2.block.length = m.block.length + 4 := by rw [← hd, divided_bl, rb]
  obtain ⟨s9, s10, e3, l3, b3⟩ := partA_loop (S := S) (m := d.2) t g (r := r.1.1) (x1 := .val (.str name)) (x2 := .val (nD bound)) (x3 := .val (nD (k + 1))) (x5 := .val (.str r.1.2)) (x6 := .val (.lst (d.1.1.map D.str))) (x7 := .val (.str d.1.2)) (s11 := .no) (List.range bound) [] .no .no (fun i hi => by rw [rl]; have := List.mem_range.mp hi; omega) (by rw [List.length_range]; omega) (by rw [List.length_range]; show 0 + _ ≤ _; omega)
  rw [List.length_range] at l3 b3
  generalize ha : partA T r.1.1 (List.range bound) ([], d.2) = a at e3 l3 b3
  have l3 : a.1.length = bound := by rw [l3]; show 0 + _ = _; omega
  obtain ⟨s10', s11', e4, l4, b4⟩ := partB_loop (S := S) t g (r := r.1.1) (bound := bound) (by omega) (x1 := .val (.str name)) (x3 := .val (nD (k + 1))) (x5 := .val (.str r.1.2)) (x6 := .val (.lst (d.1.1.map D.str))) (x7 := .val (.str d.1.2)) (s9 := s9) d.1.1 a.1 a.2 s10 .no (by omega) (by omega)
  have hq : partB T (r.1.1.getD bound "") d.1.1 (a.1, a.2) = partB T (r.1.1.getD bound "") d.1.1 a := rfl
  rw [hq] at e4 l4 b4
  generalize hb' : partB T (r.1.1.getD bound "") d.1.1 a = b at e4 l4 b4
  have eq : parted T name bound (k + 1) m = ((b.1, d.1.2), b.2) := by
    unfold parted
    dsimp only
    rw [hr, hd, ha, hb']
  rw [eq]
  refine ⟨?_, by rw [l4, l3, dl], by rw [b4, b3, dl, db]⟩
  unfold d_Maker_parted b_Maker_parted
  rw [runD_a (n := 4) rfl]
  have r1 := rng1 bound (by omega)
  have e3 : forL (gN 9) L0_Maker_parted ((List.range bound).map fun i => D.int (i : Nat)) [.val (.ptr (S.length + 1)), .val (.str name), .val (nD bound), .val (nD (k + 1)), .val (.lst (r.1.1.map .str)), .val (.str r.1.2), .val (.lst (d.1.1.map D.str)), .val (.str d.1.2), .own (.lst []), .no, .no, .no] (mkS S tk d.2) = _ := e3
  simp? [M_reached, M_divided, e1, e2, r1, e3, e4]
end
end LW
end

section
set_option linter.all false
set_option maxRecDepth 100000
namespace LW
open PySem L2 GG
local macro_rules
  | `(tactic| simp? [$a,*] $[$l:location]?) => `(tactic| simp only [eC_a, eV_a, hE_a, hV_a, eH_a, eHB_a, eBin_a, eUn_a, eAnd_a, eOr_a, eNot_a, eIf_a, eCmp_a, eChain_a, aN_a, aC_a, eTup_a, eLst_a, eCall_a, eB_a, eFz_a, eAl_a, mLst_a, mLc_a, mLc2_a, mMk_a, mDic0_a, mList_a, eMeth_a, eIsi1_a, eIsi_a, eInH_a, eSl_a, oX_none, oX_some, bV_a, bT_a, bAnd_a, bOr_a, bNot_a, bTrue_a, iS_a, iEn_a, iZ_a, iR1_a, iR2_a, iR3_a, sSeq_a, sNil_a, sExpr_a, sRet_a, sRetN_a, sIf_a, sBrk_a, sCnt_a, sSet_a, sOwn_a, sFz_a, sFor_a, sMt_a, sFld_a, sAsg_a, sRaise_a, sTry_a, sMethO_a, endD_rt, endD_nx, endD_ex, bok, bex, oso, sok, sxc, cok, qnx, qrt, qbk, qct, qex, lnx, lct, lbk, lrt, lxc, oss, okk, obs, oms, add_i, sub_i, neg_i, lt_i, le_i, gt_i, ge_i, len_l, len_t, len_f, len_d, idx_l, idx_t, idx_f, walk_l, walk_t, walk_f, seq_l, seq_t, tuple_l, tuple_t, int_i, atI_0, atI_1, atI_2, dr_n, dr_b, dr_i, dr_s, dr_l, dr_t, dr_k, dr_f, dr_d, dr_o, dr_p, dr_w, now_l, now_d, now_o, frz_l, frz_d, frz_o, isL_l, frzAt, cu_p, cu_w, pu_p, pu_w, startD, startO, List.map_cons, List.map_nil, List.replicate, List.cons_append, List.nil_append, List.length_cons, List.length_nil, Nat.zero_add, Nat.reduceAdd, List.getElem?_cons_zero, List.getElem?_cons_succ, List.set_cons_zero, List.set_cons_succ, if_true, if_false, reduceIte, Bool.false_eq_true, bD_b, tru_n, tru_b, tru_l, tru_t, gN_a, gT_t, gAll_n, gAll_c, wipeD, ite_and, ite_or, ite_andB, ite_orB, szOk_0, szOk_1, szOk_2, szOk_3, szOk_4, Bool.not_true, Bool.not_false, Bool.true_and, Bool.and_true, Bool.false_and, Bool.and_false, Bool.true_or, Bool.or_true, Bool.false_or, Bool.or_false, decide_true, decide_false, tT, tAll, tN, tI, setI, $a,*] $[$l:location]?)
section
variable {S : Store} {tk : D} {T : List Str}
theorem flag_loop (t : Tk tk T) (g : Good T) {x1 : Slot} : ∀ (ks : List Str) (c : Str) (m : Mk) (s3 s4 : Slot), m.block.length + ks.length ≤ 16777216 →
    ∃ s3' s4', forL (gN 3) L0_Maker_cell_flag (ks.map D.str) [.val (.ptr (S.length + 1)), x1, .val (.str c), s3, s4] (mkS S tk m) =
      .nx [.val (.ptr (S.length + 1)), x1, .val (.str (flagL T ks (c, m)).1), s3', s4'] (mkS S tk (flagL T ks (c, m)).2) ∧ (flagL T ks (c, m)).2.block.length = m.block.length + ks.length
  | [], c, m, s3, s4, _ => ⟨s3, s4, rfl, rfl⟩
  | x :: ks, c, m, s3, s4, h => by
    rw [List.length_cons] at h
    generalize hp : fresh T m = p
    have bp : p.2.block = m.block := by rw [← hp]; rfl
    have e1 := fresh_ok (S := S) (m := m) t g
    rw [hp] at e1
    have e2 := cif_ok (S := S) (tk := tk) (m := p.2) c p.1 x (by rw [bp]; omega)
    have cb : (cif c p.1 x p.2).block.length = m.block.length + 1 := by rw [← bp]; exact put_block _
    obtain ⟨s3', s4', ih, l⟩ := flag_loop t g ks p.1 (cif c p.1 x p.2) (.val (.str x)) (.val (.str p.1)) (x1 := x1) (by omega)
    have eq : flagL T (x :: ks) (c, m) = flagL T ks (p.1, cif c p.1 x p.2) := by rw [← hp]; rfl
    refine ⟨s3', s4', ?_, by rw [eq, l, cb, List.length_cons]; omega⟩
    rw [List.map_cons, forL_cons (ρ' := [.val (.ptr (S.length + 1)), x1, .val (.str c), .val (.str x), s4]) rfl]
    have st : L0_Maker_cell_flag [.val (.ptr (S.length + 1)), x1, .val (.str c), .val (.str x), s4] (mkS S tk m) = .nx [.val (.ptr (S.length + 1)), x1, .val (.str p.1), .val (.str x), .val (.str p.1)] (mkS S tk (cif c p.1 x p.2)) := by
      unfold L0_Maker_cell_flag
      simp? [M_fresh, M_cif, e1, e2]
    rw [st, lnx, ih, eq]
theorem cell_flag_ok {m : Mk} (t : Tk tk T) (g : Good T) (ks : List Str) (h : m.block.length + 1 + ks.length ≤ 16777216) :
    d_Maker_cell_flag [.ptr (S.length + 1), .lst (ks.map D.str)] (mkS S tk m) = .ok (.str (cellFlag T ks m).1, mkS S tk (cellFlag T ks m).2) ∧ (cellFlag T ks m).2.block.length = m.block.length + 1 + ks.length := by
  have e1 := one_ok (S := S) (m := m) t g (by omega)
  have b1 : (one T m).2.block.length = m.block.length + 1 := put_block _
  obtain ⟨s3, s4, e2, b2⟩ := flag_loop (S := S) t g (x1 := .val (.lst (ks.map D.str))) ks (one T m).1 (one T m).2 .no .no (by omega)
  refine ⟨?_, by unfold cellFlag; rw [b2, b1]⟩
  unfold d_Maker_cell_flag b_Maker_cell_flag
  rw [runD_a (n := 2) rfl]
  simp? [M_one, e1, e2]
  rfl
theorem cons_loop (t : Tk tk T) (g : Good T) {x1 : Slot} : ∀ (ds : List D) (found : List Str) (m : Mk) (s3 s4 : Slot), 0 < found.length → m.block.length + 2 * ds.length ≤ 16777216 → found.length + ds.length ≤ 16777216 →
    ∃ s3' s4', forL (gN 3) L0_Maker_constants ds [.val (.ptr (S.length + 1)), x1, .own (.lst (found.map .str)), s3, s4] (mkS S tk m) =
      .nx [.val (.ptr (S.length + 1)), x1, .own (.lst ((consL T ds.length (found, m)).1.map .str)), s3', s4'] (mkS S tk (consL T ds.length (found, m)).2) ∧ (consL T ds.length (found, m)).1.length = found.length + ds.length ∧ (consL T ds.length (found, m)).2.block.length = m.block.length + 2 * ds.length
  | [], found, m, s3, s4, _, _, _ => ⟨s3, s4, rfl, rfl, rfl⟩
  | d :: ds, found, m, s3, s4, h1, h2, h3 => by
    rw [List.length_cons] at h2 h3
    generalize hp : fresh T m = p
    have bp : p.2.block = m.block := by rw [← hp]; rfl
    have e1 := fresh_ok (S := S) (m := m) t g
    rw [hp] at e1
    have a1 := at_neg (xs := found) h1
    have e2 := put_ok (S := S) (tk := tk) (m := p.2) (.deed (.copy p.1 (found.getD (found.length - 1) ""))) (by rw [bp]; omega)
    have e3 := put_ok (S := S) (tk := tk) (m := put (.deed (.copy p.1 (found.getD (found.length - 1) ""))) p.2) (.deed (.more p.1)) (by rw [put_block, bp]; omega)
    rw [st_copy] at e2
    rw [st_more] at e3
    have e4 := app_str (xs := found) (y := p.1) (by omega)
    obtain ⟨s3', s4', ih, l1, l2⟩ := cons_loop t g ds (found ++ [p.1]) (put (.deed (.more p.1)) (put (.deed (.copy p.1 (found.getD (found.length - 1) ""))) p.2)) (.val d) (.val (.str p.1)) (x1 := x1) (by rw [List.length_append, List.length_singleton]; omega) (by rw [put_block, put_block, bp]; omega) (by rw [List.length_append, List.length_singleton]; omega)
    have eq : consL T (d :: ds).length (found, m) = consL T ds.length (found ++ [p.1], put (.deed (.more p.1)) (put (.deed (.copy p.1 (found.getD (found.length - 1) ""))) p.2)) := by
      rw [← hp]
      rfl
    refine ⟨s3', s4', ?_, by rw [eq, l1, List.length_append, List.length_singleton, List.length_cons]; omega, by rw [eq, l2, put_block, put_block, bp, List.length_cons]; omega⟩
    rw [forL_cons (ρ' := [.val (.ptr (S.length + 1)), x1, .own (.lst (found.map .str)), .val d, s4]) rfl]
    have st : L0_Maker_constants [.val (.ptr (S.length + 1)), x1, .own (.lst (found.map .str)), .val d, s4] (mkS S tk m) = .nx [.val (.ptr (S.length + 1)), x1, .own (.lst ((found ++ [p.1]).map .str)), .val d, .val (.str p.1)] (mkS S tk (put (.deed (.more p.1)) (put (.deed (.copy p.1 (found.getD (found.length - 1) ""))) p.2))) := by
      unfold L0_Maker_constants
      simp? [M_fresh, M_put, e1, a1, e2, e3, e4]
    rw [st, lnx, ih, eq]
theorem constants_ok {m : Mk} (t : Tk tk T) (g : Good T) {most : Nat} (h : m.block.length + 2 * most ≤ 16777216) (hm : most ≤ 1000000) :
    d_Maker_constants [.ptr (S.length + 1), nD most] (mkS S tk m) = .ok (.lst ((constants T most m).1.map .str), mkS S tk (constants T most m).2) ∧ (constants T most m).1.length = most + 1 ∧ (constants T most m).2.block.length = m.block.length + 2 * most := by
  have e1 := fresh_ok (S := S) (m := m) t g
  obtain ⟨s3, s4, e2, l2, b2⟩ := cons_loop (S := S) t g (x1 := .val (nD most)) ((List.range most).map fun i => D.int (i : Nat)) [(fresh T m).1] (fresh T m).2 .no .no (show 0 < 1 from by decide) (by rw [List.length_map, List.length_range]; exact h) (by rw [List.length_map, List.length_range]; show 1 + _ ≤ _; omega)
  rw [List.length_map, List.length_range] at e2 l2 b2
  refine ⟨?_, by unfold constants; rw [l2]; show 1 + _ = _; omega, by unfold constants; rw [b2]; rfl⟩
  unfold d_Maker_constants b_Maker_constants
  rw [runD_a (n := 2) rfl]
  have r := rng1 most (by omega)
  have e2 : forL (gN 3) L0_Maker_constants ((List.range most).map fun i => D.int (i : Nat)) [.val (.ptr (S.length + 1)), .val (nD most), .own (.lst [.str (fresh T m).1]), .no, .no] (mkS S tk (fresh T m).2) = _ := e2
  simp? [M_fresh, e1, r, e2]
  rfl
theorem add_loop {f x : Str} {x1 x2 x3 : Slot} : ∀ (ks : List Str) (m : Mk) (s6 : Slot), m.block.length + ks.length ≤ 16777216 →
    ∃ s6', forL (gN 6) L0_Maker_add_steps (ks.map D.str) [.val (.ptr (S.length + 1)), x1, x2, x3, .val (.str x), .val (.str f), s6] (mkS S tk m) =
      .nx [.val (.ptr (S.length + 1)), x1, x2, x3, .val (.str x), .val (.str f), s6'] (mkS S tk (ks.foldl (fun m k => cif k f x m) m)) ∧ (ks.foldl (fun m k => cif k f x m) m).block.length = m.block.length + ks.length
  | [], m, s6, _ => ⟨s6, rfl, rfl⟩
  | k :: ks, m, s6, h => by
    rw [List.length_cons] at h
    have e2 := cif_ok (S := S) (tk := tk) (m := m) k f x (by omega)
    have cb : (cif k f x m).block.length = m.block.length + 1 := put_block _
    obtain ⟨s6', ih, l⟩ := add_loop ks (cif k f x m) (.val (.str k)) (f := f) (x := x) (x1 := x1) (x2 := x2) (x3 := x3) (by omega)
    refine ⟨s6', ?_, by rw [List.foldl_cons, l, cb, List.length_cons]; omega⟩
    rw [List.map_cons, forL_cons (ρ' := [.val (.ptr (S.length + 1)), x1, x2, x3, .val (.str x), .val (.str f), .val (.str k)]) rfl]
    have st : L0_Maker_add_steps [.val (.ptr (S.length + 1)), x1, x2, x3, .val (.str x), .val (.str f), .val (.str k)] (mkS S tk m) = .nx [.val (.ptr (S.length + 1)), x1, x2, x3, .val (.str x), .val (.str f), .val (.str k)] (mkS S tk (cif k f x m)) := by
      unfold L0_Maker_add_steps
      simp? [M_cif, e2]
    rw [st, lnx, ih, List.foldl_cons]
theorem tmul_more (x : Str) {k : Nat} (h : 1 ≤ k) (h2 : k ≤ 1000) : tmulD (.tup [.tup [.str "more", .str x]]) (nD k) = some (.tup ((List.replicate k (Dd.more x)).map ddD)) := by
  show (if [D.tup [.str "more", .str x]] ≠ [] ∧ (1 : Int) ≤ (k : Nat) ∧ ((k : Nat) : Int) ≤ 1000 ∧ [D.tup [.str "more", .str x]].length ≤ 1000 then some (D.tup (List.replicate ((k : Nat) : Int).toNat [D.tup [.str "more", .str x]]).flatten) else none) = _
  rw [if_pos ⟨by simp, by omega, by omega, by simp⟩, Int.toNat_natCast]
  congr 2
  induction k with
  | zero => rfl
  | succ n ih =>
    by_cases h0 : n = 0
    · subst h0; rfl
    · rw [List.replicate_succ, List.flatten_cons, ih (by omega) (by omega), List.replicate_succ, List.map_cons]
      rfl
theorem add_steps_ok {m : Mk} (t : Tk tk T) (g : Good T) (found name : Str) (ks : List Str) {step : Nat} (h1 : 1 ≤ step) (h2 : step ≤ 1000) (h : m.block.length + ks.length + 1 ≤ 16777216) :
    d_Maker_add_steps [.ptr (S.length + 1), .str found, .lst (ks.map D.str), nD step, .str name] (mkS S tk m) = .ok (.non, mkS S tk (addSteps T found ks step name m)) ∧ (addSteps T found ks step name m).block.length = m.block.length + ks.length + 1 := by
  generalize hp : fresh T m = p
  have bp : p.2.block = m.block := by rw [← hp]; rfl
  have e1 := fresh_ok (S := S) (m := m) t g
  rw [hp] at e1
  obtain ⟨s6, e2, b2⟩ := add_loop (S := S) (tk := tk) (f := p.1) (x := name) (x1 := .val (.str found)) (x2 := .val (.lst (ks.map D.str))) (x3 := .val (nD step)) ks p.2 .no (by rw [bp]; omega)
  generalize hq : ks.foldl (fun m k => cif k p.1 name m) p.2 = q at e2 b2
  have e3 := put_ok (S := S) (tk := tk) (m := q) (.round p.1 (List.replicate step (.more found))) (by rw [b2, bp]; omega)
  rw [st_round] at e3
  have tm := tmul_more found h1 h2
  have eq : addSteps T found ks step name m = put (.round p.1 (List.replicate step (.more found))) q := by
    unfold addSteps
    dsimp only
    rw [hp, hq]
  rw [eq]
  refine ⟨?_, by rw [put_block, b2, bp]⟩
  unfold d_Maker_add_steps b_Maker_add_steps
  rw [runD_a (n := 5) rfl]
  simp? [M_fresh, M_put, e1, e2, tm, e3]
end
end LW
end

section
set_option linter.all false
set_option maxRecDepth 100000
namespace LW
open PySem L2 GG
local macro_rules
  | `(tactic| simp? [$a,*] $[$l:location]?) => `(tactic| simp only [eC_a, eV_a, hE_a, hV_a, eH_a, eHB_a, eBin_a, eUn_a, eAnd_a, eOr_a, eNot_a, eIf_a, eCmp_a, eChain_a, aN_a, aC_a, eTup_a, eLst_a, eCall_a, eB_a, eFz_a, eAl_a, mLst_a, mLc_a, mLc2_a, mMk_a, mDic0_a, mList_a, eMeth_a, eIsi1_a, eIsi_a, eInH_a, eSl_a, oX_none, oX_some, bV_a, bT_a, bAnd_a, bOr_a, bNot_a, bTrue_a, iS_a, iEn_a, iZ_a, iR1_a, iR2_a, iR3_a, sSeq_a, sNil_a, sExpr_a, sRet_a, sRetN_a, sIf_a, sBrk_a, sCnt_a, sSet_a, sOwn_a, sFz_a, sFor_a, sMt_a, sFld_a, sAsg_a, sRaise_a, sTry_a, sMethO_a, endD_rt, endD_nx, endD_ex, bok, bex, oso, sok, sxc, cok, qnx, qrt, qbk, qct, qex, lnx, lct, lbk, lrt, lxc, oss, okk, obs, oms, add_i, sub_i, neg_i, lt_i, le_i, gt_i, ge_i, len_l, len_t, len_f, len_d, idx_l, idx_t, idx_f, walk_l, walk_t, walk_f, seq_l, seq_t, tuple_l, tuple_t, int_i, atI_0, atI_1, atI_2, dr_n, dr_b, dr_i, dr_s, dr_l, dr_t, dr_k, dr_f, dr_d, dr_o, dr_p, dr_w, now_l, now_d, now_o, frz_l, frz_d, frz_o, isL_l, frzAt, cu_p, cu_w, pu_p, pu_w, startD, startO, List.map_cons, List.map_nil, List.replicate, List.cons_append, List.nil_append, List.length_cons, List.length_nil, Nat.zero_add, Nat.reduceAdd, List.getElem?_cons_zero, List.getElem?_cons_succ, List.set_cons_zero, List.set_cons_succ, if_true, if_false, reduceIte, Bool.false_eq_true, bD_b, tru_n, tru_b, tru_l, tru_t, gN_a, gT_t, gAll_n, gAll_c, wipeD, ite_and, ite_or, ite_andB, ite_orB, szOk_0, szOk_1, szOk_2, szOk_3, szOk_4, Bool.not_true, Bool.not_false, Bool.true_and, Bool.and_true, Bool.false_and, Bool.and_false, Bool.true_or, Bool.or_true, Bool.false_or, Bool.or_false, decide_true, decide_false, tT, tAll, tN, tI, setI, $a,*] $[$l:location]?)
section
variable {S : Store} {tk : D} {T : List Str}
theorem M_add {m : Mk} : methAt "add_steps" mt_add_steps (mkS S tk m) (.ptr (S.length + 1)) = some d_Maker_add_steps := mk_meth rfl rfl
theorem insU_len (a : Int) : ∀ xs, (insU a xs).length ≤ xs.length + 1
  | [] => by simp [insU]
  | b :: r => by
    unfold insU
    have := insU_len a r
    split
    · simp
    · split
      · simp
      · rw [List.length_cons, List.length_cons]; omega
theorem srtU_len : ∀ xs : List Int, (srtU xs).length ≤ xs.length
  | [] => by simp [srtU]
  | a :: xs => by
    have h1 := srtU_len xs
    have h2 := insU_len a (srtU xs)
    show (insU a (srtU xs)).length ≤ _
    rw [List.length_cons]
    omega
theorem srtU_mem (k : Int) : ∀ xs : List Int, k ∈ srtU xs ↔ k ∈ xs
  | [] => by simp [srtU]
  | a :: xs => by
    show k ∈ insU a (srtU xs) ↔ _
    rw [insU_mem, srtU_mem k xs, List.mem_cons]
theorem dr_form {ρ : LEnv} {f : Form} : deref ρ S (.d (formD f)) = some (formD f) := rfl
theorem dr_tuN {ρ : LEnv} {S : Store} {f : List Nat} : deref ρ S (.d (tuN f)) = some (tuN f) := rfl
theorem dr_form' {ρ : LEnv} {S : Store} {f : Form} : deref ρ S (.d (formD f)) = some (formD f) := rfl
theorem ix_f0 (f : Form) : idxD (formD f) (.int 0) = some (nD f.1) := atI_0 _ _
theorem ix_f1 (f : Form) : idxD (formD f) (.int 1) = some (tuN f.2) := atI_1 _ _ _
theorem ix_tuN {ns : List Nat} {k : Nat} (h : k < ns.length) : idxD (tuN ns) (.int (k : Nat)) = some (nD (ns.getD k 0)) := at_nD h
def pairD (q : Str × Form) : D := .tup [.str q.1, formD q.2]
theorem resF_loop {found : Str} {cs : List Str} {x1 x2 x4 s8 s9 s10 : Slot} : ∀ (qs : List (Str × Form)) (m : Mk) (s6 s7 : Slot), (∀ q ∈ qs, q.2.1 < cs.length) → m.block.length + qs.length ≤ 16777216 →
    ∃ s6' s7', forL (gT [gN 6, gN 7]) L0_Maker_result (qs.map pairD) [.val (.ptr (S.length + 1)), x1, x2, .val (.lst (cs.map .str)), x4, .val (.str found), s6, s7, s8, s9, s10] (mkS S tk m) =
      .nx [.val (.ptr (S.length + 1)), x1, x2, .val (.lst (cs.map .str)), x4, .val (.str found), s6', s7', s8, s9, s10] (mkS S tk (resF found cs qs m)) ∧ (resF found cs qs m).block.length = m.block.length + qs.length
  | [], m, s6, s7, _, _ => ⟨s6, s7, rfl, rfl⟩
  | q :: qs, m, s6, s7, h1, h => by
    rw [List.length_cons] at h
    have a := at_str (xs := cs) (k := q.2.1) (h1 q List.mem_cons_self)
    have e2 := cif_ok (S := S) (tk := tk) (m := m) q.1 found (cs.getD q.2.1 "") (by omega)
    have cb : (cif q.1 found (cs.getD q.2.1 "") m).block.length = m.block.length + 1 := put_block _
    obtain ⟨s6', s7', ih, l⟩ := resF_loop (found := found) (cs := cs) (x1 := x1) (x2 := x2) (x4 := x4) (s8 := s8) (s9 := s9) (s10 := s10) qs (cif q.1 found (cs.getD q.2.1 "") m) (.val (.str q.1)) (.val (formD q.2)) (fun q hq => h1 q (.tail _ hq)) (by omega)
    have eq : resF found cs (q :: qs) m = resF found cs qs (cif q.1 found (cs.getD q.2.1 "") m) := rfl
    refine ⟨s6', s7', ?_, by rw [eq, l, cb, List.length_cons]; omega⟩
    rw [List.map_cons, forL_cons (ρ' := [.val (.ptr (S.length + 1)), x1, x2, .val (.lst (cs.map .str)), x4, .val (.str found), .val (.str q.1), .val (formD q.2), s8, s9, s10]) rfl]
    have st : L0_Maker_result [.val (.ptr (S.length + 1)), x1, x2, .val (.lst (cs.map .str)), x4, .val (.str found), .val (.str q.1), .val (formD q.2), s8, s9, s10] (mkS S tk m) = .nx [.val (.ptr (S.length + 1)), x1, x2, .val (.lst (cs.map .str)), x4, .val (.str found), .val (.str q.1), .val (formD q.2), s8, s9, s10] (mkS S tk (cif q.1 found (cs.getD q.2.1 "") m)) := by
      unfold L0_Maker_result
      simp? [M_cif, dr_form', ix_f0, a, e2]
    rw [st, lnx, ih, eq]
theorem zip_pair : ∀ (cells : List Str) (forms : List Form), ((cells.map D.str).zip (forms.map formD)).map (fun q => D.tup [q.1, q.2]) = (cells.zip forms).map pairD
  | [], _ => rfl
  | _ :: _, [] => rfl
  | c :: cs, f :: fs => by
    rw [List.map_cons, List.map_cons, List.zip_cons_cons, List.map_cons, zip_pair cs fs]
    rfl
/-- the flags of the cells of one step -/
theorem flags_l {cells : List Str} {forms : List Form} {k : Nat} {st : Int} {x0 x3 x4 x5 x9 s6 s7 : Slot} {S' : Store} (hf : ∀ f ∈ forms, k < f.2.length) :
    lcL (gT [gN 6, gN 7]) (bV (eCmp eqD (eHB (hE (eHB (hV 7) (eC (D.int 1)) idxD)) (eV 8) idxD) (eV 10))) (eV 6) ((cells.zip forms).map pairD) [x0, .val (.lst (cells.map .str)), .val (.lst (forms.map formD)), x3, x4, x5, s6, s7, .val (.int (k : Nat)), x9, .val (.int st)] S' =
      .ok ((((cells.zip forms).filter fun q => decide (((q.2.2.getD k 0 : Nat) : Int) = st)).map (·.1)).map D.str, S') := by
  rw [List.map_map]
  refine lcL_if fun q hq => ⟨[x0, .val (.lst (cells.map .str)), .val (.lst (forms.map formD)), x3, x4, x5, .val (.str q.1), .val (formD q.2), .val (.int (k : Nat)), x9, .val (.int st)], rfl, ?_, fun _ => ?_⟩
  · have i := ix_tuN (ns := q.2.2) (k := k) (hf q.2 (List.of_mem_zip hq).2)
    simp? [dr_form', ix_f1, dr_tuN, i, eqD_i]
  · simp? []
    rfl
theorem resS_loop (t : Tk tk T) (g : Good T) {found name : Str} {cells : List Str} {forms : List Form} {k : Nat} {x3 x4 s6 s7 : Slot} (hf : ∀ f ∈ forms, k < f.2.length) : ∀ (sts : List Int) (m : Mk) (s10 : Slot), (∀ s ∈ sts, 1 ≤ s ∧ s ≤ 1000) → m.block.length + sts.length * (cells.length + 1) ≤ 16777216 →
    ∃ s10', forL (gN 10) L1_Maker_result (sts.map D.int) [.val (.ptr (S.length + 1)), .val (.lst (cells.map .str)), .val (.lst (forms.map formD)), x3, x4, .val (.str found), s6, s7, .val (.int (k : Nat)), .val (.str name), s10] (mkS S tk m) =
      .nx [.val (.ptr (S.length + 1)), .val (.lst (cells.map .str)), .val (.lst (forms.map formD)), x3, x4, .val (.str found), s6, s7, .val (.int (k : Nat)), .val (.str name), s10'] (mkS S tk (resS T found cells forms k name sts m)) ∧ (resS T found cells forms k name sts m).block.length ≤ m.block.length + sts.length * (cells.length + 1)
  | [], m, s10, _, _ => ⟨s10, rfl, Nat.le_add_right m.block.length _⟩
  | st :: sts, m, s10, h1, h => by
    rw [List.length_cons, Nat.succ_mul] at h
    obtain ⟨p1, p2⟩ := h1 st List.mem_cons_self
    generalize hk : ((cells.zip forms).filter fun q => decide (((q.2.2.getD k 0 : Nat) : Int) = st)).map (·.1) = ks
    have lk : ks.length ≤ cells.length := by
      rw [← hk, List.length_map]
      exact Nat.le_trans (List.length_filter_le _ _) (by rw [List.length_zip]; exact Nat.min_le_left _ _)
    have fl := fun S' => flags_l (S' := S') (cells := cells) (forms := forms) (k := k) (st := st) (x0 := .val (.ptr (S.length + 1))) (x3 := x3) (x4 := x4) (x5 := .val (.str found)) (x9 := .val (.str name)) (s6 := .no) (s7 := .no) hf
    rw [hk] at fl
    obtain ⟨e2, b2⟩ := add_steps_ok (S := S) (m := m) t g found name ks (step := st.toNat) (by omega) (by omega) (by omega)
    have hst : (nD st.toNat) = .int st := by show D.int _ = _; rw [Int.toNat_of_nonneg (by omega)]
    rw [hst] at e2
    generalize hq : addSteps T found ks st.toNat name m = q at e2 b2
    obtain ⟨s10', ih, l⟩ := resS_loop t g (found := found) (name := name) (cells := cells) (x3 := x3) (x4 := x4) (s6 := s6) (s7 := s7) hf sts q (.val (.int st)) (fun s hs => h1 s (.tail _ hs)) (by omega)
    have eq : resS T found cells forms k name (st :: sts) m = resS T found cells forms k name sts q := by
      rw [← hq, ← hk]
      rfl
    refine ⟨s10', ?_, by rw [eq, List.length_cons, Nat.succ_mul]; omega⟩
    rw [List.map_cons, forL_cons (ρ' := [.val (.ptr (S.length + 1)), .val (.lst (cells.map .str)), .val (.lst (forms.map formD)), x3, x4, .val (.str found), s6, s7, .val (.int (k : Nat)), .val (.str name), .val (.int st)]) rfl]
    have stp : L1_Maker_result [.val (.ptr (S.length + 1)), .val (.lst (cells.map .str)), .val (.lst (forms.map formD)), x3, x4, .val (.str found), s6, s7, .val (.int (k : Nat)), .val (.str name), .val (.int st)] (mkS S tk m) =
        .nx [.val (.ptr (S.length + 1)), .val (.lst (cells.map .str)), .val (.lst (forms.map formD)), x3, x4, .val (.str found), s6, s7, .val (.int (k : Nat)), .val (.str name), .val (.int st)] (mkS S tk q) := by
      unfold L1_Maker_result
      simp? [M_add, zip_pair, fl, e2]
    rw [stp, lnx, ih, eq]
/-- the steps that are there, ascending -/
theorem steps_l {forms : List Form} {k : Nat} {x0 x1 x3 x4 x5 x6 s7 x9 x10 : Slot} {S' : Store} (hf : ∀ f ∈ forms, k < f.2.length) :
    lcL (gN 7) (bV (eCmp gtD (eHB (hE (eHB (hV 7) (eC (D.int 1)) idxD)) (eV 8) idxD) (eC (D.int 0)))) (eHB (hE (eHB (hV 7) (eC (D.int 1)) idxD)) (eV 8) idxD) (forms.map formD) [x0, x1, .val (.lst (forms.map formD)), x3, x4, x5, x6, s7, .val (.int (k : Nat)), x9, x10] S' =
      .ok ((forms.filter fun f => decide (0 < f.2.getD k 0)).map fun f => nD (f.2.getD k 0), S') := by
  refine lcL_if fun f hq => ⟨[x0, x1, .val (.lst (forms.map formD)), x3, x4, x5, x6, .val (formD f), .val (.int (k : Nat)), x9, x10], rfl, ?_, fun _ => ?_⟩
  · have i := ix_tuN (ns := f.2) (k := k) (hf f hq)
    simp? [dr_form', ix_f1, dr_tuN, i]
    congr 2
    exact decide_eq_decide.mpr (by omega)
  · have i := ix_tuN (ns := f.2) (k := k) (hf f hq)
    simp? [dr_form', ix_f1, dr_tuN, i]
theorem intsD_map (xs : List Int) : intsD (xs.map D.int) = some xs := by
  induction xs with
  | nil => rfl
  | cons x xs ih =>
    rw [List.map_cons]
    unfold intsD
    rw [ih]
    rfl
theorem mSrtSet_a {h : HX} {ρ : LEnv} {S : Store} : mSrtSet h ρ S = (h ρ S).bind fun p => (Out.opt ((deref ρ p.2 p.1).bind srtsetD)).bind fun xs => .ok (.lst (xs.map D.int), p.2) := nd rfl
theorem srtset_of {xs : List Int} (h : xs.length < 64) : srtsetD (.lst (xs.map D.int)) = some (srtU xs) := by
  show (intsD (xs.map D.int)).bind _ = _
  rw [intsD_map, Option.bind_some, if_pos h]
theorem resK_loop (t : Tk tk T) (g : Good T) {found : Str} {cells : List Str} {forms : List Form} {x3 x4 s6 s7 : Slot} (hn : forms.length < 64) (hs : ∀ f ∈ forms, ∀ s ∈ f.2, s ≤ 1000) : ∀ (qs : List (Str × Nat)) (m : Mk) (s8 s9 s10 : Slot), (∀ q ∈ qs, ∀ f ∈ forms, q.2 < f.2.length) → m.block.length + qs.length * (64 * (cells.length + 1)) ≤ 16777216 →
    ∃ s8' s9' s10', forL (gT [gN 8, gN 9]) L2_Maker_result (qs.map fun q => .tup [nD q.2, .str q.1]) [.val (.ptr (S.length + 1)), .val (.lst (cells.map .str)), .val (.lst (forms.map formD)), x3, x4, .val (.str found), s6, s7, s8, s9, s10] (mkS S tk m) =
      .nx [.val (.ptr (S.length + 1)), .val (.lst (cells.map .str)), .val (.lst (forms.map formD)), x3, x4, .val (.str found), s6, s7, s8', s9', s10'] (mkS S tk (resK T found cells forms qs m)) ∧ (resK T found cells forms qs m).block.length ≤ m.block.length + qs.length * (64 * (cells.length + 1))
  | [], m, s8, s9, s10, _, _ => ⟨s8, s9, s10, rfl, Nat.le_add_right m.block.length _⟩
  | q :: qs, m, s8, s9, s10, hf, h => by
    rw [List.length_cons, Nat.succ_mul] at h
    have hf0 := hf q List.mem_cons_self
    have sl := fun S' => steps_l (S' := S') (forms := forms) (k := q.2) (x0 := .val (.ptr (S.length + 1))) (x1 := .val (.lst (cells.map .str))) (x3 := x3) (x4 := x4) (x5 := .val (.str found)) (x6 := s6) (s7 := .no) (x9 := .val (.str q.1)) (x10 := s10) hf0
    have e0 : ((forms.filter fun f => decide (0 < f.2.getD q.2 0)).map fun f => nD (f.2.getD q.2 0)) = ((forms.filter fun f => decide (0 < f.2.getD q.2 0)).map fun f => ((f.2.getD q.2 0 : Nat) : Int)).map D.int := by
      rw [List.map_map]
      rfl
    rw [e0] at sl
    have l0 : ((forms.filter fun f => decide (0 < f.2.getD q.2 0)).map fun f => ((f.2.getD q.2 0 : Nat) : Int)).length < 64 := by
      rw [List.length_map]
      exact Nat.lt_of_le_of_lt (List.length_filter_le _ _) hn
    have ss := srtset_of l0
    have l1 := srtU_len ((forms.filter fun f => decide (0 < f.2.getD q.2 0)).map fun f => ((f.2.getD q.2 0 : Nat) : Int))
    have hm : ∀ s ∈ stepsOf forms q.2, 1 ≤ s ∧ s ≤ 1000 := fun s hs' => by
      unfold stepsOf at hs'
      rw [srtU_mem, List.mem_map] at hs'
      obtain ⟨f, h1, rfl⟩ := hs'
      rw [List.mem_filter] at h1
      have h2 := of_decide_eq_true h1.2
      have h3 : f.2.getD q.2 0 ∈ f.2 := by
        rw [List.getD_eq_getElem?_getD, List.getElem?_eq_getElem (hf0 f h1.1)]
        exact List.getElem_mem _
      have h4 := hs f h1.1 _ h3
      omega
    have lst : (stepsOf forms q.2).length ≤ 63 := by unfold stepsOf; omega
    have lm : (stepsOf forms q.2).length * (cells.length + 1) ≤ 64 * (cells.length + 1) := Nat.mul_le_mul_right _ (by omega)
    obtain ⟨s10', e2, b2⟩ := resS_loop (S := S) t g (found := found) (name := q.1) (cells := cells) (x3 := x3) (x4 := x4) (s6 := s6) (s7 := s7) hf0 (stepsOf forms q.2) m s10 hm (by omega)
    generalize hr : resS T found cells forms q.2 q.1 (stepsOf forms q.2) m = r at e2 b2
    obtain ⟨s8', s9', s10'', ih, l⟩ := resK_loop t g (found := found) (cells := cells) (x3 := x3) (x4 := x4) (s6 := s6) (s7 := s7) hn hs qs r (.val (.int (q.2 : Nat))) (.val (.str q.1)) s10' (fun q hq => hf q (.tail _ hq)) (by omega)
    have eq : resK T found cells forms (q :: qs) m = resK T found cells forms qs r := by rw [← hr]; rfl
    refine ⟨s8', s9', s10'', ?_, by rw [eq, List.length_cons, Nat.succ_mul]; omega⟩
    rw [List.map_cons, forL_cons (ρ' := [.val (.ptr (S.length + 1)), .val (.lst (cells.map .str)), .val (.lst (forms.map formD)), x3, x4, .val (.str found), s6, s7, .val (.int (q.2 : Nat)), .val (.str q.1), s10]) rfl]
    have stp : L2_Maker_result [.val (.ptr (S.length + 1)), .val (.lst (cells.map .str)), .val (.lst (forms.map formD)), x3, x4, .val (.str found), s6, s7, .val (.int (q.2 : Nat)), .val (.str q.1), s10] (mkS S tk m) =
        .nx [.val (.ptr (S.length + 1)), .val (.lst (cells.map .str)), .val (.lst (forms.map formD)), x3, x4, .val (.str found), s6, s7, .val (.int (q.2 : Nat)), .val (.str q.1), s10'] (mkS S tk r) := by
      unfold L2_Maker_result
      unfold stepsOf at e2
      simp? [mSrtSet_a, sl, ss, e2]
    rw [stp, lnx, ih, eq]
theorem zipIdx_str (times : List Str) : (((times.map D.str).zipIdx).map fun q => D.tup [.int (q.2 : Nat), q.1]) = times.zipIdx.map fun q => .tup [nD q.2, .str q.1] := by
  rw [List.zipIdx_map, List.map_map]
  rfl
theorem result_ok {m : Mk} (t : Tk tk T) (g : Good T) {cells : List Str} {forms : List Form} {cs times : List Str} (hl : cells.length = forms.length) (hn : forms.length < 64) (hs : ∀ f ∈ forms, ∀ s ∈ f.2, s ≤ 1000) (hc : ∀ f ∈ forms, f.1 < cs.length) (ht : ∀ f ∈ forms, f.2.length = times.length) (h2 : times.length ≤ 2) (h : m.block.length + 9000 ≤ 16777216) :
    d_Maker_result [.ptr (S.length + 1), .lst (cells.map D.str), .lst (forms.map formD), .lst (cs.map D.str), .lst (times.map D.str)] (mkS S tk m) = .ok (.str (result T cells forms cs times m).1, mkS S tk (result T cells forms cs times m).2) ∧ (result T cells forms cs times m).2.block.length ≤ m.block.length + 9000 := by
  generalize hp : fresh T m = p
  have bp : p.2.block = m.block := by rw [← hp]; rfl
  have e1 := fresh_ok (S := S) (m := m) t g
  rw [hp] at e1
  have zl : (cells.zip forms).length = forms.length := by rw [List.length_zip, hl, Nat.min_self]
  obtain ⟨s6, s7, e2, b2⟩ := resF_loop (S := S) (tk := tk) (found := p.1) (cs := cs) (x1 := .val (.lst (cells.map .str))) (x2 := .val (.lst (forms.map formD))) (x4 := .val (.lst (times.map .str))) (s8 := .no) (s9 := .no) (s10 := .no) (cells.zip forms) p.2 .no .no (fun q hq => hc q.2 (List.of_mem_zip hq).2) (by rw [bp, zl]; omega)
  generalize hq : resF p.1 cs (cells.zip forms) p.2 = q at e2 b2
  have tl : times.zipIdx.length = times.length := List.length_zipIdx
  have ml : times.length * (64 * (cells.length + 1)) ≤ 2 * (64 * 64) := Nat.mul_le_mul h2 (Nat.mul_le_mul_left _ (by omega))
  obtain ⟨s8, s9, s10, e3, b3⟩ := resK_loop (S := S) t g (found := p.1) (cells := cells) (forms := forms) (x3 := .val (.lst (cs.map .str))) (x4 := .val (.lst (times.map .str))) (s6 := s6) (s7 := s7) hn hs times.zipIdx q .no .no .no (fun q hq f hf => by
    have := List.snd_lt_of_mem_zipIdx hq
    rw [ht f hf]
    omega) (by rw [tl, b2, bp, zl]; omega)
  have eq : result T cells forms cs times m = (p.1, resK T p.1 cells forms times.zipIdx q) := by
    unfold result
    dsimp only
    rw [hp, hq]
  rw [eq]
  refine ⟨?_, by
    have b2' : q.block.length = m.block.length + forms.length := by rw [b2, bp, zl]
    rw [tl] at b3
    show (resK T p.1 cells forms times.zipIdx q).block.length ≤ _
    omega⟩
  unfold d_Maker_result b_Maker_result
  rw [runD_a (n := 5) rfl]
  simp? [M_fresh, e1, zip_pair, e2, zipIdx_str, e3]
end
end LW
end

section
set_option linter.all false
set_option maxRecDepth 100000
namespace LW
open PySem L2 GG
local macro_rules
  | `(tactic| simp? [$a,*] $[$l:location]?) => `(tactic| simp only [eC_a, eV_a, hE_a, hV_a, eH_a, eHB_a, eBin_a, eUn_a, eAnd_a, eOr_a, eNot_a, eIf_a, eCmp_a, eChain_a, aN_a, aC_a, eTup_a, eLst_a, eCall_a, eB_a, eFz_a, eAl_a, mLst_a, mLc_a, mLc2_a, mMk_a, mDic0_a, mList_a, eMeth_a, eIsi1_a, eIsi_a, eInH_a, eSl_a, oX_none, oX_some, bV_a, bT_a, bAnd_a, bOr_a, bNot_a, bTrue_a, iS_a, iEn_a, iZ_a, iR1_a, iR2_a, iR3_a, sSeq_a, sNil_a, sExpr_a, sRet_a, sRetN_a, sIf_a, sBrk_a, sCnt_a, sSet_a, sOwn_a, sFz_a, sFor_a, sMt_a, sFld_a, sAsg_a, sRaise_a, sTry_a, sMethO_a, endD_rt, endD_nx, endD_ex, bok, bex, oso, sok, sxc, cok, qnx, qrt, qbk, qct, qex, lnx, lct, lbk, lrt, lxc, oss, okk, obs, oms, add_i, sub_i, neg_i, lt_i, le_i, gt_i, ge_i, len_l, len_t, len_f, len_d, idx_l, idx_t, idx_f, walk_l, walk_t, walk_f, seq_l, seq_t, tuple_l, tuple_t, int_i, atI_0, atI_1, atI_2, dr_n, dr_b, dr_i, dr_s, dr_l, dr_t, dr_k, dr_f, dr_d, dr_o, dr_p, dr_w, now_l, now_d, now_o, frz_l, frz_d, frz_o, isL_l, frzAt, cu_p, cu_w, pu_p, pu_w, startD, startO, List.map_cons, List.map_nil, List.replicate, List.cons_append, List.nil_append, List.length_cons, List.length_nil, Nat.zero_add, Nat.reduceAdd, List.getElem?_cons_zero, List.getElem?_cons_succ, List.set_cons_zero, List.set_cons_succ, if_true, if_false, reduceIte, Bool.false_eq_true, bD_b, tru_n, tru_b, tru_l, tru_t, gN_a, gT_t, gAll_n, gAll_c, wipeD, ite_and, ite_or, ite_andB, ite_orB, szOk_0, szOk_1, szOk_2, szOk_3, szOk_4, Bool.not_true, Bool.not_false, Bool.true_and, Bool.and_true, Bool.false_and, Bool.and_false, Bool.true_or, Bool.or_true, Bool.false_or, Bool.or_false, decide_true, decide_false, tT, tAll, tN, tI, setI, $a,*] $[$l:location]?)
/-! ### program_for -/
section
variable {S : Store} {tk : D} {T : List Str}
theorem putP_len (ks : List (L2.Key × D)) (k : L2.Key) (d : D) : (putP ks k d).length ≤ ks.length + 1 := by
  unfold putP
  split
  · rw [List.length_map]; omega
  · rw [List.length_append, List.length_singleton]; omega
theorem putP_keys (ks : List (L2.Key × D)) (k : L2.Key) (d : D) (x : L2.Key) : x ∈ (putP ks k d).map (·.1) ↔ x ∈ ks.map (·.1) ∨ x = k := by
  unfold putP
  split
  · rename_i h
    rw [List.any_eq_true] at h
    obtain ⟨p, hp, e⟩ := h
    have e := of_decide_eq_true e
    have : (ks.map fun p => if p.1 = k then (p.1, d) else p).map (·.1) = ks.map (·.1) := by
      rw [List.map_map]
      refine List.map_congr_left fun q _ => ?_
      show (if q.1 = k then (q.1, d) else q).1 = q.1
      split <;> rfl
    rw [this]
    constructor
    · exact .inl
    · rintro (h | rfl)
      · exact h
      · rw [← e]; exact List.mem_map_of_mem hp
  · rw [List.map_append, List.mem_append]
    show _ ∨ x ∈ [k] ↔ _
    rw [List.mem_singleton]
def dkL (d : D) (xs : List Str) (acc : List (L2.Key × D)) : List (L2.Key × D) := xs.foldl (fun a x => putP a (.inr x) d) acc
theorem dkL_len (d : D) : ∀ (xs : List Str) (acc : List (L2.Key × D)), (dkL d xs acc).length ≤ acc.length + xs.length
  | [], _ => Nat.le_refl _
  | x :: xs, acc => by
    have h1 := dkL_len d xs (putP acc (.inr x) d)
    have h2 := putP_len acc (.inr x) d
    show (dkL d xs (putP acc (.inr x) d)).length ≤ _
    rw [List.length_cons]
    omega
theorem dkL_keys (d : D) : ∀ (xs : List Str) (acc : List (L2.Key × D)) (k : L2.Key), k ∈ (dkL d xs acc).map (·.1) ↔ k ∈ acc.map (·.1) ∨ ∃ x ∈ xs, k = .inr x
  | [], acc, k => by simp [dkL]
  | x :: xs, acc, k => by
    show k ∈ (dkL d xs (putP acc (.inr x) d)).map (·.1) ↔ _
    rw [dkL_keys d xs, putP_keys]
    constructor
    · rintro ((h | h) | ⟨y, h, e⟩)
      · exact .inl h
      · exact .inr ⟨x, List.mem_cons_self, h⟩
      · exact .inr ⟨y, .tail _ h, e⟩
    · rintro (h | ⟨y, h, e⟩)
      · exact .inl (.inl h)
      · rcases List.mem_cons.mp h with rfl | h
        · exact .inl (.inr e)
        · exact .inr ⟨y, h, e⟩
theorem dcL_cons {ρ ρ' : LEnv} {S : Store} {n : NX} {t : BX} {k e : EX} {d : D} {ds : List D} {acc : List (L2.Key × D)} (h : n d ρ = some ρ') : dcL n t k e (d :: ds) acc ρ S = (t ρ' S).calm.bind fun b => if b.1 then (k ρ' b.2).calm.bind fun y => (e ρ' y.2).calm.bind fun z => match keyK y.1 with
        | some q => if acc.length < sizeLine then dcL n t k e ds (putP acc q z.1) ρ z.2 else .stuck
        | none => .stuck
      else dcL n t k e ds acc ρ b.2 := by
  conv => lhs; unfold dcL
  rw [h]
  try rfl
theorem names_d {x0 x1 : Slot} : ∀ (xs : List Str) (acc : List (L2.Key × D)), acc.length + xs.length ≤ 16777216 → dcL (gN 2) bTrue (eV 2) (eC (.bl true)) (xs.map .str) acc [x0, x1, .no] S = .ok (dkL (.bl true) xs acc, S)
  | [], acc, _ => rfl
  | x :: xs, acc, h => by
    rw [List.length_cons] at h
    have h2 := putP_len acc (.inr x) (.bl true)
    rw [List.map_cons, dcL_cons (ρ' := [x0, x1, .val (.str x)]) rfl]
    have ih := names_d (x0 := x0) (x1 := x1) xs (putP acc (.inr x) (.bl true)) (by omega)
    have k : keyK (.str x) = some (.inr x) := rfl
    have l : acc.length < sizeLine := by rw [size_big]; omega
    simp? [k, l, ih]
    rfl
theorem look_some {ks : List KK} {vs : List D} {k : KK} (h : ks.length = vs.length) : (lookD ks vs k).isSome = true ↔ k ∈ ks := by
  unfold lookD
  rw [Option.isSome_map]
  induction ks generalizing vs with
  | nil => simp
  | cons a ks ih =>
    cases vs with
    | nil => simp at h
    | cons v vs =>
      rw [List.zip_cons_cons, List.find?_cons]
      by_cases e : a = k
      · subst e; simp
      · have : decide (a = k) = false := decide_eq_false e
        simp only [this]
        rw [ih (by simpa using h), List.mem_cons]
        constructor
        · exact .inr
        · rintro (h | h)
          · exact absurd h.symm e
          · exact h
theorem mDc_a' {i : IX} {n : NX} {t : BX} {k e : EX} {vs : List Nat} {ρ : LEnv} {S : Store} : mDc i n t k e vs ρ S = (i ρ S).bind fun p => (dcL n t k e p.1 [] (wipeD ρ vs) p.2).bind fun r => .ok (dicP r.1, r.2) := nd rfl
def tkOf (xs : List Str) : D := (dicP (dkL (.bl true) xs [])).frz
theorem tk_of (xs : List Str) : Tk (tkOf xs) xs := by
  refine ⟨⟨((dkL (.bl true) xs []).map (·.1)).map KK.k, (dkL (.bl true) xs []).map (·.2), rfl, ?_, fun x => ?_⟩⟩
  · rw [List.all_eq_true]
    intro k hk
    obtain ⟨q, _, rfl⟩ := List.mem_map.mp hk
    rfl
  · rw [look_some (by rw [List.length_map, List.length_map, List.length_map])]
    rw [List.mem_map]
    constructor
    · rintro ⟨k, h, e⟩
      cases e
      rcases (dkL_keys _ _ _ _).mp h with h | ⟨y, h, e⟩
      · simp at h
      · cases e; exact h
    · intro h
      exact ⟨.inr x, (dkL_keys _ _ _ _).mpr (.inr ⟨x, h, rfl⟩), rfl⟩
theorem maker_init_ok (xs : List Str) (h : xs.length ≤ 1000) : d_Maker___init__ (.ins "Maker" [] []) [.tup (xs.map .str)] S = .ok (.ins "Maker" ["taken", "used", "block"] [tkOf xs, nD 0, .ptr S.length], S ++ [.lst []]) := by
  unfold d_Maker___init__ b_Maker___init__
  rw [runO_a (n := 1) rfl]
  have e := fun x0 => names_d (S := S) (x0 := x0) (x1 := .val (.tup (xs.map .str))) xs [] (by show 0 + _ ≤ _; omega)
  simp? [mDc_a', e]
  rfl
theorem mkS_new (xs : List Str) : S ++ [.lst []] ++ [.ins "Maker" ["taken", "used", "block"] [tkOf xs, nD 0, .ptr S.length]] = mkS S (tkOf xs) ⟨0, []⟩ := by
  unfold mkS
  rw [List.append_assoc]
  rfl
theorem M_parted {m : Mk} : methAt "parted" mt_parted (mkS S tk m) (.ptr (S.length + 1)) = some d_Maker_parted := mk_meth rfl rfl
theorem M_cell {m : Mk} : methAt "cell_flag" mt_cell_flag (mkS S tk m) (.ptr (S.length + 1)) = some d_Maker_cell_flag := mk_meth rfl rfl
theorem M_cons {m : Mk} : methAt "constants" mt_constants (mkS S tk m) (.ptr (S.length + 1)) = some d_Maker_constants := mk_meth rfl rfl
theorem M_result {m : Mk} : methAt "result" mt_result (mkS S tk m) (.ptr (S.length + 1)) = some d_Maker_result := mk_meth rfl rfl
theorem f_b (a b c : D) : fldD "bounds" (.obj "Table" ["bounds", "measures", "rows"] [a, b, c]) = some a := rfl
theorem f_m (a b c : D) : fldD "measures" (.obj "Table" ["bounds", "measures", "rows"] [a, b, c]) = some b := rfl
theorem f_r (a b c : D) : fldD "rows" (.obj "Table" ["bounds", "measures", "rows"] [a, b, c]) = some c := rfl
theorem f_tb (t : Tb) : fldD "bounds" (tbD t) = some (tuN t.b) := rfl
theorem f_tm (t : Tb) : fldD "measures" (tbD t) = some (tuN t.m) := rfl
theorem f_tr (t : Tb) : fldD "rows" (tbD t) = some (rowsD t.rows) := rfl
theorem dr_tb {ρ : LEnv} {S : Store} (t : Tb) : deref ρ S (.d (tbD t)) = some (tbD t) := rfl
theorem dr_rows {ρ : LEnv} {S : Store} (r : List (List Form)) : deref ρ S (.d (rowsD r)) = some (rowsD r) := rfl
theorem dr_row {ρ : LEnv} {S : Store} (r : List Form) : deref ρ S (.d (rowD r)) = some (rowD r) := rfl
theorem many_results_ok {t : Tb} (h : 0 < t.rows.length) (S : Store) : d_many_results [tbD t] S = .ok (nD (t.rows.getD 0 []).length, S) := by
  unfold d_many_results b_many_results
  rw [runD_a (n := 1) rfl]
  have i : idxD (rowsD t.rows) (.int 0) = some (rowD (t.rows.getD 0 [])) := at_map (k := 0) (by
    rw [List.getD_eq_getElem?_getD, List.getElem?_eq_getElem h]
    rfl)
  simp? [dr_tb, f_tr, dr_rows, i, dr_row, len_row]
abbrev Part := List Str × Str
def partD (p : Part) : D := .tup [.lst (p.1.map .str), .str p.2]
noncomputable def partsL (T : List Str) (b m : List Nat) : List (Str × Nat) → Mk → List Part × Mk
  | [], k => ([], k)
  | q :: qs, k => let p := parted T q.1 (b.getD q.2 0) (m.getD q.2 0) k; let r := partsL T b m qs p.2; (p.1 :: r.1, r.2)
noncomputable def cellsF (T : List Str) (parts : List Part) : List (List Nat) → List Str × Mk → List Str × Mk
  | [], a => a
  | c :: cs, a => let p := cellFlag T (c.zipIdx.map fun q => (parts.getD q.2 ([], "")).1.getD q.1 "") a.2; cellsF T parts cs (a.1 ++ [p.1], p.2)
noncomputable def resultsL (T : List Str) (cells : List Str) (rows : List (List Form)) (cs times : List Str) : List Nat → Mk → List Str × Mk
  | [], m => ([], m)
  | at' :: ats, m => let p := result T cells (rows.map fun r => r.getD at' (0, [])) cs times m; let q := resultsL T cells rows cs times ats p.2; (p.1 :: q.1, q.2)
def mostOf (rows : List (List Form)) : Nat := ((rows.flatMap fun r => r.map (·.1))).foldl max 0
noncomputable def progFor (t : Tb) (given told : List Str) : Mk :=
  let T := given ++ told
  let parts := partsL T t.b t.m given.zipIdx ⟨0, []⟩
  let cells := cellsF T parts.1 (cells t.b t.m) ([], parts.2)
  let cs := constants T (mostOf t.rows) cells.2
  let ends := resultsL T cells.1 t.rows cs.1 (parts.1.map (·.2)) (List.range told.length) cs.2
  (told.zip ends.1).foldl (fun m q => put (.deed (.copy q.1 q.2)) m) ends.2
theorem parts_l (t : Tk tk T) (g : Good T) {tb : Tb} {x1 x2 s5 s6 s7 s8 s9 s10 s11 s12 s13 s14 s15 s16 s17 : Slot} (hs : ∀ x ∈ tb.b, x ≤ 1000) (hm : ∀ x ∈ tb.m, 0 < x ∧ x ≤ 1000) : ∀ (qs : List (Str × Nat)) (m : Mk), (∀ q ∈ qs, q.2 < tb.b.length ∧ q.2 < tb.m.length) → m.block.length + qs.length * 4000 ≤ 16777216 →
    lcL (gT [gN 12, gN 10]) bTrue (eMeth "parted" mt_parted (eV 3) (aC (eV 10) (aC (eHB (hE (eH (hV 0) (fldD "bounds"))) (eV 12) idxD) (aC (eHB (hE (eH (hV 0) (fldD "measures"))) (eV 12) idxD) aN)))) (qs.map fun q => .tup [nD q.2, .str q.1]) [.val (tbD tb), x1, x2, .val (.ptr (S.length + 1)), .no, s5, s6, s7, s8, s9, s10, s11, s12, s13, s14, s15, s16, s17] (mkS S tk m) =
      .ok ((partsL T tb.b tb.m qs m).1.map partD, mkS S tk (partsL T tb.b tb.m qs m).2) ∧ (partsL T tb.b tb.m qs m).1.length = qs.length ∧ (∀ (i : Nat) (p : Part), (partsL T tb.b tb.m qs m).1[i]? = some p → ∃ q : Str × Nat, qs[i]? = some q ∧ p.1.length = tb.b.getD q.2 0 + tb.m.getD q.2 0) ∧ (partsL T tb.b tb.m qs m).2.block.length ≤ m.block.length + qs.length * 4000
  | [], m, _, _ => ⟨rfl, rfl, fun i p e => by simp [partsL] at e, Nat.le_add_right m.block.length _⟩
  | q :: qs, m, h1, h => by
    rw [List.length_cons, Nat.succ_mul] at h
    obtain ⟨q1, q2⟩ := h1 q List.mem_cons_self
    have ib := ix_tuN q1
    have im := ix_tuN q2
    have hb := hs (tb.b.getD q.2 0) (by rw [List.getD_eq_getElem?_getD, List.getElem?_eq_getElem q1]; exact List.getElem_mem _)
    obtain ⟨m0, m1⟩ := hm (tb.m.getD q.2 0) (by rw [List.getD_eq_getElem?_getD, List.getElem?_eq_getElem q2]; exact List.getElem_mem _)
    obtain ⟨k, hk⟩ : ∃ k, tb.m.getD q.2 0 = k + 1 := ⟨tb.m.getD q.2 0 - 1, by omega⟩
    obtain ⟨e1, l1, b1⟩ := parted_ok (S := S) (m := m) t g q.1 (bound := tb.b.getD q.2 0) (k := k) (by omega) (by omega) (by omega)
    rw [← hk] at e1 l1 b1
    generalize hp : parted T q.1 (tb.b.getD q.2 0) (tb.m.getD q.2 0) m = p at e1 l1 b1
    obtain ⟨e2, l2, h2, b2⟩ := parts_l t g (tb := tb) (x1 := x1) (x2 := x2) (s5 := s5) (s6 := s6) (s7 := s7) (s8 := s8) (s9 := s9) (s10 := s10) (s11 := s11) (s12 := s12) (s13 := s13) (s14 := s14) (s15 := s15) (s16 := s16) (s17 := s17) hs hm qs p.2 (fun q hq => h1 q (.tail _ hq)) (by omega)
    have eq : partsL T tb.b tb.m (q :: qs) m = (p.1 :: (partsL T tb.b tb.m qs p.2).1, (partsL T tb.b tb.m qs p.2).2) := by
      rw [← hp]
      rfl
    rw [eq]
    refine ⟨?_, by rw [List.length_cons, List.length_cons, l2], fun i r e => ?_, by rw [List.length_cons, Nat.succ_mul]; show (partsL T tb.b tb.m qs p.2).2.block.length ≤ _; omega⟩
    · rw [List.map_cons, lcL_cons (ρ' := [.val (tbD tb), x1, x2, .val (.ptr (S.length + 1)), .no, s5, s6, s7, s8, s9, .val (.str q.1), s11, .val (nD q.2), s13, s14, s15, s16, s17]) rfl]
      simp? [M_parted, dr_tb, f_tb, f_tm, dr_tuN, ib, im, e1, e2]
      rfl
    · cases i with
      | zero =>
        have e : p.1 = r := by simpa using e
        exact ⟨q, rfl, by rw [← e, l1, hk]⟩
      | succ i =>
        obtain ⟨q', f1, f2⟩ := h2 i r (by simpa using e)
        exact ⟨q', by simpa using f1, f2⟩
/-- the flags that a cell asks for -/
theorem flags_of {parts : List Part} {b m : List Nat} {x0 x1 x2 x3 x5 x6 x7 x8 x9 x10 x11 x14 x15 x16 x17 : Slot} {S' : Store} {cell : List Nat} (hp : parts.length = cell.length) (hl : ∀ (i n : Nat), cell[i]? = some n → n < (parts.getD i ([], "")).1.length) :
    lcL (gT [gN 12, gN 13]) bTrue (eHB (hE (eHB (hE (eHB (hV 4) (eV 12) idxD)) (eC (D.int 0)) idxD)) (eV 13) idxD) (cell.zipIdx.map fun q => .tup [nD q.2, nD q.1]) [x0, x1, x2, x3, .val (.lst (parts.map partD)), x5, x6, x7, x8, x9, x10, x11, .no, .no, x14, x15, x16, x17] S' =
      .ok ((cell.zipIdx.map fun q => (parts.getD q.2 ([], "")).1.getD q.1 "").map D.str, S') := by
  rw [List.map_map]
  refine lcL_map fun q hq => ⟨[x0, x1, x2, x3, .val (.lst (parts.map partD)), x5, x6, x7, x8, x9, x10, x11, .val (nD q.2), .val (nD q.1), x14, x15, x16, x17], rfl, ?_⟩
  have hc : cell[q.2]? = some q.1 := by
    have := List.mk_mem_zipIdx_iff_getElem?.mp hq
    simpa using this
  have hlt : q.2 < parts.length := by
    rw [hp]
    exact (List.getElem?_eq_some_iff.mp hc).1
  have i1 : atI (parts.map partD) (q.2 : Int) = some (partD (parts.getD q.2 ([], ""))) := at_map (by
    rw [List.getD_eq_getElem?_getD, List.getElem?_eq_getElem hlt]
    rfl)
  have hl := hl q.2 q.1 hc
  show _ = Out.ok (D.str ((parts.getD q.2 ([], "")).1.getD q.1 ""), S')
  generalize parts.getD q.2 ([], "") = p at i1 hl
  have i2 : idxD (partD p) (.int 0) = some (.lst (p.1.map .str)) := atI_0 _ _
  have dp : ∀ ρ S, deref ρ S (.d (partD p)) = some (partD p) := fun _ _ => rfl
  have i3 := at_str hl
  simp? [i1, dp, i2, i3]
theorem zip_nn (c : List Nat) : ((c.map nD).zipIdx.map fun q => D.tup [.int (q.2 : Nat), q.1]) = c.zipIdx.map fun q => .tup [nD q.2, nD q.1] := by
  rw [List.zipIdx_map, List.map_map]
  rfl
theorem cells_run (t : Tk tk T) (g : Good T) {parts : List Part} {x0 x1 x2 x7 x8 x9 x10 x11 x12 x13 x14 x15 x16 x17 : Slot} : ∀ (cs : List (List Nat)) (found : List Str) (m : Mk) (s6 : Slot), (∀ c ∈ cs, parts.length = c.length ∧ ∀ (i n : Nat), c[i]? = some n → n < (parts.getD i ([], "")).1.length) → parts.length ≤ 2 → m.block.length + cs.length * 3 ≤ 16777216 → found.length + cs.length ≤ 16777216 →
    ∃ s6', forL (gN 6) L0_program_for (cs.map tuN) [x0, x1, x2, .val (.ptr (S.length + 1)), .val (.lst (parts.map partD)), .own (.lst (found.map .str)), s6, x7, x8, x9, x10, x11, x12, x13, x14, x15, x16, x17] (mkS S tk m) =
      .nx [x0, x1, x2, .val (.ptr (S.length + 1)), .val (.lst (parts.map partD)), .own (.lst ((cellsF T parts cs (found, m)).1.map .str)), s6', x7, x8, x9, x10, x11, x12, x13, x14, x15, x16, x17] (mkS S tk (cellsF T parts cs (found, m)).2) ∧ (cellsF T parts cs (found, m)).1.length = found.length + cs.length ∧ (cellsF T parts cs (found, m)).2.block.length ≤ m.block.length + cs.length * 3
  | [], found, m, s6, _, _, _, _ => ⟨s6, rfl, rfl, Nat.le_add_right m.block.length _⟩
  | c :: cs, found, m, s6, h1, h2, h3, h4 => by
    rw [List.length_cons] at h3 h4
    obtain ⟨c1, c2⟩ := h1 c List.mem_cons_self
    have fl := fun S' => flags_of (S' := S') (x0 := x0) (x1 := x1) (x2 := x2) (x3 := .val (.ptr (S.length + 1))) (x5 := .own (.lst (found.map .str))) (x6 := .val (tuN c)) (x7 := x7) (x8 := x8) (x9 := x9) (x10 := x10) (x11 := x11) (x14 := x14) (x15 := x15) (x16 := x16) (x17 := x17) (b := []) (m := []) c1 c2
    generalize hk : (c.zipIdx.map fun q => (parts.getD q.2 ([], "")).1.getD q.1 "") = ks at fl
    have lk : ks.length = c.length := by rw [← hk, List.length_map, List.length_zipIdx]
    obtain ⟨e1, b1⟩ := cell_flag_ok (S := S) (m := m) t g ks (by omega)
    generalize hp : cellFlag T ks m = p at e1 b1
    have e4 := app_str (xs := found) (y := p.1) (by omega)
    obtain ⟨s6', ih, l1, l2⟩ := cells_run t g (parts := parts) (x0 := x0) (x1 := x1) (x2 := x2) (x7 := x7) (x8 := x8) (x9 := x9) (x10 := x10) (x11 := x11) (x12 := x12) (x13 := x13) (x14 := x14) (x15 := x15) (x16 := x16) (x17 := x17) cs (found ++ [p.1]) p.2 (.val (tuN c)) (fun c hc => h1 c (.tail _ hc)) h2 (by omega) (by rw [List.length_append, List.length_singleton]; omega)
    have eq : cellsF T parts (c :: cs) (found, m) = cellsF T parts cs (found ++ [p.1], p.2) := by
      rw [← hp, ← hk]
      rfl
    refine ⟨s6', ?_, by rw [eq, l1, List.length_append, List.length_singleton, List.length_cons]; omega, by rw [eq, List.length_cons]; omega⟩
    rw [List.map_cons, forL_cons (ρ' := [x0, x1, x2, .val (.ptr (S.length + 1)), .val (.lst (parts.map partD)), .own (.lst (found.map .str)), .val (tuN c), x7, x8, x9, x10, x11, x12, x13, x14, x15, x16, x17]) rfl]
    have st : L0_program_for [x0, x1, x2, .val (.ptr (S.length + 1)), .val (.lst (parts.map partD)), .own (.lst (found.map .str)), .val (tuN c), x7, x8, x9, x10, x11, x12, x13, x14, x15, x16, x17] (mkS S tk m) =
        .nx [x0, x1, x2, .val (.ptr (S.length + 1)), .val (.lst (parts.map partD)), .own (.lst ((found ++ [p.1]).map .str)), .val (tuN c), x7, x8, x9, x10, x11, x12, x13, x14, x15, x16, x17] (mkS S tk p.2) := by
      unfold L0_program_for
      simp? [M_cell, seq_tuN, zip_nn, fl, e1, e4]
    rw [st, lnx, ih, eq]
theorem col_l {rows : List (List Form)} {k : Nat} {x0 x1 x2 x3 x4 x5 x6 x7 x8 x9 x10 x11 x12 x13 x15 x16 : Slot} {S' : Store} (h : ∀ r ∈ rows, k < r.length) :
    lcL (gN 14) bTrue (eHB (hV 14) (eV 17) idxD) (rows.map rowD) [x0, x1, x2, x3, x4, x5, x6, x7, x8, x9, x10, x11, x12, x13, .no, x15, x16, .val (nD k)] S' = .ok ((rows.map fun r => r.getD k (0, [])).map formD, S') := by
  rw [List.map_map]
  refine lcL_map fun r hr => ⟨[x0, x1, x2, x3, x4, x5, x6, x7, x8, x9, x10, x11, x12, x13, .val (rowD r), x15, x16, .val (nD k)], rfl, ?_⟩
  have i : idxD (rowD r) (nD k) = some (formD (r.getD k (0, []))) := at_map (by
    rw [List.getD_eq_getElem?_getD, List.getElem?_eq_getElem (h r hr)]
    rfl)
  simp? [dr_row, i]
  rfl
theorem ends_l (t : Tk tk T) (g : Good T) {tb : Tb} {cells cs times : List Str} {x1 x2 x4 x6 x9 x10 x11 x12 x13 x14 x15 x16 : Slot} (hl : cells.length = tb.rows.length) (hn : tb.rows.length < 64) (hs : ∀ r ∈ tb.rows, ∀ f ∈ r, f.1 < cs.length ∧ f.2.length = times.length ∧ ∀ s ∈ f.2, s ≤ 1000) (h2 : times.length ≤ 2) :
    ∀ (ats : List Nat) (m : Mk), (∀ k ∈ ats, ∀ r ∈ tb.rows, k < r.length) → m.block.length + ats.length * 9000 ≤ 16777216 →
    lcL (gN 17) bTrue (eMeth "result" mt_result (eV 3) (aC (eV 5) (aC (eFz (mLc (iS (eH (hV 0) (fldD "rows"))) (gN 14) bTrue (eHB (hV 14) (eV 17) idxD) [14])) (aC (eV 7) (aC (eV 8) aN))))) (ats.map fun k => D.int (k : Nat)) [.val (tbD tb), x1, x2, .val (.ptr (S.length + 1)), x4, .val (.lst (cells.map .str)), x6, .val (.lst (cs.map .str)), .val (.lst (times.map .str)), x9, x10, x11, x12, x13, x14, x15, x16, .no] (mkS S tk m) =
      .ok ((resultsL T cells tb.rows cs times ats m).1.map D.str, mkS S tk (resultsL T cells tb.rows cs times ats m).2) ∧ (resultsL T cells tb.rows cs times ats m).1.length = ats.length ∧ (resultsL T cells tb.rows cs times ats m).2.block.length ≤ m.block.length + ats.length * 9000
  | [], m, _, _ => ⟨rfl, rfl, Nat.le_add_right m.block.length _⟩
  | k :: ats, m, h1, h => by
    rw [List.length_cons, Nat.succ_mul] at h
    have hk := h1 k List.mem_cons_self
    have cl := fun S' => col_l (S' := S') (rows := tb.rows) (k := k) (x0 := .val (tbD tb)) (x1 := x1) (x2 := x2) (x3 := .val (.ptr (S.length + 1))) (x4 := x4) (x5 := .val (.lst (cells.map .str))) (x6 := x6) (x7 := .val (.lst (cs.map .str))) (x8 := .val (.lst (times.map .str))) (x9 := x9) (x10 := x10) (x11 := x11) (x12 := x12) (x13 := x13) (x15 := x15) (x16 := x16) hk
    have hf : ∀ f ∈ (tb.rows.map fun r => r.getD k (0, [])), ∃ r ∈ tb.rows, f ∈ r := fun f hf => by
      obtain ⟨r, hr, rfl⟩ := List.mem_map.mp hf
      refine ⟨r, hr, ?_⟩
      rw [List.getD_eq_getElem?_getD, List.getElem?_eq_getElem (hk r hr)]
      exact List.getElem_mem _
    obtain ⟨e1, b1⟩ := result_ok (S := S) (m := m) t g (cells := cells) (forms := tb.rows.map fun r => r.getD k (0, [])) (cs := cs) (times := times) (by rw [List.length_map]; exact hl) (by rw [List.length_map]; exact hn)
      (fun f h => by obtain ⟨r, hr, hm⟩ := hf f h; exact (hs r hr f hm).2.2) (fun f h => by obtain ⟨r, hr, hm⟩ := hf f h; exact (hs r hr f hm).1) (fun f h => by obtain ⟨r, hr, hm⟩ := hf f h; exact (hs r hr f hm).2.1) h2 (by omega)
    generalize hp : result T cells (tb.rows.map fun r => r.getD k (0, [])) cs times m = p at e1 b1
    obtain ⟨e2, l2, b2⟩ := ends_l t g (tb := tb) (cells := cells) (cs := cs) (times := times) (x1 := x1) (x2 := x2) (x4 := x4) (x6 := x6) (x9 := x9) (x10 := x10) (x11 := x11) (x12 := x12) (x13 := x13) (x14 := x14) (x15 := x15) (x16 := x16) hl hn hs h2 ats p.2 (fun k hk => h1 k (.tail _ hk)) (by omega)
    have eq : resultsL T cells tb.rows cs times (k :: ats) m = (p.1 :: (resultsL T cells tb.rows cs times ats p.2).1, (resultsL T cells tb.rows cs times ats p.2).2) := by
      rw [← hp]
      rfl
    rw [eq]
    refine ⟨?_, by rw [List.length_cons, List.length_cons, l2], by rw [List.length_cons, Nat.succ_mul]; show (resultsL T cells tb.rows cs times ats p.2).2.block.length ≤ _; omega⟩
    have wr : walkD (rowsD tb.rows) = some (tb.rows.map rowD) := rfl
    rw [List.map_cons, lcL_cons (ρ' := [.val (tbD tb), x1, x2, .val (.ptr (S.length + 1)), x4, .val (.lst (cells.map .str)), x6, .val (.lst (cs.map .str)), .val (.lst (times.map .str)), x9, x10, x11, x12, x13, x14, x15, x16, .val (nD k)]) rfl]
    simp? [M_result, dr_tb, f_tr, wr, cl, e1, e2]
theorem put_run {x0 x1 x2 x4 x5 x6 x7 x8 x9 x12 x13 x14 x15 x16 x17 : Slot} : ∀ (qs : List (Str × Str)) (m : Mk) (s10 s11 : Slot), m.block.length + qs.length ≤ 16777216 →
    ∃ s10' s11', forL (gT [gN 10, gN 11]) L1_program_for (qs.map fun q => .tup [.str q.1, .str q.2]) [x0, x1, x2, .val (.ptr (S.length + 1)), x4, x5, x6, x7, x8, x9, s10, s11, x12, x13, x14, x15, x16, x17] (mkS S tk m) =
      .nx [x0, x1, x2, .val (.ptr (S.length + 1)), x4, x5, x6, x7, x8, x9, s10', s11', x12, x13, x14, x15, x16, x17] (mkS S tk (qs.foldl (fun m q => put (.deed (.copy q.1 q.2)) m) m)) ∧ (qs.foldl (fun m q => put (.deed (.copy q.1 q.2)) m) m).block.length = m.block.length + qs.length
  | [], m, s10, s11, _ => ⟨s10, s11, rfl, rfl⟩
  | q :: qs, m, s10, s11, h => by
    rw [List.length_cons] at h
    have e1 := put_ok (S := S) (tk := tk) (m := m) (.deed (.copy q.1 q.2)) (by omega)
    rw [st_copy] at e1
    obtain ⟨s10', s11', ih, l⟩ := put_run (x0 := x0) (x1 := x1) (x2 := x2) (x4 := x4) (x5 := x5) (x6 := x6) (x7 := x7) (x8 := x8) (x9 := x9) (x12 := x12) (x13 := x13) (x14 := x14) (x15 := x15) (x16 := x16) (x17 := x17) qs (put (.deed (.copy q.1 q.2)) m) (.val (.str q.1)) (.val (.str q.2)) (by rw [put_block]; omega)
    refine ⟨s10', s11', ?_, by rw [List.foldl_cons, l, put_block, List.length_cons]; omega⟩
    rw [List.map_cons, forL_cons (ρ' := [x0, x1, x2, .val (.ptr (S.length + 1)), x4, x5, x6, x7, x8, x9, .val (.str q.1), .val (.str q.2), x12, x13, x14, x15, x16, x17]) rfl]
    have st : L1_program_for [x0, x1, x2, .val (.ptr (S.length + 1)), x4, x5, x6, x7, x8, x9, .val (.str q.1), .val (.str q.2), x12, x13, x14, x15, x16, x17] (mkS S tk m) = .nx [x0, x1, x2, .val (.ptr (S.length + 1)), x4, x5, x6, x7, x8, x9, .val (.str q.1), .val (.str q.2), x12, x13, x14, x15, x16, x17] (mkS S tk (put (.deed (.copy q.1 q.2)) m)) := by
      unfold L1_program_for
      simp? [M_put, e1]
    rw [st, lnx, ih, List.foldl_cons]
theorem bases_l {rows : List (List Form)} {ρ : LEnv} {S' : Store} (h14 : 14 < ρ.length) (h15 : 15 < ρ.length) : lc2L (gN 14) bTrue (iS (eV 14)) (gN 15) bTrue (eHB (hV 15) (eC (.int 0)) idxD) [15] (rows.map rowD) ρ S' = .ok (rows.flatMap fun r => r.map fun f => nD f.1, S') := by
  refine lc2L_map fun r hr => ⟨_, r.map formD, rfl, ?_, ?_⟩
  · have g : (ρ.set 14 (.val (rowD r)))[14]? = some (.val (rowD r)) := List.getElem?_set_self h14
    have w : walkD (rowD r) = some (r.map formD) := rfl
    simp? [g, w]
  · refine lcL_map fun f hf => ⟨_, rfl, ?_⟩
    have g : ((wipeD (ρ.set 14 (.val (rowD r))) [15]).set 15 (.val (formD f)))[15]? = some (.val (formD f)) := List.getElem?_set_self (by show 15 < ((ρ.set 14 _).set 15 _).length; rw [List.length_set, List.length_set]; exact h15)
    simp only [wipeD] at g
    simp? [g, dr_form', ix_f0]
theorem max_nD (xs : List Nat) (h : xs ≠ []) : maxLD (.lst (xs.map nD)) = some (nD (xs.foldl max 0)) := by
  cases xs with
  | nil => exact absurd rfl h
  | cons x xs =>
    have e : intsOf ((x :: xs).map nD) = some ((x :: xs).map fun (n : Nat) => (n : Int)) := intsOf_map (fun n : Nat => (n : Int)) (x :: xs)
    show ((intsOf ((x :: xs).map nD)).bind maxL).map D.int = _
    rw [e]
    show some (D.int ((xs.map fun (n : Nat) => (n : Int)).foldl max (x : Int))) = some (D.int ((xs.foldl max (max 0 x) : Nat) : Int))
    rw [Nat.zero_max]
    congr 2
    clear e h
    induction xs generalizing x with
    | nil => rfl
    | cons y ys ih =>
      rw [List.map_cons, List.foldl_cons, List.foldl_cons, ← ih]
      congr 1
      omega
theorem raw_init_ok (a b c : D) : d_RawProgram___init__ (.ins "RawProgram" [] []) [a, b, c] S = .ok (.ins "RawProgram" ["given", "told", "block"] [a, b, c], S) := by
  unfold d_RawProgram___init__ b_RawProgram___init__
  rw [runO_a (n := 3) rfl]
  rfl
def prD (c : Str) (given told : List Str) (block : List Stm) : D := .obj c ["given", "told", "block"] [.tup (given.map .str), .tup (told.map .str), .tup (block.map stD)]
theorem zip_ss : ∀ (a b : List Str), ((a.map D.str).zip (b.map D.str)).map (fun q => D.tup [q.1, q.2]) = (a.zip b).map fun q => .tup [.str q.1, .str q.2]
  | [], _ => rfl
  | _ :: _, [] => rfl
  | c :: cs, f :: fs => by
    rw [List.map_cons, List.map_cons, List.zip_cons_cons, List.map_cons, zip_ss cs fs]
    rfl
theorem lit_k (x : Nat) : (D.int ((x : Nat) : Int)) = nD x := rfl
/-- what a table must be for a program -/
structure Tb.Small (t : Tb) : Prop extends t.Ok where
  bs : ∀ x ∈ t.b, x ≤ 1000
  ms : ∀ x ∈ t.m, x ≤ 1000
  cells : t.rows.length < 64
  fm : ∀ r ∈ t.rows, ∀ f ∈ r, f.1 ≤ 1000 ∧ f.2.length = t.b.length ∧ ∀ s ∈ f.2, s ≤ 1000
  row : ∀ r ∈ t.rows, r ≠ [] ∧ r.length = (t.rows.getD 0 []).length
theorem cellsL_lt : ∀ (b m : List Nat) (found : List (List Nat)) (k : Nat), b.length = m.length → (∀ c ∈ found, c.length = k) → ∀ c ∈ cellsL b m found, ∀ (i n : Nat), c[k + i]? = some n → n < b.getD i 0 + m.getD i 0
  | [], _, found, k, hl, h => fun c hc i n e => by
    have hc : c ∈ found := hc
    have := (List.getElem?_eq_some_iff.mp e).1
    rw [h c hc] at this
    omega
  | b :: bs, [], found, k, hl, h => by simp at hl
  | b :: bs, m :: ms, found, k, hl, h => by
    intro c hc i n e
    unfold cellsL at hc
    have hf : ∀ c ∈ (found.flatMap fun c => (List.range (b + m)).map fun n => c ++ [n]), c.length = k + 1 := fun c hc => by
      obtain ⟨c0, h0, h1⟩ := List.mem_flatMap.mp hc
      obtain ⟨n, _, rfl⟩ := List.mem_map.mp h1
      rw [List.length_append, h c0 h0]
      rfl
    cases i with
    | zero =>
      have key : ∀ (bs ms : List Nat) (found : List (List Nat)), (∀ c ∈ found, ∃ n, c[k]? = some n ∧ n < b + m) → ∀ c ∈ cellsL bs ms found, ∃ n, c[k]? = some n ∧ n < b + m := by
        intro bs
        induction bs with
        | nil => intro ms found h c hc; exact h c hc
        | cons b' bs ih =>
          intro ms found h c hc
          cases ms with
          | nil => exact h c hc
          | cons m' ms =>
            refine ih ms _ (fun c hc => ?_) c hc
            obtain ⟨c0, h0, h1⟩ := List.mem_flatMap.mp hc
            obtain ⟨n', _, rfl⟩ := List.mem_map.mp h1
            obtain ⟨n, e1, e2⟩ := h c0 h0
            exact ⟨n, by rw [List.getElem?_append_left (List.getElem?_eq_some_iff.mp e1).1]; exact e1, e2⟩
      obtain ⟨n', e1, e2⟩ := key bs ms _ (fun c hc => by
        obtain ⟨c0, h0, h1⟩ := List.mem_flatMap.mp hc
        obtain ⟨n', hn, rfl⟩ := List.mem_map.mp h1
        exact ⟨n', by rw [List.getElem?_append_right (by rw [h c0 h0]; omega), h c0 h0, Nat.sub_self]; rfl, List.mem_range.mp hn⟩) c hc
      rw [Nat.add_zero, e1] at e
      cases e
      exact e2
    | succ i =>
      have := cellsL_lt bs ms _ (k + 1) (by simpa using hl) hf c hc i n (by rw [show k + 1 + i = k + (i + 1) from by omega]; exact e)
      exact this
theorem program_for_ok {tb : Tb} (h : tb.Small) {given told : List Str} (hg : isNms (.tup (given.map .str)) 0 2 = true) (hgl : given.length = tb.b.length) (ht : isNms (.tup (told.map .str)) 1 4 = true) (htl : told.length = (tb.rows.getD 0 []).length)
    (tg : tame1 (.tup (given.map .str))) (tt : tame1 (.tup (told.map .str))) (g : Good (given ++ told)) :
    d_program_for [tbD tb, .tup (given.map .str), .tup (told.map .str)] S = .ok (prD "RawProgram" given told (progFor tb given told).block, mkS S (tkOf (given ++ told)) (progFor tb given told)) := by
  have pp := prodL_pos tb.b tb.m h.pos
  have r0 : 0 < tb.rows.length := by rw [h.rows]; omega
  have t := tk_of (given ++ told)
  have two := h.two
  have e1 := are_names_ok tg 0 2 (by decide)
  rw [hg] at e1
  have e2 := are_names_ok tt 1 4 (by decide)
  rw [ht] at e2
  have tl4 : told.length ≤ 4 := by
    have : (decide ((1 : Int) ≤ ((told.map D.str).length : Nat)) && decide (((told.map D.str).length : Int) ≤ 4) && (told.map D.str).all isNm && decide ((told.map D.str).map strOf).Nodup) = true := ht
    simp only [Bool.and_eq_true, decide_eq_true_eq, List.length_map] at this
    omega
  have e3 := many_results_ok (t := tb) r0
  have ng : neD (.int (given.map D.str).length) (.int tb.b.length) = some false := by rw [neD_i, List.length_map, hgl, decide_eq_true rfl]; rfl
  have nt : neD (.int (told.map D.str).length) (nD (tb.rows.getD 0 []).length) = some false := by rw [neD_i, List.length_map, htl, decide_eq_true rfl]; rfl
  have ca : addD (.tup (given.map D.str)) (.tup (told.map D.str)) = some (.tup ((given ++ told).map D.str)) := by rw [add_t (by rw [List.length_map, List.length_map]; omega), List.map_append]
  have e4 := maker_init_ok (S := S) (given ++ told) (by rw [List.length_append]; omega)
  have e5 := mkS_new (S := S) (given ++ told)
  have l1 : (S ++ [MO.lst []]).length = S.length + 1 := by rw [List.length_append]; rfl
  have zg : ((given.map D.str).zipIdx.map fun q => D.tup [.int (q.2 : Nat), q.1]) = given.zipIdx.map fun q => .tup [nD q.2, .str q.1] := zipIdx_str given
  obtain ⟨p1, p2, p3, p4⟩ := parts_l (S := S) t g (tb := tb) (x1 := .val (.tup (given.map .str))) (x2 := .val (.tup (told.map .str))) (s5 := .no) (s6 := .no) (s7 := .no) (s8 := .no) (s9 := .no) (s10 := .no) (s11 := .no) (s12 := .no) (s13 := .no) (s14 := .no) (s15 := .no) (s16 := .no) (s17 := .no) h.bs (fun x hx => ⟨h.pos x hx, h.ms x hx⟩) given.zipIdx ⟨0, []⟩ (fun q hq => by
    have := List.snd_lt_of_mem_zipIdx hq
    rw [← h.len]
    omega) (by rw [List.length_zipIdx]; show 0 + _ ≤ _; omega)
  rw [List.length_zipIdx] at p2 p4
  generalize hP : partsL (given ++ told) tb.b tb.m given.zipIdx ⟨0, []⟩ = P at p1 p2 p3 p4
  have p4 : P.2.block.length ≤ 8000 := by
    have : P.2.block.length ≤ 0 + given.length * 4000 := p4
    omega
  have e6 := cells_of_ok (b := tb.b) (m := tb.m) (by omega) h.pos (by have := h.most; omega)
  have cl := cells_len tb.b tb.m
  have pl : ∀ c ∈ cells tb.b tb.m, P.1.length = c.length ∧ ∀ (i n : Nat), c[i]? = some n → n < (P.1.getD i ([], "")).1.length := fun c hc => by
    have c1 := cells_item h.len hc
    refine ⟨by omega, fun i n e => ?_⟩
    have c2 := cellsL_lt tb.b tb.m [[]] 0 h.len (by simp) c hc i n (by rw [Nat.zero_add]; exact e)
    have il : i < P.1.length := by
      have := (List.getElem?_eq_some_iff.mp e).1
      omega
    obtain ⟨q, q1, q2⟩ := p3 i (P.1.getD i ([], "")) (by rw [List.getD_eq_getElem?_getD, List.getElem?_eq_getElem il]; rfl)
    rw [q2]
    have : q.2 = i := by
      have := (List.getElem?_eq_some_iff.mp q1).2
      rw [← this, List.getElem_zipIdx]
      omega
    rw [this]
    exact c2
  obtain ⟨s6, q1, q2, q3⟩ := cells_run (S := S) t g (parts := P.1) (x0 := .val (tbD tb)) (x1 := .val (.tup (given.map .str))) (x2 := .val (.tup (told.map .str))) (x7 := .no) (x8 := .no) (x9 := .no) (x10 := .no) (x11 := .no) (x12 := .no) (x13 := .no) (x14 := .no) (x15 := .no) (x16 := .no) (x17 := .no) (cells tb.b tb.m) [] P.2 .no pl (by omega) (by rw [cl, ← h.rows]; have := h.cells; omega) (by rw [cl, ← h.rows]; have := h.cells; show 0 + _ ≤ _; omega)
  rw [cl, ← h.rows] at q2 q3
  generalize hC : cellsF (given ++ told) P.1 (cells tb.b tb.m) ([], P.2) = C at q1 q2 q3
  have q2 : C.1.length = tb.rows.length := by rw [q2]; show 0 + _ = _; omega
  have q3 : C.2.block.length ≤ 8300 := by have := h.cells; omega
  have most : ∀ (xs : List Nat) (k a : Nat), (∀ x ∈ xs, x ≤ k) → a ≤ k → xs.foldl max a ≤ k ∧ a ≤ xs.foldl max a ∧ ∀ x ∈ xs, x ≤ xs.foldl max a := by
    intro xs
    induction xs with
    | nil => intro k a _ h2; exact ⟨h2, Nat.le_refl _, by simp⟩
    | cons y ys ih =>
      intro k a h1 h2
      obtain ⟨i1, i2, i3⟩ := ih k (max a y) (fun x hx => h1 x (.tail _ hx)) (by have := h1 y List.mem_cons_self; omega)
      refine ⟨i1, by rw [List.foldl_cons]; omega, fun x hx => ?_⟩
      rw [List.foldl_cons]
      rcases List.mem_cons.mp hx with rfl | hx
      · omega
      · exact i3 x hx
  have hb : ∀ x ∈ (tb.rows.flatMap fun r => r.map (·.1)), x ≤ 1000 := fun x hx => by
    obtain ⟨r, hr, hx⟩ := List.mem_flatMap.mp hx
    obtain ⟨f, hf, rfl⟩ := List.mem_map.mp hx
    exact (h.fm r hr f hf).1
  obtain ⟨m1, _, m3⟩ := most _ 1000 0 hb (by omega)
  obtain ⟨c1, c2, c3⟩ := constants_ok (S := S) (m := C.2) t g (most := mostOf tb.rows) (by unfold mostOf; omega) (by unfold mostOf; omega)
  generalize hK : constants (given ++ told) (mostOf tb.rows) C.2 = K at c1 c2 c3
  have c3 : K.2.block.length ≤ 10300 := by rw [c3]; unfold mostOf; omega
  have bl := fun S' => bases_l (rows := tb.rows) (ρ := [.val (tbD tb), .val (.tup (given.map .str)), .val (.tup (told.map .str)), .val (.ptr (S.length + 1)), .val (.lst (P.1.map partD)), .own (.lst (C.1.map .str)), s6, .no, .no, .no, .no, .no, .no, .no, .no, .no, .no, .no]) (S' := S') (show 14 < 18 from by decide) (show 15 < 18 from by decide)
  have be : (tb.rows.flatMap fun r => r.map fun f => nD f.1) = (tb.rows.flatMap fun r => r.map (·.1)).map nD := by
    rw [List.map_flatMap]
    congr 1
    funext r
    rw [List.map_map]
    rfl
  rw [be] at bl
  have bn : (tb.rows.flatMap fun r => r.map (·.1)) ≠ [] := fun e => by
    rw [List.flatMap_eq_nil_iff] at e
    have hm : tb.rows[0] ∈ tb.rows := List.getElem_mem _
    have := e _ hm
    exact (h.row _ hm).1 (List.map_eq_nil_iff.mp this)
  have mx := max_nD _ bn
  have bsz : szOk ((tb.rows.flatMap fun r => r.map (·.1)).map nD).length = true := szOk_t (by
    rw [List.length_map, List.length_flatMap]
    have hr12 : ∀ r ∈ tb.rows, r.length ≤ 4 := fun r hr => by rw [(h.row r hr).2, ← htl]; exact tl4
    have key : ∀ rows : List (List Form), (∀ r ∈ rows, r.length ≤ 4) → (rows.map fun r => (r.map (·.1)).length).sum ≤ rows.length * 4 := by
      intro rows
      induction rows with
      | nil => intro _; simp
      | cons r rows ih =>
        intro hh
        rw [List.map_cons, List.sum_cons, List.length_cons, Nat.succ_mul, List.length_map]
        have := hh r List.mem_cons_self
        have := ih fun r hr => hh r (.tail _ hr)
        omega
    have := key tb.rows hr12
    have := h.cells
    omega)
  have tml : ∀ S', lcL (gN 16) bTrue (eHB (hV 16) (eC (.int 1)) idxD) (P.1.map partD) [.val (tbD tb), .val (.tup (given.map .str)), .val (.tup (told.map .str)), .val (.ptr (S.length + 1)), .val (.lst (P.1.map partD)), .own (.lst (C.1.map .str)), s6, .val (.lst (K.1.map .str)), .no, .no, .no, .no, .no, .no, .no, .no, .no, .no] S' = .ok (P.1.map fun p => .str p.2, S') := fun S' => lcL_map fun p _ => ⟨_, rfl, by
      have dp : ∀ ρ S, deref ρ S (.d (partD p)) = some (partD p) := fun _ _ => rfl
      have i2 : idxD (partD p) (.int 1) = some (.str p.2) := atI_1 _ _ _
      simp? [dp, i2]⟩
  have te : (P.1.map fun p => D.str p.2) = (P.1.map (·.2)).map D.str := by rw [List.map_map]; rfl
  rw [te] at tml
  obtain ⟨n1, n2, n3⟩ := ends_l (S := S) t g (tb := tb) (cells := C.1) (cs := K.1) (times := P.1.map (·.2)) (x1 := .val (.tup (given.map .str))) (x2 := .val (.tup (told.map .str))) (x4 := .val (.lst (P.1.map partD))) (x6 := s6) (x9 := .no) (x10 := .no) (x11 := .no) (x12 := .no) (x13 := .no) (x14 := .no) (x15 := .no) (x16 := .no) q2 h.cells
    (fun r hr f hf => ⟨by
      rw [c2]
      have : f.1 ≤ mostOf tb.rows := m3 f.1 (List.mem_flatMap.mpr ⟨r, hr, List.mem_map_of_mem hf⟩)
      omega, by rw [(h.fm r hr f hf).2.1, List.length_map, p2, hgl], (h.fm r hr f hf).2.2⟩) (by rw [List.length_map]; omega) (List.range told.length) K.2 (fun k hk r hr => by
      rw [(h.row r hr).2, ← htl]
      exact List.mem_range.mp hk) (by rw [List.length_range]; omega)
  rw [List.length_range] at n2 n3
  generalize hE : resultsL (given ++ told) C.1 tb.rows K.1 (P.1.map (·.2)) (List.range told.length) K.2 = E at n1 n2 n3
  obtain ⟨s10, s11, u1, u2⟩ := put_run (S := S) (tk := tkOf (given ++ told)) (x0 := .val (tbD tb)) (x1 := .val (.tup (given.map .str))) (x2 := .val (.tup (told.map .str))) (x4 := .val (.lst (P.1.map partD))) (x5 := .val (.lst (C.1.map .str))) (x6 := s6) (x7 := .val (.lst (K.1.map .str))) (x8 := .val (.lst ((P.1.map (·.2)).map .str))) (x9 := .val (.lst (E.1.map .str))) (x12 := .no) (x13 := .no) (x14 := .no) (x15 := .no) (x16 := .no) (x17 := .no) (told.zip E.1) E.2 .no .no (by
    have : (told.zip E.1).length ≤ told.length := by rw [List.length_zip]; exact Nat.min_le_left _ _
    omega)
  have eq : progFor tb given told = (told.zip E.1).foldl (fun m q => put (.deed (.copy q.1 q.2)) m) E.2 := by
    unfold progFor
    dsimp only
    rw [hP, hC, hK, hE]
  generalize hM : (told.zip E.1).foldl (fun m q => put (.deed (.copy q.1 q.2)) m) E.2 = M at u1 u2 eq
  rw [eq]
  have wr : walkD (rowsD tb.rows) = some (tb.rows.map rowD) := rfl
  have rt := rng1 told.length (by omega)
  have rt' : rngD1 [.int (told.map D.str).length] = some ((List.range told.length).map fun i => D.int (i : Nat)) := by rw [List.length_map]; exact rt
  have q1 : forL (gN 6) L0_program_for ((cells tb.b tb.m).map tuN) [.val (tbD tb), .val (.tup (given.map .str)), .val (.tup (told.map .str)), .val (.ptr (S.length + 1)), .val (.lst (P.1.map partD)), .own (.lst []), .no, .no, .no, .no, .no, .no, .no, .no, .no, .no, .no, .no] (mkS S (tkOf (given ++ told)) P.2) = _ := q1
  unfold d_program_for b_program_for
  rw [runD_a (n := 3) rfl]
  simp? [e1, e2, dr_tb, f_tb, f_tm, f_tr, dr_tuN, dr_rows, len_tuN, ng, e3, nt, ca, e4, e5, l1, zg, p1, e6, q1, wr, bl, lcEnd, bsz, mx, lit_k]
  unfold mostOf at c1
  simp? [M_cons, c1, tml, rt', n1, zip_ss, u1, mkS_p, f_block, mkS_b, raw_init_ok]
  rfl
end
end LW
end

section
set_option linter.all false
set_option maxRecDepth 100000
namespace LW
open PySem L2 GG
local macro_rules
  | `(tactic| simp? [$a,*] $[$l:location]?) => `(tactic| simp only [eC_a, eV_a, hE_a, hV_a, eH_a, eHB_a, eBin_a, eUn_a, eAnd_a, eOr_a, eNot_a, eIf_a, eCmp_a, eChain_a, aN_a, aC_a, eTup_a, eLst_a, eCall_a, eB_a, eFz_a, eAl_a, mLst_a, mLc_a, mLc2_a, mMk_a, mDic0_a, mList_a, eMeth_a, eIsi1_a, eIsi_a, eInH_a, eSl_a, oX_none, oX_some, bV_a, bT_a, bAnd_a, bOr_a, bNot_a, bTrue_a, iS_a, iEn_a, iZ_a, iR1_a, iR2_a, iR3_a, sSeq_a, sNil_a, sExpr_a, sRet_a, sRetN_a, sIf_a, sBrk_a, sCnt_a, sSet_a, sOwn_a, sFz_a, sFor_a, sMt_a, sFld_a, sAsg_a, sRaise_a, sTry_a, sMethO_a, endD_rt, endD_nx, endD_ex, bok, bex, oso, sok, sxc, cok, qnx, qrt, qbk, qct, qex, lnx, lct, lbk, lrt, lxc, oss, okk, obs, oms, add_i, sub_i, neg_i, lt_i, le_i, gt_i, ge_i, len_l, len_t, len_f, len_d, idx_l, idx_t, idx_f, walk_l, walk_t, walk_f, seq_l, seq_t, tuple_l, tuple_t, int_i, atI_0, atI_1, atI_2, dr_n, dr_b, dr_i, dr_s, dr_l, dr_t, dr_k, dr_f, dr_d, dr_o, dr_p, dr_w, now_l, now_d, now_o, frz_l, frz_d, frz_o, isL_l, frzAt, cu_p, cu_w, pu_p, pu_w, startD, startO, List.map_cons, List.map_nil, List.replicate, List.cons_append, List.nil_append, List.length_cons, List.length_nil, Nat.zero_add, Nat.reduceAdd, List.getElem?_cons_zero, List.getElem?_cons_succ, List.set_cons_zero, List.set_cons_succ, if_true, if_false, reduceIte, Bool.false_eq_true, bD_b, tru_n, tru_b, tru_l, tru_t, gN_a, gT_t, gAll_n, gAll_c, wipeD, ite_and, ite_or, ite_andB, ite_orB, szOk_0, szOk_1, szOk_2, szOk_3, szOk_4, Bool.not_true, Bool.not_false, Bool.true_and, Bool.and_true, Bool.false_and, Bool.and_false, Bool.true_or, Bool.or_true, Bool.false_or, Bool.or_false, decide_true, decide_false, tT, tAll, tN, tI, setI, $a,*] $[$l:location]?)
/-! ### the law's own cells -/
theorem lc_in {S : Store} {x0 x1 x2 s7 : Slot} {b m : Nat} : ∀ (found acc : List (List Nat)) (s6 : Slot), (∀ c ∈ found, c.length ≤ 1000) → acc.length + found.length * (b + m) ≤ 16777216 → (found = [] ∨ b + m ≤ 16777216) →
    ∃ s6', forL (gN 6) L0__law_cells (found.map tuN) [x0, x1, x2, .val (nD b), .val (nD m), .own (.lst (acc.map tuN)), s6, s7] S =
      .nx [x0, x1, x2, .val (nD b), .val (nD m), .own (.lst ((acc ++ found.flatMap fun c => (List.range (b + m)).map fun n => c ++ [n]).map tuN)), s6', s7] S
  | [], acc, s6, _, _, _ => ⟨s6, by rw [List.flatMap_nil, List.append_nil]; rfl⟩
  | c :: found, acc, s6, hk, hp, hb => by
    have hbm : b + m ≤ 16777216 := by
      rcases hb with h | h
      · cases h
      · exact h
    rw [List.length_cons, Nat.succ_mul] at hp
    have a := addN b m
    have r := rng1 (b + m) hbm
    have lc : ∀ S', lcL (gN 7) bTrue (eBin addD (eV 6) (eTup (aC (eV 7) aN))) ((List.range (b + m)).map fun i => D.int (i : Nat)) [x0, x1, x2, .val (nD b), .val (nD m), .own (.lst (acc.map tuN)), .val (tuN c), .no] S' = .ok (((List.range (b + m)).map fun n => c ++ [n]).map tuN, S') := fun S' => by
      rw [List.map_map]
      refine lcL_map fun n _ => ⟨_, rfl, ?_⟩
      have a := cat_tuN (c := c) (n := n) (hk c List.mem_cons_self)
      simp? [a]
      rfl
    have x : extD [.lst (((List.range (b + m)).map fun n => c ++ [n]).map tuN)] (.lst (acc.map tuN)) = some (.lst ((acc ++ (List.range (b + m)).map fun n => c ++ [n]).map tuN)) := by
      rw [ext_l (by rw [List.length_map, List.length_map, List.length_map, List.length_range]; omega), List.map_append]
    obtain ⟨s6', ih⟩ := lc_in (S := S) (x0 := x0) (x1 := x1) (x2 := x2) (s7 := s7) (b := b) (m := m) found (acc ++ (List.range (b + m)).map fun n => c ++ [n]) (.val (tuN c)) (fun c hc => hk c (.tail _ hc)) (by rw [List.length_append, List.length_map, List.length_range]; omega) (.inr hbm)
    refine ⟨s6', ?_⟩
    rw [List.map_cons, forL_cons (ρ' := [x0, x1, x2, .val (nD b), .val (nD m), .own (.lst (acc.map tuN)), .val (tuN c), s7]) rfl]
    have st : L0__law_cells [x0, x1, x2, .val (nD b), .val (nD m), .own (.lst (acc.map tuN)), .val (tuN c), s7] S = .nx [x0, x1, x2, .val (nD b), .val (nD m), .own (.lst ((acc ++ (List.range (b + m)).map fun n => c ++ [n]).map tuN)), .val (tuN c), s7] S := by
      unfold L0__law_cells
      have nb : (D.int ((b : Int) + m)) = nD (b + m) := rfl
      simp? [nb, r, lc, x]
    rw [st, lnx, ih, List.flatMap_cons, List.append_assoc]
theorem lc_out {S : Store} {x0 x1 : Slot} : ∀ (b m : List Nat) (found : List (List Nat)) (k : Nat) (s3 s4 s5 s6 s7 : Slot), 0 < found.length → (∀ c ∈ found, c.length ≤ k) → k + b.length ≤ 1000 → (∀ x ∈ m, 0 < x) → found.length * prodL b m ≤ 16777216 →
    ∃ s3' s4' s5' s6' s7', forL (gT [gN 3, gN 4]) L1__law_cells ((b.zip m).map fun q => .tup [nD q.1, nD q.2]) [x0, x1, .val (.lst (found.map tuN)), s3, s4, s5, s6, s7] S =
      .nx [x0, x1, .val (.lst ((cellsL b m found).map tuN)), s3', s4', s5', s6', s7'] S
  | [], _, found, _, s3, s4, s5, s6, s7, _, _, _, _, _ => ⟨s3, s4, s5, s6, s7, by simp [cellsL, forL_nil]⟩
  | _ :: _, [], found, _, s3, s4, s5, s6, s7, _, _, _, _, _ => ⟨s3, s4, s5, s6, s7, by simp [cellsL, forL_nil]⟩
  | b :: bs, m :: ms, found, k, s3, s4, s5, s6, s7, hf, hk, hb, hm, hp => by
    have hm' : ∀ x ∈ ms, 0 < x := fun x hx => hm x (.tail _ hx)
    have pp := prodL_pos bs ms hm'
    have hm0 := hm m List.mem_cons_self
    have l1 := cells_flen found b m
    have hp' : found.length * (b + m) * prodL bs ms ≤ 16777216 := by
      unfold prodL at hp
      rw [Nat.mul_assoc]; exact hp
    have hp2 : found.length * (b + m) ≤ 16777216 := Nat.le_trans (Nat.le_mul_of_pos_right _ pp) hp'
    have hbm : b + m ≤ 16777216 := Nat.le_trans (Nat.le_mul_of_pos_left _ hf) hp2
    rw [List.length_cons] at hb
    obtain ⟨s6i, inn⟩ := lc_in (S := S) (x0 := x0) (x1 := x1) (x2 := .val (.lst (found.map tuN))) (s7 := s7) (b := b) (m := m) found [] s6 (fun c hc => by have := hk c hc; omega) (by show 0 + _ ≤ _; omega) (.inr hbm)
    rw [List.nil_append] at inn
    have inn : forL (gN 6) L0__law_cells (found.map tuN) [x0, x1, .val (.lst (found.map tuN)), .val (nD b), .val (nD m), .own (.lst []), s6, s7] S = _ := inn
    obtain ⟨s3', s4', s5', s6', s7', ih⟩ := lc_out (S := S) (x0 := x0) (x1 := x1) bs ms (found.flatMap fun c => (List.range (b + m)).map fun n => c ++ [n]) (k + 1) (.val (nD b)) (.val (nD m)) (.val (.lst ((found.flatMap fun c => (List.range (b + m)).map fun n => c ++ [n]).map tuN))) s6i s7 (by rw [l1]; exact Nat.mul_pos hf (by omega)) (fun c hc => by
      obtain ⟨c0, h0, h1⟩ := List.mem_flatMap.mp hc
      obtain ⟨n, _, rfl⟩ := List.mem_map.mp h1
      have := hk c0 h0
      rw [List.length_append, List.length_singleton]
      omega) (by omega) hm' (by rw [l1]; exact hp')
    refine ⟨s3', s4', s5', s6', s7', ?_⟩
    rw [List.zip_cons_cons, List.map_cons, forL_cons (ρ' := [x0, x1, .val (.lst (found.map tuN)), .val (nD b), .val (nD m), s5, s6, s7]) rfl]
    have st : L1__law_cells [x0, x1, .val (.lst (found.map tuN)), .val (nD b), .val (nD m), s5, s6, s7] S = .nx [x0, x1, .val (.lst ((found.flatMap fun c => (List.range (b + m)).map fun n => c ++ [n]).map tuN)), .val (nD b), .val (nD m), .val (.lst ((found.flatMap fun c => (List.range (b + m)).map fun n => c ++ [n]).map tuN)), s6i, s7] S := by
      unfold L1__law_cells
      simp? [inn]
    rw [st, lnx]
    exact ih
theorem law_cells_ok {b m : List Nat} (hl : b.length ≤ 900) (hm : ∀ x ∈ m, 0 < x) (hp : prodL b m ≤ 16777216) (S : Store) : d__law_cells [tuN b, tuN m] S = .ok (.lst ((cells b m).map tuN), S) := by
  unfold d__law_cells b__law_cells
  rw [runD_a (n := 2) rfl]
  obtain ⟨s3', s4', s5', s6', s7', e⟩ := lc_out (S := S) (x0 := .val (tuN b)) (x1 := .val (tuN m)) b m [[]] 0 .no .no .no .no .no (by simp) (by simp) (by omega) hm (by simpa using hp)
  have e0 : [[]].map tuN = [D.tup []] := rfl
  rw [e0] at e
  simp? [seq_tuN, zip_nD, e]
  rfl
/-! ### drawn tables -/
theorem draw_nat {S : Store} {p fuel n : Nat} (P : Pot S p (fuel + 1)) (h1 : 1 ≤ n) (h2 : n ≤ 1000) : ∃ (r : Nat) (S' : Store), r < n ∧ d__law_draw [.ptr p, nD n] S = .ok (nD r, S') ∧ Pot S' p fuel ∧ S'.length = S.length := by
  obtain ⟨r, S', r0, r1, e, P', l⟩ := draw_ok (n := (n : Nat)) P (by omega) (by omega)
  refine ⟨r.toNat, S', by omega, ?_, P', l⟩
  rw [e]
  congr 3
  omega
theorem draws_l {Q : Nat → Prop} {ρ : LEnv} {n : NX} {e : EX} {p : Nat} : ∀ (ds : List D), (∀ d ∈ ds, ∃ ρ', n d ρ = some ρ' ∧ ∀ S fuel, Pot S p (fuel + 1) → ∃ (r : Nat) (S' : Store), Q r ∧ e ρ' S = .ok (nD r, S') ∧ Pot S' p fuel ∧ S'.length = S.length) → ∀ fuel S, Pot S p (fuel + ds.length) →
    ∃ (ns : List Nat) (S' : Store), lcL n bTrue e ds ρ S = .ok (ns.map nD, S') ∧ ns.length = ds.length ∧ (∀ x ∈ ns, Q x) ∧ Pot S' p fuel ∧ S'.length = S.length
  | [], _, fuel, S, P => ⟨[], S, rfl, rfl, by simp, P, rfl⟩
  | d :: ds, h, fuel, S, P => by
    obtain ⟨ρ', h1, h2⟩ := h d List.mem_cons_self
    obtain ⟨r, S1, q, e1, P1, l1⟩ := h2 S (fuel + ds.length) P
    obtain ⟨ns, S2, e2, l2, q2, P2, l3⟩ := draws_l ds (fun d hd => h d (.tail _ hd)) fuel S1 P1
    refine ⟨r :: ns, S2, ?_, by rw [List.length_cons, List.length_cons, l2], fun x hx => ?_, P2, l3.trans l1⟩
    · rw [lcL_cons h1]
      simp? [e1, e2]
    · rcases List.mem_cons.mp hx with rfl | hx
      · exact q
      · exact q2 x hx
structure Drawn (t : Tb) (many forms most steps : Nat) : Prop where
  lb : t.b.length = many
  lm : t.m.length = many
  bs : ∀ x ∈ t.b, x ≤ most
  ms : ∀ x ∈ t.m, 1 ≤ x ∧ x ≤ most
  rows : t.rows.length = prodL t.b t.m
  row : ∀ (k : Nat) (r : List Form), t.rows[k]? = some r → r.length = forms ∧ ∀ f ∈ r, f.1 < steps ∧ f.2.length = many ∧ (∀ s ∈ f.2, s < steps) ∧ fitF t.b ((cells t.b t.m).getD k []) f = true
theorem lt_k {p many steps : Nat} (hs : 1 ≤ steps ∧ steps ≤ 1000) {b cell : List Nat} (hb : b.length = many) (hc : cell.length = many) {x1 x2 x3 x6 x7 x9 x10 : Slot} : ∀ (ks : List Nat) (fuel : Nat) (S : Store) (acc : List Nat) (s12 s13 : Slot), (∀ k ∈ ks, k < many) → Pot S p (fuel + ks.length) → acc.length + ks.length ≤ 1000 →
    ∃ (ns : List Nat) (S' : Store) (s12' s13' : Slot), forL (gN 12) L0__law_table (ks.map nD) [.val (.ptr p), x1, x2, x3, .val (nD steps), .val (tuN b), x6, x7, .val (tuN cell), x9, x10, .own (.lst (acc.map nD)), s12, s13] S =
      .nx [.val (.ptr p), x1, x2, x3, .val (nD steps), .val (tuN b), x6, x7, .val (tuN cell), x9, x10, .own (.lst ((acc ++ ns).map nD)), s12', s13'] S' ∧ ns.length = ks.length ∧ (∀ (i k : Nat), ks[i]? = some k → ns.getD i 0 < steps ∧ (ns.getD i 0 = 0 ∨ b.getD k 0 ≤ cell.getD k 0)) ∧ Pot S' p fuel ∧ S'.length = S.length
  | [], fuel, S, acc, s12, s13, _, P, _ => ⟨[], S, s12, s13, by rw [List.append_nil]; rfl, rfl, by simp, P, rfl⟩
  | k :: ks, fuel, S, acc, s12, s13, hk, P, ha => by
    have kl := hk k List.mem_cons_self
    rw [List.length_cons] at ha
    obtain ⟨r, S1, r1, e1, P1, l1⟩ := draw_nat (n := steps) (fuel := fuel + ks.length) P hs.1 hs.2
    have i1 := ix_tuN (ns := cell) (k := k) (by omega)
    have i2 := ix_tuN (ns := b) (k := k) (by omega)
    let v := if b.getD k 0 ≤ cell.getD k 0 then r else 0
    have ap : appD [nD v] (.lst (acc.map nD)) = some (.lst ((acc ++ [v]).map nD)) := by
      rw [app_l (by rw [List.length_map]; omega), List.map_append]
      rfl
    obtain ⟨ns, S2, s12', s13', e2, l2, q2, P2, l3⟩ := lt_k hs hb hc ks fuel S1 (acc ++ [v]) (.val (nD k)) (.val (nD r)) (fun k h => hk k (.tail _ h)) P1 (by rw [List.length_append, List.length_singleton]; omega) (p := p) (x1 := x1) (x2 := x2) (x3 := x3) (x6 := x6) (x7 := x7) (x9 := x9) (x10 := x10)
    refine ⟨v :: ns, S2, s12', s13', ?_, by rw [List.length_cons, List.length_cons, l2], fun i k' h => ?_, P2, l3.trans l1⟩
    · rw [List.map_cons, forL_cons (ρ' := [.val (.ptr p), x1, x2, x3, .val (nD steps), .val (tuN b), x6, x7, .val (tuN cell), x9, x10, .own (.lst (acc.map nD)), .val (nD k), s13]) rfl]
      have st : L0__law_table [.val (.ptr p), x1, x2, x3, .val (nD steps), .val (tuN b), x6, x7, .val (tuN cell), x9, x10, .own (.lst (acc.map nD)), .val (nD k), s13] S =
          .nx [.val (.ptr p), x1, x2, x3, .val (nD steps), .val (tuN b), x6, x7, .val (tuN cell), x9, x10, .own (.lst ((acc ++ [v]).map nD)), .val (nD k), .val (nD r)] S1 := by
        unfold L0__law_table
        by_cases h : b.getD k 0 ≤ cell.getD k 0
        · have hd : decide (((b.getD k 0 : Nat) : Int) ≤ ((cell.getD k 0 : Nat) : Int)) = true := decide_eq_true (by omega)
          have hv : v = r := if_pos h
          rw [hv] at ap ⊢
          simp? [e1, dr_tuN, i1, i2, hd, ap]
        · have hd : decide (((b.getD k 0 : Nat) : Int) ≤ ((cell.getD k 0 : Nat) : Int)) = false := decide_eq_false (by omega)
          have hv : v = 0 := if_neg h
          rw [hv] at ap ⊢
          have ap : appD [.int 0] (.lst (acc.map nD)) = _ := ap
          simp? [e1, dr_tuN, i1, i2, hd, ap]
      rw [st, lnx, e2, List.append_assoc]
      rfl
    · cases i with
      | zero =>
        have e : k = k' := by simpa using h
        subst e
        show v < steps ∧ (v = 0 ∨ _)
        by_cases hh : b.getD k 0 ≤ cell.getD k 0
        · have hv : v = r := if_pos hh
          rw [hv]; exact ⟨r1, .inr hh⟩
        · have hv : v = 0 := if_neg hh
          rw [hv]; exact ⟨by omega, .inl rfl⟩
      | succ i => exact q2 i k' (by simpa using h)
/-- a form of a cell, drawn -/
def formOk (b cell : List Nat) (many steps : Nat) (f : Form) : Prop := f.1 < steps ∧ f.2.length = many ∧ (∀ s ∈ f.2, s < steps) ∧ fitF b cell f = true
theorem lt_at {p many steps : Nat} (hs : 1 ≤ steps ∧ steps ≤ 1000) (hm : many ≤ 100) {b cell : List Nat} (hb : b.length = many) (hc : cell.length = many) {x2 x3 x6 x7 : Slot} : ∀ (ks : List D) (fuel : Nat) (S : Store) (row : List Form) (s10 s11 s12 s13 : Slot), Pot S p (fuel + ks.length * (many + 1)) → row.length + ks.length ≤ 1000 →
    ∃ (fs : List Form) (S' : Store) (s10' s11' s12' s13' : Slot), forL (gN 10) L1__law_table ks [.val (.ptr p), .val (nD many), x2, x3, .val (nD steps), .val (tuN b), x6, x7, .val (tuN cell), .val (rowD row), s10, s11, s12, s13] S =
      .nx [.val (.ptr p), .val (nD many), x2, x3, .val (nD steps), .val (tuN b), x6, x7, .val (tuN cell), .val (rowD (row ++ fs)), s10', s11', s12', s13'] S' ∧ fs.length = ks.length ∧ (∀ f ∈ fs, formOk b cell many steps f) ∧ Pot S' p fuel ∧ S'.length = S.length
  | [], fuel, S, row, s10, s11, s12, s13, P, _ => ⟨[], S, s10, s11, s12, s13, by rw [List.append_nil]; rfl, rfl, by simp, by simpa using P, rfl⟩
  | d :: ks, fuel, S, row, s10, s11, s12, s13, P, ha => by
    rw [List.length_cons] at ha
    have P : Pot S p (((fuel + ks.length * (many + 1)) + 1) + (List.range many).length) := by
      rw [List.length_range]
      rw [List.length_cons, Nat.succ_mul] at P
      rw [show fuel + ks.length * (many + 1) + 1 + many = fuel + (ks.length * (many + 1) + (many + 1)) from by omega]
      exact P
    obtain ⟨ns, S1, s12a, s13a, e1, l1, q1, P1, g1⟩ := lt_k (p := p) hs hb hc (x1 := .val (nD many)) (x2 := x2) (x3 := x3) (x6 := x6) (x7 := x7) (x9 := .val (rowD row)) (x10 := .val d) (List.range many) _ S [] s12 s13 (fun k hk => List.mem_range.mp hk) P (by rw [List.length_range]; show 0 + _ ≤ _; omega)
    rw [List.nil_append] at e1
    have e1 : forL (gN 12) L0__law_table ((List.range many).map fun i => D.int (i : Nat)) [.val (.ptr p), .val (nD many), x2, x3, .val (nD steps), .val (tuN b), x6, x7, .val (tuN cell), .val (rowD row), .val d, .own (.lst []), s12, s13] S = _ := e1
    rw [List.length_range] at l1
    obtain ⟨r, S2, r1, e2, P2, g2⟩ := draw_nat (n := steps) (fuel := fuel + ks.length * (many + 1)) P1 hs.1 hs.2
    have q1 : ∀ i, i < many → ns.getD i 0 < steps ∧ (ns.getD i 0 = 0 ∨ b.getD i 0 ≤ cell.getD i 0) := fun i hi => q1 i i (by rw [List.getElem?_range hi])
    have fo : formOk b cell many steps (r, ns) := by
      refine ⟨r1, l1, fun s hs' => ?_, ?_⟩
      · obtain ⟨i, hi, rfl⟩ := List.getElem_of_mem hs'
        have hi : i < ns.length := hi
        have := (q1 i (by omega)).1
        rwa [List.getD_eq_getElem?_getD, List.getElem?_eq_getElem hi] at this
      · show (decide (ns.length = cell.length) && _) = true
        rw [l1, hc, decide_eq_true rfl, Bool.true_and, List.all_eq_true]
        intro k hk
        rcases (q1 k (List.mem_range.mp hk)).2 with h | h
        · rw [decide_eq_true h]; rfl
        · rw [decide_eq_true h, Bool.or_true]
    have ca : addD (rowD row) (.tup [formD (r, ns)]) = some (rowD (row ++ [(r, ns)])) := by
      unfold rowD
      rw [add_t (by rw [List.length_map, List.length_singleton]; omega), List.map_append]
      rfl
    have fe : ∀ xs : List D, xs = ns.map nD → D.tup [nD r, .tup xs] = formD (r, ns) := fun xs e => by rw [e]; rfl
    obtain ⟨fs, S3, t10, t11, t12, t13, e3, l3, q3, P3, g3⟩ := lt_at hs hm hb hc ks fuel S2 (row ++ [(r, ns)]) (.val d) (.own (.lst (ns.map nD))) s12a s13a P2 (by rw [List.length_append, List.length_singleton]; omega) (x2 := x2) (x3 := x3) (x6 := x6) (x7 := x7)
    refine ⟨(r, ns) :: fs, S3, t10, t11, t12, t13, ?_, by rw [List.length_cons, List.length_cons, l3], fun f hf => ?_, P3, g3.trans (g2.trans g1)⟩
    · rw [forL_cons (ρ' := [.val (.ptr p), .val (nD many), x2, x3, .val (nD steps), .val (tuN b), x6, x7, .val (tuN cell), .val (rowD row), .val d, s11, s12, s13]) rfl]
      have rg := rng1 many (by omega)
      have st : L1__law_table [.val (.ptr p), .val (nD many), x2, x3, .val (nD steps), .val (tuN b), x6, x7, .val (tuN cell), .val (rowD row), .val d, s11, s12, s13] S =
          .nx [.val (.ptr p), .val (nD many), x2, x3, .val (nD steps), .val (tuN b), x6, x7, .val (tuN cell), .val (rowD (row ++ [(r, ns)])), .val d, .own (.lst (ns.map nD)), s12a, s13a] S2 := by
        unfold L1__law_table
        have fe := fe _ rfl
        simp? [rg, e1, e2, fe, ca]
      rw [st, lnx, e3, List.append_assoc]
      rfl
    · rcases List.mem_cons.mp hf with rfl | hf
      · exact fo
      · exact q3 f hf
theorem lt_cells {p many forms steps : Nat} (hs : 1 ≤ steps ∧ steps ≤ 1000) (hm : many ≤ 100) (hf : forms ≤ 100) {b : List Nat} (hb : b.length = many) {x3 x6 : Slot} : ∀ (cs : List (List Nat)) (fuel : Nat) (S : Store) (rows : List (List Form)) (s8 s9 s10 s11 s12 s13 : Slot), (∀ c ∈ cs, c.length = many) → Pot S p (fuel + cs.length * (forms * (many + 1))) → rows.length + cs.length ≤ 16777216 →
    ∃ (rs : List (List Form)) (S' : Store) (s8' s9' s10' s11' s12' s13' : Slot), forL (gN 8) L2__law_table (cs.map tuN) [.val (.ptr p), .val (nD many), .val (nD forms), x3, .val (nD steps), .val (tuN b), x6, .own (.lst (rows.map rowD)), s8, s9, s10, s11, s12, s13] S =
      .nx [.val (.ptr p), .val (nD many), .val (nD forms), x3, .val (nD steps), .val (tuN b), x6, .own (.lst ((rows ++ rs).map rowD)), s8', s9', s10', s11', s12', s13'] S' ∧ rs.length = cs.length ∧ (∀ (k : Nat) (r : List Form), rs[k]? = some r → r.length = forms ∧ ∀ f ∈ r, formOk b (cs.getD k []) many steps f) ∧ Pot S' p fuel ∧ S'.length = S.length
  | [], fuel, S, rows, s8, s9, s10, s11, s12, s13, _, P, _ => ⟨[], S, s8, s9, s10, s11, s12, s13, by rw [List.append_nil]; rfl, rfl, by simp, by simpa using P, rfl⟩
  | c :: cs, fuel, S, rows, s8, s9, s10, s11, s12, s13, hc, P, hr => by
    rw [List.length_cons] at hr
    have P : Pot S p ((fuel + cs.length * (forms * (many + 1))) + ((List.range forms).map fun i => D.int (i : Nat)).length * (many + 1)) := by
      rw [List.length_map, List.length_range]
      rw [List.length_cons, Nat.succ_mul] at P
      rw [show fuel + cs.length * (forms * (many + 1)) + forms * (many + 1) = fuel + (cs.length * (forms * (many + 1)) + forms * (many + 1)) from by omega]
      exact P
    obtain ⟨fs, S1, t10, t11, t12, t13, e1, l1, q1, P1, g1⟩ := lt_at hs hm hb (hc c List.mem_cons_self) ((List.range forms).map fun i => D.int (i : Nat)) _ S [] s10 s11 s12 s13 P (by rw [List.length_map, List.length_range]; show 0 + _ ≤ _; omega) (x2 := .val (nD forms)) (x3 := x3) (x6 := x6) (x7 := .own (.lst (rows.map rowD)))
    rw [List.nil_append] at e1
    rw [List.length_map, List.length_range] at l1
    have e1 : forL (gN 10) L1__law_table ((List.range forms).map fun i => D.int (i : Nat)) [.val (.ptr p), .val (nD many), .val (nD forms), x3, .val (nD steps), .val (tuN b), x6, .own (.lst (rows.map rowD)), .val (tuN c), .val (.tup []), s10, s11, s12, s13] S = _ := e1
    have ap : appD [rowD fs] (.lst (rows.map rowD)) = some (.lst ((rows ++ [fs]).map rowD)) := by
      rw [app_l (by rw [List.length_map]; omega), List.map_append]
      rfl
    obtain ⟨rs, S2, u8, u9, u10, u11, u12, u13, e2, l2, q2, P2, g2⟩ := lt_cells hs hm hf hb cs fuel S1 (rows ++ [fs]) (.val (tuN c)) (.val (rowD fs)) t10 t11 t12 t13 (fun c h => hc c (.tail _ h)) P1 (by rw [List.length_append, List.length_singleton]; omega) (x3 := x3) (x6 := x6)
    refine ⟨fs :: rs, S2, u8, u9, u10, u11, u12, u13, ?_, by rw [List.length_cons, List.length_cons, l2], fun k r h => ?_, P2, g2.trans g1⟩
    · rw [List.map_cons, forL_cons (ρ' := [.val (.ptr p), .val (nD many), .val (nD forms), x3, .val (nD steps), .val (tuN b), x6, .own (.lst (rows.map rowD)), .val (tuN c), s9, s10, s11, s12, s13]) rfl]
      have rg := rng1 forms (by omega)
      have st : L2__law_table [.val (.ptr p), .val (nD many), .val (nD forms), x3, .val (nD steps), .val (tuN b), x6, .own (.lst (rows.map rowD)), .val (tuN c), s9, s10, s11, s12, s13] S =
          .nx [.val (.ptr p), .val (nD many), .val (nD forms), x3, .val (nD steps), .val (tuN b), x6, .own (.lst ((rows ++ [fs]).map rowD)), .val (tuN c), .val (rowD fs), t10, t11, t12, t13] S1 := by
        unfold L2__law_table
        simp? [rg, e1, ap]
      rw [st, lnx, e2, List.append_assoc]
      rfl
    · cases k with
      | zero =>
        have e : fs = r := by simpa using h
        subst e
        exact ⟨l1, q1⟩
      | succ k => exact q2 k r (by simpa using h)
theorem Pot.less {S : Store} {p f k : Nat} (P : Pot S p f) (h : k ≤ f) : Pot S p k := by
  obtain ⟨q, gs, ss, tr, sm, h1, h2, h3, h4, h5, h6, h7, h8, h9, h10⟩ := P.ex
  exact ⟨q, gs, ss, tr, sm, h1, h2, h3, h4, h5, h6, h7, h8, by omega, h10⟩
theorem prodL_pow {c : Nat} (h1 : 1 ≤ c) : ∀ {b m : List Nat}, b.length = m.length → (∀ q ∈ b.zip m, q.1 + q.2 ≤ c) → prodL b m ≤ c ^ b.length
  | [], _, _, _ => by simp [prodL]
  | _ :: _, [], hl, _ => by simp at hl
  | b :: bs, m :: ms, hl, h => by
    unfold prodL
    rw [List.length_cons, Nat.pow_succ, Nat.mul_comm]
    rw [List.zip_cons_cons] at h
    exact Nat.mul_le_mul (prodL_pow h1 (by simpa using hl) fun q hq => h q (.tail _ hq)) (h (b, m) List.mem_cons_self)
theorem law_table_ok {p many forms most steps fuel : Nat} {S : Store} (hs : 1 ≤ steps ∧ steps ≤ 1000) (hm : many ≤ 2) (hf : forms ≤ 100) (h1 : 1 ≤ most) (h2 : most ≤ 100) {N : Nat} (hbig : (2 * most) ^ many ≤ N) (hN : N ≤ 10000) (P : Pot S p (fuel + N * (forms * (many + 1)) + 4)) :
    ∃ (t : Tb) (S' : Store), Drawn t many forms most steps ∧ d__law_table [.ptr p, nD many, nD forms, nD most, nD steps] S = .ok (.tup [tuN t.b, tuN t.m, rowsD t.rows], S') ∧ Pot S' p fuel ∧ S'.length = S.length := by
  have ln : ((List.range many).map fun i => D.int (i : Nat)).length = many := by rw [List.length_map, List.length_range]
  have nm : ∀ (a : Nat), D.int ((a : Int) + 1) = nD (a + 1) := fun a => rfl
  have mn : ∀ (a : Nat), D.int (1 + (a : Int)) = nD (1 + a) := fun a => by
    show D.int _ = D.int _
    congr 1
  obtain ⟨b, S1, e1, l1, q1, P1, g1⟩ := draws_l (Q := fun x => x ≤ most) (p := p) (ρ := [.val (.ptr p), .val (nD many), .val (nD forms), .val (nD most), .val (nD steps), .no, .no, .no, .no, .no, .no, .no, .no, .no]) (n := gN 12) (e := eCall d__law_draw (aC (eV 0) (aC (eBin addD (eV 3) (eC (.int 1))) aN))) ((List.range many).map fun i => D.int (i : Nat)) (fun d _ => ⟨_, rfl, fun S fuel P => by
    obtain ⟨r, S', r1, e, P', l⟩ := draw_nat (n := most + 1) P (by omega) (by omega)
    exact ⟨r, S', by omega, by simp? [nm, e], P', l⟩⟩) (fuel + N * (forms * (many + 1)) + 2) S (P.less (by rw [ln]; omega))
  obtain ⟨m, S2, e2, l2, q2, P2, g2⟩ := draws_l (Q := fun x => 1 ≤ x ∧ x ≤ most) (p := p) (ρ := [.val (.ptr p), .val (nD many), .val (nD forms), .val (nD most), .val (nD steps), .val (tuN b), .no, .no, .no, .no, .no, .no, .no, .no]) (n := gN 12) (e := eBin addD (eC (.int 1)) (eCall d__law_draw (aC (eV 0) (aC (eV 3) aN)))) ((List.range many).map fun i => D.int (i : Nat)) (fun d _ => ⟨_, rfl, fun S fuel P => by
    obtain ⟨r, S', r1, e, P', l⟩ := draw_nat (n := most) P (by omega) (by omega)
    exact ⟨1 + r, S', by omega, by simp? [e, mn], P', l⟩⟩) (fuel + N * (forms * (many + 1))) S1 (P1.less (by rw [ln]; omega))
  rw [ln] at l1 l2
  have hp : prodL b m ≤ N := by
    refine Nat.le_trans (prodL_pow (c := 2 * most) (by omega) (by omega) fun q hq => ?_) (by rw [l1]; exact hbig)
    obtain ⟨m1, m2⟩ := List.of_mem_zip hq
    have := q1 _ m1
    have := (q2 _ m2).2
    omega
  have e3 := law_cells_ok (b := b) (m := m) (by omega) (fun x hx => (q2 x hx).1) (by omega)
  have pc : (cells b m).length * (forms * (many + 1)) ≤ N * (forms * (many + 1)) := Nat.mul_le_mul_right _ (by rw [cells_len]; exact hp)
  obtain ⟨rs, S3, s8, s9, s10, s11, s12, s13, e4, l4, q4, P4, g4⟩ := lt_cells hs (by omega) hf l1 (cells b m) fuel S2 [] .no .no .no .no .no .no (fun c hc => by rw [cells_item (by omega) hc, l1]) (P2.less (by omega)) (by rw [cells_len]; show 0 + _ ≤ _; omega) (x3 := .val (nD most)) (x6 := .val (tuN m))
  rw [List.nil_append] at e4
  refine ⟨⟨b, m, rs⟩, S3, ⟨l1, l2, q1, q2, by rw [l4, cells_len], q4⟩, ?_, P4, g4.trans (g2.trans g1)⟩
  have e4 : forL (gN 8) L2__law_table ((cells b m).map tuN) [.val (.ptr p), .val (nD many), .val (nD forms), .val (nD most), .val (nD steps), .val (tuN b), .val (tuN m), .own (.lst []), .no, .no, .no, .no, .no, .no] S2 = _ := e4
  unfold d__law_table b__law_table
  rw [runD_a (n := 5) rfl]
  have rg := rng1 many (by omega)
  have tb : D.tup (b.map nD) = tuN b := rfl
  have tm : D.tup (m.map nD) = tuN m := rfl
  have tr : D.tup (rs.map rowD) = rowsD rs := rfl
  simp? [rg, e1, tb, e2, tm, e3, e4, tr]
end LW
end

section
set_option linter.all false
set_option maxRecDepth 100000
namespace LW
open PySem L2 GG
/-! ### == on data -/
mutual
/-- data in which == is being the same -/
def clean : D → Bool
  | .non => true
  | .int _ => true
  | .str x => PyData.strOk x
  | .tup ds => cleanL ds
  | .lst ds => cleanL ds
  | _ => false
def cleanL : List D → Bool
  | [] => true
  | d :: ds => clean d && cleanL ds
end
mutual
def dep : D → Nat
  | .tup ds => depL ds + 1
  | .lst ds => depL ds + 1
  | _ => 0
def depL : List D → Nat
  | [] => 0
  | d :: ds => max (dep d) (depL ds)
end
mutual
theorem py_clean : ∀ {d : D}, clean d = true → ∃ p, toPy d = some p ∧ p.canLay0 = true ∧ p.depth = dep d
  | .non, _ => ⟨.none, by simp [toPy], rfl, rfl⟩
  | .int i, _ => ⟨.int i, by simp [toPy], rfl, rfl⟩
  | .str x, h => ⟨.str x, by simp [toPy], by simpa [clean, PyData.canLay0] using h, rfl⟩
  | .tup ds, h => by
    obtain ⟨ps, e, c, l⟩ := pyL_clean (ds := ds) (by simpa [clean] using h)
    exact ⟨.tuple ps, by simp [toPy, e], by simpa [PyData.canLay0] using c, by simp [PyData.depth, dep, l]⟩
  | .lst ds, h => by
    obtain ⟨ps, e, c, l⟩ := pyL_clean (ds := ds) (by simpa [clean] using h)
    exact ⟨.list ps, by simp [toPy, e], by simpa [PyData.canLay0] using c, by simp [PyData.depth, dep, l]⟩
  | .bl _, h => by simp [clean] at h
  | .gl _, h => by simp [clean] at h
  | .ktp _, h => by simp [clean] at h
  | .frl _, h => by simp [clean] at h
  | .dic _ _, h => by simp [clean] at h
  | .obj _ _ _, h => by simp [clean] at h
  | .ptr _, h => by simp [clean] at h
  | .clo _ _, h => by simp [clean] at h
theorem pyL_clean : ∀ {ds : List D}, cleanL ds = true → ∃ ps, toPyL ds = some ps ∧ PyData.canLayAll0 ps = true ∧ PyData.depthAll ps = depL ds
  | [], _ => ⟨[], by simp [toPyL], by simp [PyData.canLayAll0], by simp [PyData.depthAll, depL]⟩
  | d :: ds, h => by
    have h : (clean d && cleanL ds) = true := by simpa [cleanL] using h
    rw [Bool.and_eq_true] at h
    obtain ⟨p, e1, c1, l1⟩ := py_clean h.1
    obtain ⟨ps, e2, c2, l2⟩ := pyL_clean h.2
    exact ⟨p :: ps, by simp [toPyL, e1, e2], by simp [PyData.canLayAll0, c1, c2], by simp [PyData.depthAll, depL, l1, l2]⟩
end
mutual
theorem eqv_clean : ∀ {a b : D} {p q : PyData}, clean a = true → clean b = true → toPy a = some p → toPy b = some q → (PyData.eqv p q = true ↔ a = b)
  | .non, b, p, q, ha, hb, e1, e2 => by
    simp [toPy] at e1; subst e1
    cases b <;> simp [clean] at hb <;> simp [toPy] at e2 <;> first | (subst e2; simp [PyData.eqv]) | (obtain ⟨ps, _, rfl⟩ := e2; simp [PyData.eqv])
  | .int i, b, p, q, ha, hb, e1, e2 => by
    simp [toPy] at e1; subst e1
    cases b <;> simp [clean] at hb <;> simp [toPy] at e2 <;> first | (subst e2; simp [PyData.eqv]) | (obtain ⟨ps, _, rfl⟩ := e2; simp [PyData.eqv])
  | .str x, b, p, q, ha, hb, e1, e2 => by
    simp [toPy] at e1; subst e1
    cases b <;> simp [clean] at hb <;> simp [toPy] at e2 <;> first | (subst e2; simp [PyData.eqv]) | (obtain ⟨ps, _, rfl⟩ := e2; simp [PyData.eqv])
  | .tup ds, b, p, q, ha, hb, e1, e2 => by
    simp [toPy] at e1
    obtain ⟨ps, e1, rfl⟩ := e1
    cases b <;> simp [clean] at hb <;> simp [toPy] at e2 <;> first | (subst e2; simp [PyData.eqv]; done) | skip
    · obtain ⟨qs, e2, rfl⟩ := e2
      have := eqvL_clean (by simpa [clean] using ha) hb e1 e2
      simpa [PyData.eqv] using this
    · obtain ⟨qs, e2, rfl⟩ := e2
      simp [PyData.eqv]
  | .lst ds, b, p, q, ha, hb, e1, e2 => by
    simp [toPy] at e1
    obtain ⟨ps, e1, rfl⟩ := e1
    cases b <;> simp [clean] at hb <;> simp [toPy] at e2 <;> first | (subst e2; simp [PyData.eqv]; done) | skip
    · obtain ⟨qs, e2, rfl⟩ := e2
      simp [PyData.eqv]
    · obtain ⟨qs, e2, rfl⟩ := e2
      have := eqvL_clean (by simpa [clean] using ha) hb e1 e2
      simpa [PyData.eqv] using this
  | .bl _, _, _, _, h, _, _, _ => by simp [clean] at h
  | .gl _, _, _, _, h, _, _, _ => by simp [clean] at h
  | .ktp _, _, _, _, h, _, _, _ => by simp [clean] at h
  | .frl _, _, _, _, h, _, _, _ => by simp [clean] at h
  | .dic _ _, _, _, _, h, _, _, _ => by simp [clean] at h
  | .obj _ _ _, _, _, _, h, _, _, _ => by simp [clean] at h
  | .ptr _, _, _, _, h, _, _, _ => by simp [clean] at h
  | .clo _ _, _, _, _, h, _, _, _ => by simp [clean] at h
theorem eqvL_clean : ∀ {as bs : List D} {ps qs : List PyData}, cleanL as = true → cleanL bs = true → toPyL as = some ps → toPyL bs = some qs → (PyData.eqvAll ps qs = true ↔ as = bs)
  | [], bs, _, _, _, _, e1, e2 => by
    simp [toPyL] at e1; subst e1
    cases bs with
    | nil => simp [toPyL] at e2; subst e2; simp [PyData.eqvAll]
    | cons b bs =>
      simp [toPyL, Option.bind_eq_some_iff] at e2
      obtain ⟨q, _, qs, _, rfl⟩ := e2
      simp [PyData.eqvAll]
  | a :: as, bs, _, _, ha, hb, e1, e2 => by
    simp [toPyL, Option.bind_eq_some_iff] at e1
    obtain ⟨p, e1, ps, e1', rfl⟩ := e1
    have ha : (clean a && cleanL as) = true := by simpa [cleanL] using ha
    rw [Bool.and_eq_true] at ha
    cases bs with
    | nil => simp [toPyL] at e2; subst e2; simp [PyData.eqvAll]
    | cons b bs =>
      have hb : (clean b && cleanL bs) = true := by simpa [cleanL] using hb
      rw [Bool.and_eq_true] at hb
      simp [toPyL, Option.bind_eq_some_iff] at e2
      obtain ⟨q, e2, qs, e2', rfl⟩ := e2
      have h1 := eqv_clean ha.1 hb.1 e1 e2
      have h2 := eqvL_clean ha.2 hb.2 e1' e2'
      simp [PyData.eqvAll, h1, h2]
end
theorem eqD_clean {a b : D} (ha : clean a = true) (hb : clean b = true) (la : dep a ≤ 64) (lb : dep b ≤ 64) : ∃ k, eqD a b = some k ∧ (k = true ↔ a = b) := by
  obtain ⟨p, e1, c1, l1⟩ := py_clean ha
  obtain ⟨q, e2, c2, l2⟩ := py_clean hb
  refine ⟨PyData.eqv p q, ?_, eqv_clean ha hb e1 e2⟩
  unfold eqD
  rw [e1, e2, Option.bind_some, Option.bind_some]
  have s1 : SeqAt.shaped p = true := by unfold SeqAt.shaped; rw [c1, decide_eq_true (by omega)]; rfl
  have s2 : SeqAt.shaped q = true := by unfold SeqAt.shaped; rw [c2, decide_eq_true (by omega)]; rfl
  rw [s1, s2]
  rfl
theorem eqD_same {a : D} (ha : clean a = true) (la : dep a ≤ 64) : eqD a a = some true := by
  obtain ⟨k, e, h⟩ := eqD_clean ha ha la la
  rw [e, h.mpr rfl]
theorem eqD_other {a b : D} (ha : clean a = true) (hb : clean b = true) (la : dep a ≤ 64) (lb : dep b ≤ 64) (h : a ≠ b) : eqD a b = some false := by
  obtain ⟨k, e, hk⟩ := eqD_clean ha hb la lb
  rw [e]
  cases k with
  | false => rfl
  | true => exact absurd (hk.mp rfl) h
theorem eqD_s {x y : Str} (hx : PyData.strOk x = true) (hy : PyData.strOk y = true) : eqD (.str x) (.str y) = some (decide (x = y)) := by
  by_cases h : x = y
  · subst h; rw [eqD_same (by simpa [clean] using hx) (by simp [dep]), decide_eq_true rfl]
  · rw [eqD_other (by simpa [clean] using hx) (by simpa [clean] using hy) (by simp [dep]) (by simp [dep]) (by simpa using h), decide_eq_false h]
theorem cleanL_iff {ds : List D} : cleanL ds = true ↔ ∀ d ∈ ds, clean d = true := by
  induction ds with
  | nil => simp [cleanL]
  | cons d ds ih => simp [cleanL, ih]
theorem depL_le {ds : List D} {k : Nat} : depL ds ≤ k ↔ ∀ d ∈ ds, dep d ≤ k := by
  induction ds with
  | nil => simp [depL]
  | cons d ds ih =>
    simp only [depL, List.mem_cons, forall_eq_or_imp]
    rw [← ih]
    omega
end LW
end

section
set_option linter.all false
set_option maxRecDepth 100000
namespace LW
open PySem L2 GG
local macro_rules
  | `(tactic| simp? [$a,*] $[$l:location]?) => `(tactic| simp only [eC_a, eV_a, hE_a, hV_a, eH_a, eHB_a, eBin_a, eUn_a, eAnd_a, eOr_a, eNot_a, eIf_a, eCmp_a, eChain_a, aN_a, aC_a, eTup_a, eLst_a, eCall_a, eB_a, eFz_a, eAl_a, mLst_a, mLc_a, mLc2_a, mMk_a, mDic0_a, mList_a, eMeth_a, eIsi1_a, eIsi_a, eInH_a, eSl_a, oX_none, oX_some, bV_a, bT_a, bAnd_a, bOr_a, bNot_a, bTrue_a, iS_a, iEn_a, iZ_a, iR1_a, iR2_a, iR3_a, sSeq_a, sNil_a, sExpr_a, sRet_a, sRetN_a, sIf_a, sBrk_a, sCnt_a, sSet_a, sOwn_a, sFz_a, sFor_a, sMt_a, sFld_a, sAsg_a, sRaise_a, sTry_a, sMethO_a, endD_rt, endD_nx, endD_ex, bok, bex, oso, sok, sxc, cok, qnx, qrt, qbk, qct, qex, lnx, lct, lbk, lrt, lxc, oss, okk, obs, oms, add_i, sub_i, neg_i, lt_i, le_i, gt_i, ge_i, len_l, len_t, len_f, len_d, idx_l, idx_t, idx_f, walk_l, walk_t, walk_f, seq_l, seq_t, tuple_l, tuple_t, int_i, atI_0, atI_1, atI_2, dr_n, dr_b, dr_i, dr_s, dr_l, dr_t, dr_k, dr_f, dr_d, dr_o, dr_p, dr_w, now_l, now_d, now_o, frz_l, frz_d, frz_o, isL_l, frzAt, cu_p, cu_w, pu_p, pu_w, startD, startO, List.map_cons, List.map_nil, List.replicate, List.cons_append, List.nil_append, List.length_cons, List.length_nil, Nat.zero_add, Nat.reduceAdd, List.getElem?_cons_zero, List.getElem?_cons_succ, List.set_cons_zero, List.set_cons_succ, if_true, if_false, reduceIte, Bool.false_eq_true, bD_b, tru_n, tru_b, tru_l, tru_t, gN_a, gT_t, gAll_n, gAll_c, wipeD, ite_and, ite_or, ite_andB, ite_orB, szOk_0, szOk_1, szOk_2, szOk_3, szOk_4, Bool.not_true, Bool.not_false, Bool.true_and, Bool.and_true, Bool.false_and, Bool.and_false, Bool.true_or, Bool.or_true, Bool.false_or, Bool.or_false, decide_true, decide_false, tT, tAll, tN, tI, setI, $a,*] $[$l:location]?)
/-! ### law k87 -/
theorem Drawn.ok {t : Tb} {many forms most steps : Nat} (d : Drawn t many forms most steps) (h2 : many ≤ 2) (hf : 1 ≤ forms ∧ forms ≤ 12) (hp : prodL t.b t.m ≤ 1000) : t.Ok := by
  have pp := prodL_pos t.b t.m fun x hx => (d.ms x hx).1
  have r0 : t.rows[0]? = some (t.rows.getD 0 []) := by
    rw [List.getD_eq_getElem?_getD, List.getElem?_eq_getElem (by rw [d.rows]; omega)]
    rfl
  have f0 := (d.row 0 _ r0).1
  refine ⟨by rw [d.lb, d.lm], by rw [d.lb]; exact h2, fun x hx => (d.ms x hx).1, hp, d.rows, fun k r h => ?_⟩
  obtain ⟨h1, h2⟩ := d.row k r h
  refine ⟨?_, by rw [h1, f0]⟩
  unfold fitR
  rw [decide_eq_true (by omega), decide_eq_true (by omega), List.all_eq_true.mpr fun f hf => (h2 f hf).2.2.2]
  rfl
theorem Drawn.small {t : Tb} {many forms most steps : Nat} (d : Drawn t many forms most steps) (h2 : many ≤ 2) (hf : 1 ≤ forms ∧ forms ≤ 12) (hp : prodL t.b t.m < 64) (hs : steps ≤ 1000) (hm : most ≤ 1000) : t.Small := by
  have ok := d.ok h2 hf (by omega)
  have rw' : ∀ r ∈ t.rows, ∃ k : Nat, t.rows[k]? = some r := fun r hr => by
    obtain ⟨k, hk, rfl⟩ := List.getElem_of_mem hr
    exact ⟨k, List.getElem?_eq_getElem hk⟩
  refine ⟨ok, fun x hx => by have := d.bs x hx; omega, fun x hx => by have := d.ms x hx; omega, by rw [d.rows]; exact hp, fun r hr f hf => ?_, fun r hr => ?_⟩
  · obtain ⟨k, hk⟩ := rw' r hr
    obtain ⟨h1, h2, h3, _⟩ := (d.row k r hk).2 f hf
    exact ⟨by omega, by rw [h2, d.lb], fun s hs => by have := h3 s hs; omega⟩
  · obtain ⟨k, hk⟩ := rw' r hr
    obtain ⟨h1, h2⟩ := ok.fit k r hk
    refine ⟨fun e => ?_, h2⟩
    subst e
    exact absurd h1 (by unfold fitR; simp)
/-- a thing in the place of names -/
structure Thing (d : D) : Prop where
  tame : tame1 d
  four : ∀ xs, d = .tup xs → ∀ x ∈ xs, ∀ z, x = .str z → z.length ≠ 4
def lenOf : D → Nat
  | .tup xs => xs.length
  | _ => 0
theorem isNms_strs {d : D} {lo hi : Int} (h : isNms d lo hi = true) : ∃ ss : List Str, d = .tup (ss.map .str) := by
  cases d <;> first | (cases h; done) | skip
  rename_i xs
  have h : (decide (lo ≤ (xs.length : Nat)) && decide ((xs.length : Int) ≤ hi) && xs.all isNm && decide (xs.map strOf).Nodup) = true := h
  simp only [Bool.and_eq_true] at h
  refine ⟨xs.map strOf, ?_⟩
  congr 1
  have ha := List.all_eq_true.mp h.1.2
  have e : xs.map (D.str ∘ strOf) = xs.map id := List.map_congr_left fun x hx => (isNm_str (ha x hx)).symm
  rw [List.map_map, e, List.map_id]
theorem nm_len (u : Nat) : (nm u).length = 4 := rfl
theorem good_of {a b : List Str} (h1 : ∀ z ∈ a, z.length ≠ 4) (h2 : ∀ z ∈ b, z.length ≠ 4) : Good (a ++ b) := fun u h => by
  rcases List.mem_append.mp h with h | h
  · exact absurd (nm_len u) (h1 _ h)
  · exact absurd (nm_len u) (h2 _ h)
theorem Thing.strs {ss : List Str} (t : Thing (.tup (ss.map .str))) : ∀ z ∈ ss, z.length ≠ 4 := fun z hz => t.four _ rfl (.str z) (List.mem_map_of_mem hz) z rfl
def nmsOk (tb : Tb) (one other : D) : Bool := isNms one 0 2 && decide (lenOf one = tb.b.length) && isNms other 1 4 && decide (lenOf other = (tb.rows.getD 0 []).length)
theorem pf_let {tb : Tb} (h : tb.Small) {one other : D} (t1 : Thing one) (t2 : Thing other) (e : nmsOk tb one other = true) (S : Store) : ∃ d S', d_program_for [tbD tb, one, other] S = .ok (d, S') ∧ ∀ i, i < S.length → S'[i]? = S[i]? := by
  unfold nmsOk at e
  simp only [Bool.and_eq_true, decide_eq_true_eq] at e
  obtain ⟨⟨⟨e1, e2⟩, e3⟩, e4⟩ := e
  obtain ⟨given, rfl⟩ := isNms_strs e1
  obtain ⟨told, rfl⟩ := isNms_strs e3
  have e2 : (given.map D.str).length = tb.b.length := e2
  have e4 : (told.map D.str).length = (tb.rows.getD 0 []).length := e4
  rw [List.length_map] at e2 e4
  refine ⟨_, _, program_for_ok h e1 e2 e3 e4 t1.tame t2.tame (good_of t1.strs t2.strs), fun i hi => ?_⟩
  unfold mkS
  rw [List.getElem?_append_left hi]
theorem pf_bad {tb : Tb} (h : tb.Small) {one other : D} (t1 : Thing one) (t2 : Thing other) (e : nmsOk tb one other = false) (S : Store) : d_program_for [tbD tb, one, other] S = .exc "NoNames" [] S := by
  have pp := prodL_pos tb.b tb.m h.pos
  have r0 : 0 < tb.rows.length := by rw [h.rows]; omega
  have e1 := are_names_ok t1.tame 0 2 (by decide)
  have e2 := are_names_ok t2.tame 1 4 (by decide)
  have e3 := many_results_ok (t := tb) r0
  unfold nmsOk at e
  unfold d_program_for b_program_for
  rw [runD_a (n := 3) rfl]
  cases h1 : isNms one 0 2 with
  | false =>
    rw [h1] at e1
    simp? [e1]
  | true =>
    rw [h1] at e1 e
    obtain ⟨given, rfl⟩ := isNms_strs h1
    have lg : lenOf (.tup (given.map .str)) = given.length := by show (given.map D.str).length = _; rw [List.length_map]
    rw [lg] at e
    have ng : neD (.int (given.map D.str).length) (.int tb.b.length) = some (!decide (given.length = tb.b.length)) := by
      rw [neD_i, List.length_map]
      congr 2
      exact decide_eq_decide.mpr (by omega)
    cases h2 : decide (given.length = tb.b.length) with
    | false =>
      rw [h2] at ng
      simp? [e1, dr_tb, f_tb, dr_tuN, len_tuN, ng]
    | true =>
      rw [h2] at ng e
      cases h3 : isNms other 1 4 with
      | false =>
        rw [h3] at e2
        simp? [e1, e2, dr_tb, f_tb, dr_tuN, len_tuN, ng]
      | true =>
        rw [h3] at e2 e
        obtain ⟨told, rfl⟩ := isNms_strs h3
        have lt : lenOf (.tup (told.map .str)) = told.length := by show (told.map D.str).length = _; rw [List.length_map]
        rw [lt] at e
        have nt : neD (.int (told.map D.str).length) (nD (tb.rows.getD 0 []).length) = some true := by
          have : decide (told.length = (tb.rows.getD 0 []).length) = false := by simpa using e
          rw [neD_i, List.length_map]
          congr 1
          rw [decide_eq_false (by have := of_decide_eq_false this; omega)]
          rfl
        simp? [e1, e2, e3, dr_tb, f_tb, dr_tuN, len_tuN, ng, nt]
def wordOf (b : Bool) : Str := if b then "let" else "names"
theorem word_ok {tb : Tb} (h : tb.Small) {one other : D} (t1 : Thing one) (t2 : Thing other) (S : Store) : ∃ S', d__law_word [tbD tb, one, other] S = .ok (.str (wordOf (nmsOk tb one other)), S') ∧ ∀ i, i < S.length → S'[i]? = S[i]? := by
  cases e : nmsOk tb one other with
  | true =>
    obtain ⟨d, S', e1, e2⟩ := pf_let h t1 t2 e S
    refine ⟨S', ?_, e2⟩
    unfold d__law_word b__law_word
    rw [runD_a (n := 3) rfl]
    simp? [e1, catchX]
    rfl
  | false =>
    have e1 := pf_bad h t1 t2 e S
    refine ⟨S, ?_, fun _ _ => rfl⟩
    have c : ∀ su, catchX etab "RoundError" 4 su (.ex "NoNames" [] [.val (tbD tb), .val one, .val other, .val (.str "let"), .no] S) = finX 4 (su ["NoNames", "RoundError", "ValueError"] [.val (tbD tb), .val one, .val other, .val (.str "let"), .xc] S) := fun su => rfl
    unfold d__law_word b__law_word
    rw [runD_a (n := 3) rfl]
    simp? [e1, c]
    rfl
theorem ok_word (a : Bool) : PyData.strOk (wordOf a) = true := by cases a <;> decide +kernel
theorem word_eq (a b : Bool) : (wordOf a = wordOf b) ↔ a = b := by
  cases a <;> cases b <;> simp [wordOf] <;> decide +kernel
theorem ne_word (a b : Bool) : neD (.str (wordOf a)) (.str (wordOf b)) = some (!decide (a = b)) := by
  unfold neD
  rw [eqD_s (ok_word a) (ok_word b)]
  show some (!decide _) = _
  congr 2
  exact decide_eq_decide.mpr (word_eq a b)
/-! the law's own look at names -/
theorem strOf_eq {d : D} {z : Str} (h : d = .str z) : strOf d = z := by subst h; rfl
theorem ite_not2 {α : Type} (a b : Bool) (x y : α) : (if (!a || !b) = true then x else y) = if (a && b) = true then y else x := by cases a <;> cases b <;> rfl
theorem lis_name {d : D} (h : tameS d) {x0 x1 s3 : Slot} {S : Store} : L0__law_is_names [x0, x1, .val d, s3] S = if isNm d then .nx [x0, x1, .val d, s3] S else .rt (.bl false) S := by
  unfold L0__law_is_names
  have t1 := isi_tame h.1 (m := "str") (by decide)
  cases hb : tyB "str" d with
  | false =>
    have e : isNm d = false := by cases d <;> first | rfl | exact absurd hb (by simp [tyB, biB])
    simp? [t1, hb, e]
  | true =>
    obtain ⟨z, rfl⟩ := isStr_of hb
    have hz : z.length ≤ 16777216 := by
      have := h.2 z rfl
      omega
    have lo := fun S => low_ok (S := S) (i := 3) (ρ := [x0, x1, .val (.str z), .no]) (z := z) (show 3 < 4 from by decide)
    have d1 : decide ((0 : Int) < z.length) = decide ((1 : Int) ≤ z.length) := decide_eq_decide.mpr (by omega)
    have d2 : decide ((z.length : Int) < 9) = decide ((z.length : Int) ≤ 8) := decide_eq_decide.mpr (by omega)
    simp? [t1, hb, len_s hz, walk_s hz, lo, allD_map, d1, d2, isNm]
    exact ite_not2 _ _ _ _
theorem law_is_names_ok {d : D} (h : tame1 d) {n : Nat} (hn : n ≤ 4000) (S : Store) : d__law_is_names [d, nD n] S = .ok (.bl (isNms d n n), S) := by
  unfold d__law_is_names b__law_is_names
  rw [runD_a (n := 2) rfl]
  have t1 := isi_tame h.1 (m := "tuple") (by decide)
  cases hb : tyB "tuple" d with
  | false =>
    have e : isNms d n n = false := by cases d <;> first | rfl | exact absurd hb (by simp [tyB, biB])
    simp? [t1, hb, e]
  | true =>
    obtain ⟨xs, rfl⟩ := isTup_of h.1 hb
    have e0 : isNms (.tup xs) n n = (decide (xs.length = n) && (xs.all isNm && decide (xs.map strOf).Nodup)) := by
      show (decide ((n : Int) ≤ xs.length) && decide ((xs.length : Int) ≤ n) && xs.all isNm && decide (xs.map strOf).Nodup) = _
      rw [Bool.and_assoc]
      congr 1
      by_cases e : xs.length = n
      · rw [decide_eq_true (by omega), decide_eq_true (by omega), decide_eq_true e]; rfl
      · rw [decide_eq_false e]
        by_cases e2 : xs.length ≤ n
        · rw [decide_eq_false (show ¬ (n : Int) ≤ xs.length from by omega)]; rfl
        · rw [decide_eq_false (show ¬ (xs.length : Int) ≤ n from by omega), Bool.and_false]
    have nn : neD (.int xs.length) (.int n) = some (!decide (xs.length = n)) := by
      rw [neD_i]
      congr 2
      exact decide_eq_decide.mpr (by omega)
    cases hl : decide (xs.length = n) with
    | false =>
      rw [hl] at nn
      simp? [t1, hb, nn, e0, hl]
    | true =>
      rw [hl] at nn
      obtain ⟨f1, f2⟩ := forL_findD (S := S) (n := gN 2) (body := L0__law_is_names) (o := fun _ => .rt (.bl false) S) (fun ρ => ∃ s2 s3, ρ = [.val (.tup xs), .val (nD n), s2, s3]) (fun x => !isNm x) xs [.val (.tup xs), .val (nD n), .no, .no] ⟨_, _, rfl⟩ fun x ρ hx hR => by
        obtain ⟨s2, s3, rfl⟩ := hR
        have l := lis_name (h.2 xs (.inl rfl) x hx) (x0 := .val (.tup xs)) (x1 := .val (nD n)) (s3 := s3) (S := S)
        refine ⟨[.val (.tup xs), .val (nD n), .val x, s3], rfl, fun hb => ⟨[.val (.tup xs), .val (nD n), .val x, s3], ?_, _, _, rfl⟩, fun hb => ⟨.bl false, ?_, rfl⟩⟩
        · have : isNm x = true := by simpa using hb
          rw [l, if_pos this]
        · have : isNm x = false := by simpa using hb
          rw [l, this]; rfl
      cases ha : xs.all isNm with
      | false =>
        have : ∃ x, xs.find? (fun x => !isNm x) = some x := by
          rw [← Option.isSome_iff_exists, List.find?_isSome]
          have : ¬ ∀ x ∈ xs, isNm x = true := fun h => by rw [List.all_eq_true.mpr h] at ha; cases ha
          simpa using this
        obtain ⟨x, hx⟩ := this
        have f2 := f2 x hx
        simp? [t1, hb, nn, f2, e0, ha]
      | true =>
        have : xs.find? (fun x => !isNm x) = none := by
          rw [List.find?_eq_none]
          intro x hx
          simpa using List.all_eq_true.mp ha x hx
        obtain ⟨ρ', f1, s2, s3, rfl⟩ := f1 this
        have hl' := of_decide_eq_true hl
        have ls := lenset_nms ha (by omega)
        have se : eqD (.int (uq (xs.map fun x => (Sum.inr (strOf x) : L2.Key))).length) (.int n) = some (decide (xs.map strOf).Nodup) := by
          rw [eqD_i, ← set_len, hl']
        simp? [t1, hb, nn, f1, ls, se, e0, ha, hl]
end LW
end

section
set_option linter.all false
set_option maxRecDepth 100000
namespace LW
open PySem L2 GG
local macro_rules
  | `(tactic| simp? [$a,*] $[$l:location]?) => `(tactic| simp only [eC_a, eV_a, hE_a, hV_a, eH_a, eHB_a, eBin_a, eUn_a, eAnd_a, eOr_a, eNot_a, eIf_a, eCmp_a, eChain_a, aN_a, aC_a, eTup_a, eLst_a, eCall_a, eB_a, eFz_a, eAl_a, mLst_a, mLc_a, mLc2_a, mMk_a, mDic0_a, mList_a, eMeth_a, eIsi1_a, eIsi_a, eInH_a, eSl_a, oX_none, oX_some, bV_a, bT_a, bAnd_a, bOr_a, bNot_a, bTrue_a, iS_a, iEn_a, iZ_a, iR1_a, iR2_a, iR3_a, sSeq_a, sNil_a, sExpr_a, sRet_a, sRetN_a, sIf_a, sBrk_a, sCnt_a, sSet_a, sOwn_a, sFz_a, sFor_a, sMt_a, sFld_a, sAsg_a, sRaise_a, sTry_a, sMethO_a, endD_rt, endD_nx, endD_ex, bok, bex, oso, sok, sxc, cok, qnx, qrt, qbk, qct, qex, lnx, lct, lbk, lrt, lxc, oss, okk, obs, oms, add_i, sub_i, neg_i, lt_i, le_i, gt_i, ge_i, len_l, len_t, len_f, len_d, idx_l, idx_t, idx_f, walk_l, walk_t, walk_f, seq_l, seq_t, tuple_l, tuple_t, int_i, atI_0, atI_1, atI_2, dr_n, dr_b, dr_i, dr_s, dr_l, dr_t, dr_k, dr_f, dr_d, dr_o, dr_p, dr_w, now_l, now_d, now_o, frz_l, frz_d, frz_o, isL_l, frzAt, cu_p, cu_w, pu_p, pu_w, startD, startO, List.map_cons, List.map_nil, List.replicate, List.cons_append, List.nil_append, List.length_cons, List.length_nil, Nat.zero_add, Nat.reduceAdd, List.getElem?_cons_zero, List.getElem?_cons_succ, List.set_cons_zero, List.set_cons_succ, if_true, if_false, reduceIte, Bool.false_eq_true, bD_b, tru_n, tru_b, tru_l, tru_t, gN_a, gT_t, gAll_n, gAll_c, wipeD, ite_and, ite_or, ite_andB, ite_orB, szOk_0, szOk_1, szOk_2, szOk_3, szOk_4, Bool.not_true, Bool.not_false, Bool.true_and, Bool.and_true, Bool.false_and, Bool.and_false, Bool.true_or, Bool.or_true, Bool.false_or, Bool.or_false, decide_true, decide_false, tT, tAll, tN, tI, setI, $a,*] $[$l:location]?)
/-! ### bent names -/
def El (x : D) : Prop := tameS x ∧ ∀ z, x = .str z → z.length ≠ 4
theorem thing_tup {xs : List D} (h : ∀ x ∈ xs, El x) : Thing (.tup xs) :=
  ⟨⟨rfl, fun ys e x hx => by
    rcases e with e | e
    · cases e; exact (h x hx).1
    · cases e⟩, fun ys e x hx z hz => by cases e; exact (h x hx).2 z hz⟩
theorem thing_lst {xs : List D} (h : ∀ x ∈ xs, El x) : Thing (.lst xs) :=
  ⟨⟨rfl, fun ys e x hx => by
    rcases e with e | e
    · cases e
    · cases e; exact (h x hx).1⟩, fun ys e => by cases e⟩
theorem thing_flat {d : D} (h : tame d = true) (h1 : ∀ xs, d ≠ .tup xs) (h2 : ∀ xs, d ≠ .lst xs) : Thing d :=
  ⟨⟨h, fun ys e x hx => by
    rcases e with e | e
    · exact absurd e (h1 _)
    · exact absurd e (h2 _)⟩, fun ys e => absurd e (h1 _)⟩
theorem cut_sub {xs : List D} {lo hi : Option Int} {x : D} (h : x ∈ cutD xs lo hi) : x ∈ xs := List.mem_of_mem_drop (List.mem_of_mem_take h)
theorem cut_len (xs : List D) (lo hi : Option Int) : (cutD xs lo hi).length ≤ xs.length := by
  unfold cutD
  rw [List.length_take, List.length_drop]
  omega
theorem at_mem {xs : List D} {r : Nat} (h : r < xs.length) : ∃ x, atI xs (r : Int) = some x ∧ x ∈ xs :=
  ⟨xs[r], GG.atI_nat (List.getElem?_eq_getElem h), List.getElem_mem h⟩
def Deepy (t : D) : Prop := ∃ xs, t = .tup xs ∧ ∀ x ∈ xs, ∃ ys, x = .tup ys
theorem deep_loop {S : Store} {x0 : Slot} : ∀ (ds : List D) (t : D) (s2 : Slot), Deepy t → ∃ t' s2', forL (gN 2) L0__law_deep ds [x0, .val t, s2] S = .nx [x0, .val t', s2'] S ∧ Deepy t'
  | [], t, s2, h => ⟨t, s2, rfl, h⟩
  | d :: ds, t, s2, h => by
    obtain ⟨t', s2', e, h'⟩ := deep_loop ds (.tup [t]) (.val d) (S := S) (x0 := x0) ⟨[t], rfl, fun x hx => by
      rw [List.mem_singleton] at hx
      subst hx
      obtain ⟨ys, rfl, _⟩ := h
      exact ⟨ys, rfl⟩⟩
    refine ⟨t', s2', ?_, h'⟩
    rw [forL_cons (ρ' := [x0, .val t, .val d]) rfl]
    exact e
theorem deep_ok (S : Store) : ∃ t, d__law_deep [] S = .ok (t, S) ∧ Deepy t := by
  obtain ⟨t, s2, e, h⟩ := deep_loop (S := S) (x0 := .no) ((List.range 36).map fun i => D.int (i : Nat)) (.tup []) .no ⟨[], rfl, by simp⟩
  refine ⟨t, ?_, h⟩
  unfold d__law_deep b__law_deep
  rw [runD_a (n := 0) rfl]
  have r : rngD1 [.int 36] = some ((List.range 36).map fun i => D.int (i : Nat)) := rng1 36 (by decide)
  simp? [r, e]
theorem thing_deep {t : D} (h : Deepy t) : Thing t := by
  obtain ⟨xs, rfl, h⟩ := h
  refine thing_tup fun x hx => ?_
  obtain ⟨ys, rfl⟩ := h x hx
  exact ⟨⟨rfl, fun z e => by cases e⟩, fun z e => by cases e⟩
theorem bent_ok {names : List Str} (hn : names.length ≤ 5) (hz : ∀ z ∈ names, z.length ≤ 8 ∧ z.length ≠ 4) {t : Tb} {S : Store} {p fuel : Nat} (P : Pot S p (fuel + 3)) :
    ∃ r S', d__law_bent [.ptr p, .tup (names.map .str), tbD t] S = .ok (r, S') ∧ Thing r ∧ Pot S' p fuel ∧ S'.length = S.length := by
  obtain ⟨a, S1, a1, e1, P1, g1⟩ := draw_nat (n := names.length + 1) P (by omega) (by omega)
  obtain ⟨b, S2, b1, e2, P2, g2⟩ := draw_nat (n := 11) P1 (by omega) (by omega)
  obtain ⟨c, S3, c1, e3, P3, g3⟩ := draw_nat (n := 13) P2 (by omega) (by omega)
  obtain ⟨dp, e4, h4⟩ := deep_ok S2
  have hs : ∀ x ∈ names.map D.str, El x := fun x hx => by
    obtain ⟨z, hz', rfl⟩ := List.mem_map.mp hx
    obtain ⟨z1, z2⟩ := hz z hz'
    exact ⟨⟨rfl, fun z e => by cases e; omega⟩, fun z e => by cases e; exact z2⟩
  have ls : ∀ z : Str, z.length ≤ 1000 → z.length ≠ 4 → El (.str z) := fun z h1 h2 => ⟨⟨rfl, fun z e => by cases e; omega⟩, fun z e => by cases e; exact h2⟩
  have nl : (names.map D.str).length ≤ 5 := by rw [List.length_map]; exact hn
  let odds : List D := [.str "", .str "A", .str "a b", .str "ninesigns", .int 0, .non, .bl true, .tup [.str "a"], .str "a1", .str "zz", tbD t]
  have ho : ∀ x ∈ odds, El x := fun x hx => by
    simp only [odds, List.mem_cons, List.not_mem_nil, or_false] at hx
    rcases hx with rfl | rfl | rfl | rfl | rfl | rfl | rfl | rfl | rfl | rfl | rfl <;> first
      | exact ls _ (by decide +kernel) (by decide +kernel)
      | exact ⟨⟨rfl, fun z e => by cases e⟩, fun z e => by cases e⟩
  obtain ⟨o, i1, i2⟩ := at_mem (xs := odds) (r := b) b1
  have eo := ho o i2
  generalize hN : names.map D.str = N at *
  let things : List D := [.tup (cutD N none (some a) ++ [o] ++ cutD N (some a) none), .tup (cutD N none (some a) ++ [o] ++ cutD N (some ((a : Int) + 1)) none), .tup (cutD N (some 1) none), .tup (N ++ cutD N none (some 1)), .lst N, .str (Txt.join "" names), .non, .int 0, .dic [] [], dp, tbD t, .tup N, .tup N.reverse]
  have ht : ∀ x ∈ things, Thing x := fun x hx => by
    have app2 : ∀ (xs ys : List D), (∀ x ∈ xs, El x) → (∀ x ∈ ys, El x) → ∀ x ∈ xs ++ ys, El x := fun xs ys h1 h2 x hx => by
      rcases List.mem_append.mp hx with h | h
      · exact h1 x h
      · exact h2 x h
    have cc : ∀ lo hi, ∀ x ∈ cutD N lo hi, El x := fun lo hi x hx => hs x (cut_sub hx)
    have co : ∀ x ∈ [o], El x := fun x hx => by rw [List.mem_singleton] at hx; subst hx; exact eo
    simp only [things, List.mem_cons, List.not_mem_nil, or_false] at hx
    rcases hx with rfl | rfl | rfl | rfl | rfl | rfl | rfl | rfl | rfl | rfl | rfl | rfl | rfl
    · exact thing_tup (app2 _ _ (app2 _ _ (cc _ _) co) (cc _ _))
    · exact thing_tup (app2 _ _ (app2 _ _ (cc _ _) co) (cc _ _))
    · exact thing_tup (cc _ _)
    · exact thing_tup (app2 _ _ hs (cc _ _))
    · exact thing_lst hs
    · exact thing_flat rfl (fun _ e => by cases e) (fun _ e => by cases e)
    · exact thing_flat rfl (fun _ e => by cases e) (fun _ e => by cases e)
    · exact thing_flat rfl (fun _ e => by cases e) (fun _ e => by cases e)
    · exact thing_flat rfl (fun _ e => by cases e) (fun _ e => by cases e)
    · exact thing_deep h4
    · exact thing_flat rfl (fun _ e => by cases e) (fun _ e => by cases e)
    · exact thing_tup hs
    · exact thing_tup fun x hx => hs x (List.mem_reverse.mp hx)
  obtain ⟨r, i3, i4⟩ := at_mem (xs := things) (r := c) c1
  refine ⟨r, S3, ?_, ht r i4, P3, g3.trans (g2.trans g1)⟩
  have sl : ∀ lo hi, sliceD lo hi (.tup N) = some (.tup (cutD N lo hi)) := fun _ _ => rfl
  have k1 := cut_len N none (some (a : Int))
  have k2 := cut_len N (some (a : Int)) none
  have k3 := cut_len N (some ((a : Int) + 1)) none
  have k5 := cut_len N none (some 1)
  have d1 : addD (.tup (cutD N none (some a))) (.tup [o]) = some (.tup (cutD N none (some a) ++ [o])) := add_t (by rw [List.length_singleton]; omega)
  have d2 : addD (.tup (cutD N none (some a) ++ [o])) (.tup (cutD N (some a) none)) = some (.tup (cutD N none (some a) ++ [o] ++ cutD N (some a) none)) := add_t (by rw [List.length_append, List.length_singleton]; omega)
  have d3 : addD (.tup (cutD N none (some a) ++ [o])) (.tup (cutD N (some ((a : Int) + 1)) none)) = some (.tup (cutD N none (some a) ++ [o] ++ cutD N (some ((a : Int) + 1)) none)) := add_t (by rw [List.length_append, List.length_singleton]; omega)
  have d4 : addD (.tup N) (.tup (cutD N none (some 1))) = some (.tup (N ++ cutD N none (some 1))) := add_t (by omega)
  have d5 : ∀ A B C E F G H I J K L M O : D, addD (.lst [A, B, C, E]) (.lst [F, G, H, I, J, K, L, M, O]) = some (.lst [A, B, C, E, F, G, H, I, J, K, L, M, O]) := fun _ _ _ _ _ _ _ _ _ _ _ _ _ => add_l (show 4 + 9 ≤ 16777216 from by decide)
  have sq : seqD (.tup N) = some N := rfl
  have sz9 : szOk 9 = true := by decide +kernel
  have sz11 : szOk 11 = true := by decide +kernel
  have sum8 : ∀ ns : List Str, (∀ z ∈ ns, z.length ≤ 8) → (ns.map (·.length)).sum ≤ ns.length * 8 := by
    intro ns
    induction ns with
    | nil => intro _; simp
    | cons z ns ih =>
      intro h
      rw [List.map_cons, List.sum_cons, List.length_cons, Nat.succ_mul]
      have := h z List.mem_cons_self
      have := ih fun z hz => h z (.tail _ hz)
      omega
  have jn : joinD (.str "") (.tup N) = some (.str (Txt.join "" names)) := by
    have e : strsD N = some names := by
      rw [← hN]
      have := strsD_map (fun z : Str => z) names
      rw [List.map_id'] at this
      exact this
    simp only [joinD, sq, obs, e]
    rw [if_pos]
    have h0 : ("" : Str).length = 0 := rfl
    have := sum8 names fun z h => (hz z h).1
    rw [h0]
    omega
  have ej : ∀ ρ S, ρ[1]? = some (.val (.tup N)) → eJoin (eC (.str "")) (hV 1) ρ S = .ok (.str (Txt.join "" names), S) := fun ρ S h => by
    unfold eJoin
    simp? [h, jn]
  have rv : revD (.tup N) = some (.tup N.reverse) := rfl
  have ln : lenD (.tup N) = some (.int names.length) := by rw [← hN, len_t, List.length_map]
  have e1 : d__law_draw [.ptr p, .int ((names.length : Int) + 1)] S = .ok (nD a, S1) := e1
  have e2 : d__law_draw [.ptr p, .int 11] S1 = .ok (nD b, S2) := e2
  have e3 : d__law_draw [.ptr p, .int 13] S2 = .ok (nD c, S3) := e3
  have i1 : atI [.str "", .str "A", .str "a b", .str "ninesigns", .int 0, .non, .bl true, .tup [.str "a"], .str "a1", .str "zz", tbD t] (b : Int) = some o := i1
  have i3 : atI [.tup (cutD N none (some a) ++ [o] ++ cutD N (some a) none), .tup (cutD N none (some a) ++ [o] ++ cutD N (some ((a : Int) + 1)) none), .tup (cutD N (some 1) none), .tup (N ++ cutD N none (some 1)), .lst N, .str (Txt.join "" names), .non, .int 0, .dic [] [], dp, tbD t, .tup N, .tup N.reverse] (c : Int) = some r := i3
  unfold d__law_bent b__law_bent
  rw [runD_a (n := 3) rfl]
  simp? [ln, e1, sz11, e2, i1, sl, d1, d2, d3, d4, sq, ej, e4, rv, sz9, d5, e3, i3, eMeth_a]
end LW
end

section
set_option linter.all false
set_option maxRecDepth 100000
namespace LW
open PySem L2 GG
local macro_rules
  | `(tactic| simp? [$a,*] $[$l:location]?) => `(tactic| simp only [eC_a, eV_a, hE_a, hV_a, eH_a, eHB_a, eBin_a, eUn_a, eAnd_a, eOr_a, eNot_a, eIf_a, eCmp_a, eChain_a, aN_a, aC_a, eTup_a, eLst_a, eCall_a, eB_a, eFz_a, eAl_a, mLst_a, mLc_a, mLc2_a, mMk_a, mDic0_a, mList_a, eMeth_a, eIsi1_a, eIsi_a, eInH_a, eSl_a, oX_none, oX_some, bV_a, bT_a, bAnd_a, bOr_a, bNot_a, bTrue_a, iS_a, iEn_a, iZ_a, iR1_a, iR2_a, iR3_a, sSeq_a, sNil_a, sExpr_a, sRet_a, sRetN_a, sIf_a, sBrk_a, sCnt_a, sSet_a, sOwn_a, sFz_a, sFor_a, sMt_a, sFld_a, sAsg_a, sRaise_a, sTry_a, sMethO_a, endD_rt, endD_nx, endD_ex, bok, bex, oso, sok, sxc, cok, qnx, qrt, qbk, qct, qex, lnx, lct, lbk, lrt, lxc, oss, okk, obs, oms, add_i, sub_i, neg_i, lt_i, le_i, gt_i, ge_i, len_l, len_t, len_f, len_d, idx_l, idx_t, idx_f, walk_l, walk_t, walk_f, seq_l, seq_t, tuple_l, tuple_t, int_i, atI_0, atI_1, atI_2, dr_n, dr_b, dr_i, dr_s, dr_l, dr_t, dr_k, dr_f, dr_d, dr_o, dr_p, dr_w, now_l, now_d, now_o, frz_l, frz_d, frz_o, isL_l, frzAt, cu_p, cu_w, pu_p, pu_w, startD, startO, List.map_cons, List.map_nil, List.replicate, List.cons_append, List.nil_append, List.length_cons, List.length_nil, Nat.zero_add, Nat.reduceAdd, List.getElem?_cons_zero, List.getElem?_cons_succ, List.set_cons_zero, List.set_cons_succ, if_true, if_false, reduceIte, Bool.false_eq_true, bD_b, tru_n, tru_b, tru_l, tru_t, gN_a, gT_t, gAll_n, gAll_c, wipeD, ite_and, ite_or, ite_andB, ite_orB, szOk_0, szOk_1, szOk_2, szOk_3, szOk_4, Bool.not_true, Bool.not_false, Bool.true_and, Bool.and_true, Bool.false_and, Bool.and_false, Bool.true_or, Bool.or_true, Bool.false_or, Bool.or_false, decide_true, decide_false, tT, tAll, tN, tI, setI, $a,*] $[$l:location]?)
/-! ### the law -/
theorem Pot.keep {S S' : Store} {p f : Nat} (P : Pot S p f) (h : ∀ i, i < S.length → S'[i]? = S[i]?) : Pot S' p f := by
  obtain ⟨q, gs, ss, tr, sm, h1, h2, r⟩ := P.ex
  exact ⟨q, gs, ss, tr, sm, by rw [h p (List.getElem?_eq_some_iff.mp h1).1]; exact h1, by rw [h q (List.getElem?_eq_some_iff.mp h2).1]; exact h2, r⟩
theorem isNms_iff {d : D} {lo hi : Int} {n : Nat} (h1 : lo ≤ n) (h2 : (n : Int) ≤ hi) : (isNms d lo hi && decide (lenOf d = n)) = isNms d n n := by
  cases d <;> first | rfl | skip
  rename_i xs
  show (decide (lo ≤ (xs.length : Int)) && decide ((xs.length : Int) ≤ hi) && xs.all isNm && decide (xs.map strOf).Nodup && decide (xs.length = n)) = (decide ((n : Int) ≤ xs.length) && decide ((xs.length : Int) ≤ n) && xs.all isNm && decide (xs.map strOf).Nodup)
  by_cases e : xs.length = n
  · rw [decide_eq_true (show lo ≤ (xs.length : Int) by omega), decide_eq_true (show (xs.length : Int) ≤ hi by omega), decide_eq_true (show (n : Int) ≤ xs.length by omega), decide_eq_true (show (xs.length : Int) ≤ n by omega), decide_eq_true e, Bool.and_true]
  · rw [decide_eq_false e, Bool.and_false]
    have : (decide ((n : Int) ≤ xs.length) && decide ((xs.length : Int) ≤ n)) = false := by
      by_cases e2 : xs.length ≤ n
      · rw [decide_eq_false (show ¬ (n : Int) ≤ xs.length by omega)]; rfl
      · rw [decide_eq_false (show ¬ (xs.length : Int) ≤ n by omega), Bool.and_false]
    rw [this]
    rfl
theorem nmsOk_eq {tb : Tb} {one other : D} {many forms : Nat} (hb : tb.b.length = many) (hf : (tb.rows.getD 0 []).length = forms) (hm : many ≤ 2) (h1 : 1 ≤ forms ∧ forms ≤ 4) : nmsOk tb one other = (isNms one many many && isNms other forms forms) := by
  unfold nmsOk
  rw [hb, hf, isNms_iff (by omega) (by omega), Bool.and_assoc, isNms_iff (by omega) (by omega)]
theorem clean_tuN (ns : List Nat) : clean (tuN ns) = true := by
  show cleanL (ns.map nD) = true
  rw [cleanL_iff]
  intro d hd
  obtain ⟨n, _, rfl⟩ := List.mem_map.mp hd
  rfl
theorem dep_tuN (ns : List Nat) : dep (tuN ns) ≤ 1 := by
  show depL (ns.map nD) + 1 ≤ 1
  have : depL (ns.map nD) ≤ 0 := depL_le.mpr fun d hd => by
    obtain ⟨n, _, rfl⟩ := List.mem_map.mp hd
    exact Nat.le_refl 0
  omega
theorem clean_form (f : Form) : clean (formD f) = true := by
  show (clean (nD f.1) && (clean (tuN f.2) && true)) = true
  rw [clean_tuN]
  rfl
theorem dep_form (f : Form) : dep (formD f) ≤ 2 := by
  show max (dep (nD f.1)) (max (dep (tuN f.2)) 0) + 1 ≤ 2
  have h := dep_tuN f.2
  have : dep (nD f.1) = 0 := rfl
  omega
theorem clean_row (r : List Form) : clean (rowD r) = true := by
  show cleanL (r.map formD) = true
  rw [cleanL_iff]
  intro d hd
  obtain ⟨n, _, rfl⟩ := List.mem_map.mp hd
  exact clean_form _
theorem dep_row (r : List Form) : dep (rowD r) ≤ 3 := by
  show depL (r.map formD) + 1 ≤ 3
  have : depL (r.map formD) ≤ 2 := depL_le.mpr fun d hd => by
    obtain ⟨n, _, rfl⟩ := List.mem_map.mp hd
    exact dep_form _
  omega
theorem clean_rows (r : List (List Form)) : clean (rowsD r) = true := by
  show cleanL (r.map rowD) = true
  rw [cleanL_iff]
  intro d hd
  obtain ⟨n, _, rfl⟩ := List.mem_map.mp hd
  exact clean_row _
theorem dep_rows (r : List (List Form)) : dep (rowsD r) ≤ 4 := by
  show depL (r.map rowD) + 1 ≤ 4
  have : depL (r.map rowD) ≤ 3 := depL_le.mpr fun d hd => by
    obtain ⟨n, _, rfl⟩ := List.mem_map.mp hd
    exact dep_row _
  omega
theorem eq_made (t : Tb) : eqD (.tup [tuN t.b, tuN t.m, rowsD t.rows]) (.tup [tuN t.b, tuN t.m, rowsD t.rows]) = some true := by
  refine eqD_same ?_ ?_
  · show (clean (tuN t.b) && (clean (tuN t.m) && (clean (rowsD t.rows) && true))) = true
    rw [clean_tuN, clean_tuN, clean_rows]
    rfl
  · show max (dep (tuN t.b)) (max (dep (tuN t.m)) (max (dep (rowsD t.rows)) 0)) + 1 ≤ 64
    have h1 := dep_tuN t.b
    have h2 := dep_tuN t.m
    have h3 := dep_rows t.rows
    omega
theorem cut_take (xs : List D) (n : Nat) : cutD xs none (some (n : Int)) = xs.take n := by
  unfold cutD
  rw [HT.sIx_nat]
  show (List.drop 0 xs).take (min n xs.length - 0) = _
  rw [List.drop_zero, Nat.sub_zero]
  by_cases h : n ≤ xs.length
  · rw [Nat.min_eq_left h]
  · rw [Nat.min_eq_right (by omega), List.take_length, List.take_of_length_le (by omega)]
theorem pick_ok {names : List Str} (hn : names.length ≤ 5) (hz : ∀ z ∈ names, z.length ≤ 8 ∧ z.length ≠ 4) {t : Tb} {S : Store} {p fuel k i : Nat} {ρ : LEnv} (hk : 1 ≤ k ∧ k ≤ 1000) (h1 : ρ[1]? = some (.val (.ptr p))) (hi : ρ[i]? = some (.val (.tup (names.map .str)))) (h4 : ρ[4]? = some (.val (tbD t))) (P : Pot S p (fuel + 4)) :
    ∃ d S', eIf (bV (eCmp eqD (eCall d__law_draw (aC (eV 1) (aC (eC (.int (k : Nat))) aN))) (eC (.int 0)))) (eV i) (eCall d__law_bent (aC (eV 1) (aC (eV i) (aC (eV 4) aN)))) ρ S = .ok (d, S') ∧ Thing d ∧ Pot S' p fuel ∧ S'.length = S.length := by
  obtain ⟨r, S1, _, e1, P1, g1⟩ := draw_nat (fuel := fuel + 3) (n := k) P hk.1 hk.2
  by_cases h : r = 0
  · subst h
    have z : decide (((0 : Nat) : Int) = 0) = true := rfl
    refine ⟨.tup (names.map .str), S1, by simp? [h1, hi, h4, e1, eqD_i, z], ?_, P1.less (by omega), g1⟩
    refine thing_tup fun x hx => ?_
    obtain ⟨z, hz', rfl⟩ := List.mem_map.mp hx
    obtain ⟨z1, z2⟩ := hz z hz'
    exact ⟨⟨rfl, fun z e => by cases e; omega⟩, fun z e => by cases e; exact z2⟩
  · obtain ⟨d, S2, e2, td, P2, g2⟩ := bent_ok hn hz (t := t) P1
    have z : decide (((r : Nat) : Int) = 0) = false := decide_eq_false (by omega)
    exact ⟨d, S2, by simp? [h1, hi, h4, e1, eqD_i, z, e2], td, P2, g2.trans g1⟩
theorem law_loop {t : Tb} (ht : t.Small) {many forms p : Nat} (hb : t.b.length = many) (hf : (t.rows.getD 0 []).length = forms) (hm : many ≤ 2) (h1 : 1 ≤ forms ∧ forms ≤ 4) {given told : List Str} (g1 : given.length ≤ 5) (g2 : ∀ z ∈ given, z.length ≤ 8 ∧ z.length ≠ 4) (t0 : told.length = forms) (t1 : told.length ≤ 5) (t2 : ∀ z ∈ told, z.length ≤ 8 ∧ z.length ≠ 4) {x0 x3 x5 : Slot} :
    ∀ (ds : List D) (S : Store) (s8 s9 s10 s11 : Slot), Pot S p (8 * ds.length) → ∃ S' s8' s9' s10' s11', forL (gN 8) L0_law ds [x0, .val (.ptr p), .val (nD many), x3, .val (tbD t), x5, .val (.tup (given.map .str)), .val (.tup (told.map .str)), s8, s9, s10, s11] S =
      .nx [x0, .val (.ptr p), .val (nD many), x3, .val (tbD t), x5, .val (.tup (given.map .str)), .val (.tup (told.map .str)), s8', s9', s10', s11'] S'
  | [], S, s8, s9, s10, s11, _ => ⟨S, s8, s9, s10, s11, rfl⟩
  | d :: ds, S, s8, s9, s10, s11, P => by
    have P : Pot S p ((8 * ds.length + 4) + 4) := P.less (by rw [List.length_cons]; omega)
    obtain ⟨one, S1, e1, td1, P1, _⟩ := pick_ok g1 g2 (t := t) (k := 2) (i := 6) (ρ := [x0, .val (.ptr p), .val (nD many), x3, .val (tbD t), x5, .val (.tup (given.map .str)), .val (.tup (told.map .str)), .val d, s9, s10, s11]) (by decide) rfl rfl rfl P
    obtain ⟨other, S2, e2, td2, P2, _⟩ := pick_ok t1 t2 (t := t) (k := 3) (i := 7) (ρ := [x0, .val (.ptr p), .val (nD many), x3, .val (tbD t), x5, .val (.tup (given.map .str)), .val (.tup (told.map .str)), .val d, .val one, s10, s11]) (by decide) rfl rfl rfl P1
    obtain ⟨S3, e3, k3⟩ := word_ok ht td1 td2 S2
    obtain ⟨S', s8', s9', s10', s11', ih⟩ := law_loop ht hb hf hm h1 g1 g2 t0 t1 t2 ds S3 (.val d) (.val one) (.val other) (.val (.str (wordOf (nmsOk t one other)))) (P2.keep k3) (x0 := x0) (x3 := x3) (x5 := x5)
    refine ⟨S', s8', s9', s10', s11', ?_⟩
    rw [forL_cons (ρ' := [x0, .val (.ptr p), .val (nD many), x3, .val (tbD t), x5, .val (.tup (given.map .str)), .val (.tup (told.map .str)), .val d, s9, s10, s11]) rfl]
    have i1 := law_is_names_ok td1.tame (n := many) (by omega)
    have i2 := law_is_names_ok td2.tame (n := told.length) (by omega)
    have eq := nmsOk_eq (one := one) (other := other) hb hf hm h1
    have lt : (told.map D.str).length = told.length := by rw [List.length_map]
    have e1 : eIf (bV (eCmp eqD (eCall d__law_draw (aC (eV 1) (aC (eC (.int 2)) aN))) (eC (.int 0)))) (eV 6) (eCall d__law_bent (aC (eV 1) (aC (eV 6) (aC (eV 4) aN)))) [x0, .val (.ptr p), .val (nD many), x3, .val (tbD t), x5, .val (.tup (given.map .str)), .val (.tup (told.map .str)), .val d, s9, s10, s11] S = .ok (one, S1) := e1
    have e2 : eIf (bV (eCmp eqD (eCall d__law_draw (aC (eV 1) (aC (eC (.int 3)) aN))) (eC (.int 0)))) (eV 7) (eCall d__law_bent (aC (eV 1) (aC (eV 7) (aC (eV 4) aN)))) [x0, .val (.ptr p), .val (nD many), x3, .val (tbD t), x5, .val (.tup (given.map .str)), .val (.tup (told.map .str)), .val d, .val one, s10, s11] S1 = .ok (other, S2) := e2
    have st : L0_law [x0, .val (.ptr p), .val (nD many), x3, .val (tbD t), x5, .val (.tup (given.map .str)), .val (.tup (told.map .str)), .val d, s9, s10, s11] S = .nx [x0, .val (.ptr p), .val (nD many), x3, .val (tbD t), x5, .val (.tup (given.map .str)), .val (.tup (told.map .str)), .val d, .val one, .val other, .val (.str (wordOf (nmsOk t one other)))] S3 := by
      have p1 : ∀ k : SX, sSeq (sSet 9 (eIf (bV (eCmp eqD (eCall d__law_draw (aC (eV 1) (aC (eC (.int 2)) aN))) (eC (.int 0)))) (eV 6) (eCall d__law_bent (aC (eV 1) (aC (eV 6) (aC (eV 4) aN)))))) k [x0, .val (.ptr p), .val (nD many), x3, .val (tbD t), x5, .val (.tup (given.map .str)), .val (.tup (told.map .str)), .val d, s9, s10, s11] S = k [x0, .val (.ptr p), .val (nD many), x3, .val (tbD t), x5, .val (.tup (given.map .str)), .val (.tup (told.map .str)), .val d, .val one, s10, s11] S1 := fun k => seq_nx (by rw [sSet_a, e1]; rfl)
      have p2 : ∀ k : SX, sSeq (sSet 10 (eIf (bV (eCmp eqD (eCall d__law_draw (aC (eV 1) (aC (eC (.int 3)) aN))) (eC (.int 0)))) (eV 7) (eCall d__law_bent (aC (eV 1) (aC (eV 7) (aC (eV 4) aN)))))) k [x0, .val (.ptr p), .val (nD many), x3, .val (tbD t), x5, .val (.tup (given.map .str)), .val (.tup (told.map .str)), .val d, .val one, s10, s11] S1 = k [x0, .val (.ptr p), .val (nD many), x3, .val (tbD t), x5, .val (.tup (given.map .str)), .val (.tup (told.map .str)), .val d, .val one, .val other, s11] S2 := fun k => seq_nx (by rw [sSet_a, e2]; rfl)
      unfold L0_law
      rw [p1, p2]
      rw [t0] at i2 lt
      have w0 : wordOf true = "let" := rfl
      have w1 : wordOf false = "names" := rfl
      have n0 : neD (.str "let") (.str "let") = some false := ne_word true true
      have n1 : neD (.str "names") (.str "names") = some false := ne_word false false
      rw [eq] at e3 ⊢
      cases ha : isNms one many many with
      | false =>
        rw [ha] at e3 i1
        simp? [i1, e3, n1, lt, w1]
      | true =>
        cases hb' : isNms other forms forms with
        | false =>
          rw [ha, hb'] at e3
          rw [ha] at i1
          rw [hb'] at i2
          simp? [i1, i2, e3, n1, lt, w1]
        | true =>
          rw [ha, hb'] at e3
          rw [ha] at i1
          rw [hb'] at i2
          simp? [i1, i2, e3, n0, lt, w0]
    rw [st, lnx]
    exact ih
def pool5 : List Str := ["a", "b", "c", "halfhalf", "x"]
theorem pool_nm : ∀ z ∈ pool5, isNm (.str z) = true := by
  intro z hz
  simp only [pool5, List.mem_cons, List.not_mem_nil, or_false] at hz
  rcases hz with rfl | rfl | rfl | rfl | rfl <;> decide +kernel
theorem pool_four : ∀ z ∈ pool5, z.length ≤ 8 ∧ z.length ≠ 4 := by
  intro z hz
  simp only [pool5, List.mem_cons, List.not_mem_nil, or_false] at hz
  rcases hz with rfl | rfl | rfl | rfl | rfl <;> decide +kernel
theorem pool_nodup : pool5.Nodup := by decide +kernel
/-- a drawn order of names -/
theorem mixed_strs {S : Store} {p fuel : Nat} {ns : List Str} (h1 : 1 ≤ ns.length) (h2 : ns.length ≤ 100) (P : Pot S p (fuel + ns.length)) :
    ∃ (ss : List Str) (S' : Store), d__law_mixed [.ptr p, .lst (ns.map .str)] S = .ok (.lst (ss.map .str), S') ∧ ss.Perm ns ∧ Pot S' p fuel ∧ S'.length = S.length := by
  obtain ⟨ys, S', e, pm, P', l⟩ := mixed_ok (xs := ns.map D.str) (by rw [List.length_map]; exact h1) (by rw [List.length_map]; exact h2) (by rw [List.length_map]; exact P)
  have hy : ∀ y ∈ ys, y = .str (strOf y) := fun y hy => by
    obtain ⟨z, _, rfl⟩ := List.mem_map.mp (pm.mem_iff.mp hy)
    rfl
  have ey : (ys.map strOf).map D.str = ys := by
    rw [List.map_map]
    have : ys.map (D.str ∘ strOf) = ys.map id := List.map_congr_left fun y h => (hy y h).symm
    rw [this, List.map_id]
  refine ⟨ys.map strOf, S', by rw [ey]; exact e, ?_, P', l⟩
  have := pm.map strOf
  rw [List.map_map] at this
  have e2 : ns.map (strOf ∘ D.str) = ns.map id := List.map_congr_left fun _ _ => rfl
  rw [e2, List.map_id] at this
  exact this
theorem nms_take {ss : List Str} (h : ss.Perm pool5) {n : Nat} (hn : n ≤ 5) {lo hi : Int} (h1 : lo ≤ n) (h2 : (n : Int) ≤ hi) : isNms (.tup ((ss.take n).map .str)) lo hi = true ∧ (ss.take n).length = n ∧ ∀ z ∈ ss.take n, z.length ≤ 8 ∧ z.length ≠ 4 := by
  have l5 : ss.length = 5 := h.length_eq
  have lt : (ss.take n).length = n := by rw [List.length_take, l5]; omega
  have mem : ∀ z ∈ ss.take n, z ∈ pool5 := fun z hz => h.mem_iff.mp (List.mem_of_mem_take hz)
  refine ⟨?_, lt, fun z hz => pool_four z (mem z hz)⟩
  show (decide (lo ≤ (((ss.take n).map D.str).length : Int)) && decide ((((ss.take n).map D.str).length : Int) ≤ hi) && ((ss.take n).map D.str).all isNm && decide (((ss.take n).map D.str).map strOf).Nodup) = true
  have e2 : ((ss.take n).map D.str).map strOf = ss.take n := by
    rw [List.map_map]
    have : (ss.take n).map (strOf ∘ D.str) = (ss.take n).map id := List.map_congr_left fun _ _ => rfl
    rw [this, List.map_id]
  have nd : (ss.take n).Nodup := (h.nodup_iff.mpr pool_nodup).sublist (List.take_sublist _ _)
  rw [e2, List.length_map, lt, decide_eq_true h1, decide_eq_true h2, decide_eq_true nd, List.all_eq_true.mpr]
  · rfl
  · intro d hd
    obtain ⟨z, hz, rfl⟩ := List.mem_map.mp hd
    exact pool_nm z (mem z hz)
theorem keeps : Keeps d_law := by
  intro ns hn
  obtain ⟨p, S0, e0, P0⟩ := pot_ok ns hn
  obtain ⟨many, S1, m1, e1, P1, _⟩ := draw_nat (n := 3) (fuel := 899999) (P0.less (by decide)) (by decide) (by decide)
  obtain ⟨f, S2, f1, e2, P2, _⟩ := draw_nat (n := 3) (fuel := 899998) P1 (by decide) (by decide)
  have pw : (2 * 1) ^ many ≤ 4 := by
    have : many = 0 ∨ many = 1 ∨ many = 2 := by omega
    rcases this with rfl | rfl | rfl <;> decide
  have ar : 4 * ((1 + f) * (many + 1)) ≤ 4 * (3 * 3) := Nat.mul_le_mul_left _ (Nat.mul_le_mul (by omega) (by omega))
  obtain ⟨t, S3, dr, e3, P3, _⟩ := law_table_ok (S := S2) (p := p) (many := many) (forms := 1 + f) (most := 1) (steps := 5) (fuel := 800000) (N := 4) (by decide) (by omega) (by omega) (by decide) (by decide) pw (by decide) (P2.less (by omega))
  have hp : prodL t.b t.m ≤ 4 := by
    refine Nat.le_trans (prodL_pow (c := 2) (by decide) (by rw [dr.lb, dr.lm]) fun q hq => ?_) (by rw [dr.lb]; exact pw)
    obtain ⟨q1, q2⟩ := List.of_mem_zip hq
    have := dr.bs _ q1
    have := (dr.ms _ q2).2
    omega
  have sm := dr.small (by omega) (by omega) (by omega) (by decide) (by decide)
  have r0 : 0 < t.rows.length := by
    have := prodL_pos t.b t.m sm.pos
    rw [dr.rows]; omega
  have rf : (t.rows.getD 0 []).length = 1 + f := (dr.row 0 _ (by rw [List.getD_eq_getElem?_getD, List.getElem?_eq_getElem r0]; rfl)).1
  have e4 := table_init_ok sm.toOk S3
  obtain ⟨ss, S5, e5, pm5, P5, _⟩ := mixed_strs (S := S3) (p := p) (fuel := 799995) (ns := pool5) (by decide) (by decide) (P3.less (by decide))
  obtain ⟨s2, S6, e6, pm6, P6, _⟩ := mixed_strs (S := S5) (p := p) (fuel := 799990) (ns := ss) (by rw [pm5.length_eq]; decide) (by rw [pm5.length_eq]; decide) (P5.less (by rw [pm5.length_eq]; decide))
  have pm6 := pm6.trans pm5
  obtain ⟨g1, g2, g3⟩ := nms_take pm5 (n := many) (by omega) (lo := 0) (hi := 2) (by omega) (by omega)
  obtain ⟨t1, t2, t3⟩ := nms_take pm6 (n := 1 + f) (by omega) (lo := 1) (hi := 4) (by omega) (by omega)
  have tg : ∀ (ss : List Str) (n : Nat), (∀ z ∈ ss.take n, z.length ≤ 8 ∧ z.length ≠ 4) → Thing (.tup ((ss.take n).map .str)) := fun ss n h => thing_tup fun x hx => by
    obtain ⟨z, hz', rfl⟩ := List.mem_map.mp hx
    obtain ⟨z1, z2⟩ := h z hz'
    exact ⟨⟨rfl, fun z e => by cases e; omega⟩, fun z e => by cases e; exact z2⟩
  obtain ⟨S7, e7, k7⟩ := word_ok sm (tg ss many g3) (tg s2 (1 + f) t3) S6
  have w : nmsOk t (.tup ((ss.take many).map .str)) (.tup ((s2.take (1 + f)).map .str)) = true := by
    unfold nmsOk
    have l1 : lenOf (.tup ((ss.take many).map .str)) = many := by show ((ss.take many).map D.str).length = _; rw [List.length_map, g2]
    have l2 : lenOf (.tup ((s2.take (1 + f)).map .str)) = 1 + f := by show ((s2.take (1 + f)).map D.str).length = _; rw [List.length_map, t2]
    rw [g1, t1, l1, l2, dr.lb, rf, decide_eq_true rfl, decide_eq_true rfl]
    rfl
  rw [w] at e7
  obtain ⟨S8, s8, s9, s10, s11, e8⟩ := law_loop sm dr.lb rf (by omega) (by omega) (given := ss.take many) (told := s2.take (1 + f)) (by omega) g3 t2 (by omega) t3 (x0 := .val (.frl (ns.map .int))) (x3 := .val (.tup [tuN t.b, tuN t.m, rowsD t.rows])) (x5 := .val (.lst (ss.map .str))) ((List.range 6).map fun i => D.int (i : Nat)) S7 .no .no .no .no ((P6.keep k7).less (by decide))
  refine ⟨S8, ?_⟩
  have a1 : D.int (1 + (f : Int)) = nD (1 + f) := by
    show D.int _ = D.int _
    congr 1
  have e0 : d__law_pot [.frl (ns.map .int)] [] = .ok (.ptr p, S0) := e0
  have e1 : d__law_draw [.ptr p, .int 3] S0 = .ok (nD many, S1) := e1
  have e2 : d__law_draw [.ptr p, .int 3] S1 = .ok (nD f, S2) := e2
  have e3 : d__law_table [.ptr p, nD many, nD (1 + f), .int 1, .int 5] S2 = _ := e3
  have e5 : d__law_mixed [.ptr p, .lst [.str "a", .str "b", .str "c", .str "halfhalf", .str "x"]] S3 = _ := e5
  have sz5 : szOk 5 = true := by decide +kernel
  have sl : ∀ (xs : List D) (n : Nat), sliceD none (some (n : Int)) (.lst xs) = some (.lst (xs.take n)) := fun xs n => by
    show some (D.lst (cutD xs none (some (n : Int)))) = _
    rw [cut_take]
  have mt : ∀ (xs : List Str) (n : Nat), (xs.map D.str).take n = (xs.take n).map D.str := fun xs n => List.map_take.symm
  have i0 : idxD (rowsD t.rows) (.int 0) = some (rowD (t.rows.getD 0 [])) := at_map (k := 0) (by
    rw [List.getD_eq_getElem?_getD, List.getElem?_eq_getElem r0]
    rfl)
  have ng : neD (.str (wordOf true)) (.str "let") = some false := ne_word true true
  have r6 : rngD1 [.int 6] = some ((List.range 6).map fun i => D.int (i : Nat)) := rng1 6 (by decide)
  have fz : ∀ a b c : D, D.obj "Table" ["bounds", "measures", "rows"] [tuN t.b, tuN t.m, rowsD t.rows] = tbD t := fun _ _ _ => rfl
  have fz : D.obj "Table" ["bounds", "measures", "rows"] [tuN t.b, tuN t.m, rowsD t.rows] = tbD t := rfl
  have em := eq_made t
  unfold d_law b_law
  rw [runD_a (n := 1) rfl]
  simp? [e0, e1, e2, a1, e3, e4, fz, sz5, e5, sl, mt, e6, dr_rows, i0, dr_row, len_row, rf, e7, ng, r6, e8, dr_tb, f_tb, f_tm, f_tr, em]
end LW
end

section
set_option linter.all false
set_option maxRecDepth 100000
namespace LW
open PySem L2 GG
open PyProof.Rows hiding St
set_option maxHeartbeats 0
section
variable {P : Program} {w : World} {K : PySem.W.Frag} {mg : Str → Option Value} {base : Heap} {A : Ad}
theorem chain (T : Tx K mg A) {fd_is_integer : FuncData} (FF_is_integer : Fun K "is_integer" "is_integer" (top 6) A.f_is_integer fd_is_integer) {fd_is_number : FuncData} (FF_is_number : Fun K "is_number" "is_number" (top 7) A.f_is_number fd_is_number) {fd_is_name : FuncData} (FF_is_name : Fun K "is_name" "is_name" (top 8) A.f_is_name fd_is_name) {fd_are_names : FuncData} (FF_are_names : Fun K "are_names" "are_names" (top 9) A.f_are_names fd_are_names) {fd_are_numbers : FuncData} (FF_are_numbers : Fun K "are_numbers" "are_numbers" (top 10) A.f_are_numbers fd_are_numbers) {fd_RawProgram___init__ : FuncData} (FF_RawProgram___init__ : Fun K "__init__" "RawProgram.__init__" (inClass (top 18) 0) A.f_RawProgram___init__ fd_RawProgram___init__) {fd_are_bounds : FuncData} (FF_are_bounds : Fun K "are_bounds" "are_bounds" (top 23) A.f_are_bounds fd_are_bounds) {fd_are_measures : FuncData} (FF_are_measures : Fun K "are_measures" "are_measures" (top 24) A.f_are_measures fd_are_measures) {fd_many_cells : FuncData} (FF_many_cells : Fun K "many_cells" "many_cells" (top 25) A.f_many_cells fd_many_cells) {fd_cells_of : FuncData} (FF_cells_of : Fun K "cells_of" "cells_of" (top 26) A.f_cells_of fd_cells_of) {fd_is_great : FuncData} (FF_is_great : Fun K "is_great" "is_great" (top 27) A.f_is_great fd_is_great) {fd_is_form : FuncData} (FF_is_form : Fun K "is_form" "is_form" (top 28) A.f_is_form fd_is_form) {fd_is_row : FuncData} (FF_is_row : Fun K "is_row" "is_row" (top 29) A.f_is_row fd_is_row) {fd_Table_keep : FuncData} (FF_Table_keep : Fun K "keep" "Table.keep" (inClass (top 30) 1) A.f_Table_keep fd_Table_keep) {fd_Table___init__ : FuncData} (FF_Table___init__ : Fun K "__init__" "Table.__init__" (inClass (top 30) 0) A.f_Table___init__ fd_Table___init__) {fd_many_results : FuncData} (FF_many_results : Fun K "many_results" "many_results" (top 31) A.f_many_results fd_many_results) {fd_name_by_number : FuncData} (FF_name_by_number : Fun K "name_by_number" "name_by_number" (top 35) A.f_name_by_number fd_name_by_number) {fd_Maker___init__ : FuncData} (FF_Maker___init__ : Fun K "__init__" "Maker.__init__" (inClass (top 36) 0) A.f_Maker___init__ fd_Maker___init__) {fd_Maker_fresh : FuncData} (FF_Maker_fresh : Fun K "fresh" "Maker.fresh" (inClass (top 36) 1) A.f_Maker_fresh fd_Maker_fresh) {fd_Maker_many_fresh : FuncData} (FF_Maker_many_fresh : Fun K "many_fresh" "Maker.many_fresh" (inClass (top 36) 2) A.f_Maker_many_fresh fd_Maker_many_fresh) {fd_Maker_put : FuncData} (FF_Maker_put : Fun K "put" "Maker.put" (inClass (top 36) 3) A.f_Maker_put fd_Maker_put) {fd_Maker_one : FuncData} (FF_Maker_one : Fun K "one" "Maker.one" (inClass (top 36) 4) A.f_Maker_one fd_Maker_one) {fd_Maker_copied_if : FuncData} (FF_Maker_copied_if : Fun K "copied_if" "Maker.copied_if" (inClass (top 36) 5) A.f_Maker_copied_if fd_Maker_copied_if) {fd_Maker_reached : FuncData} (FF_Maker_reached : Fun K "reached" "Maker.reached" (inClass (top 36) 6) A.f_Maker_reached fd_Maker_reached) {fd_Maker_divided : FuncData} (FF_Maker_divided : Fun K "divided" "Maker.divided" (inClass (top 36) 7) A.f_Maker_divided fd_Maker_divided) {fd_Maker_parted : FuncData} (FF_Maker_parted : Fun K "parted" "Maker.parted" (inClass (top 36) 8) A.f_Maker_parted fd_Maker_parted) {fd_Maker_cell_flag : FuncData} (FF_Maker_cell_flag : Fun K "cell_flag" "Maker.cell_flag" (inClass (top 36) 9) A.f_Maker_cell_flag fd_Maker_cell_flag) {fd_Maker_constants : FuncData} (FF_Maker_constants : Fun K "constants" "Maker.constants" (inClass (top 36) 10) A.f_Maker_constants fd_Maker_constants) {fd_Maker_add_steps : FuncData} (FF_Maker_add_steps : Fun K "add_steps" "Maker.add_steps" (inClass (top 36) 12) A.f_Maker_add_steps fd_Maker_add_steps) {fd_Maker_result : FuncData} (FF_Maker_result : Fun K "result" "Maker.result" (inClass (top 36) 11) A.f_Maker_result fd_Maker_result) {fd_program_for : FuncData} (FF_program_for : Fun K "program_for" "program_for" (top 37) A.f_program_for fd_program_for) {fd__law_pot : FuncData} (FF__law_pot : Fun K "_law_pot" "_law_pot" (top 39) A.f__law_pot fd__law_pot) {fd__law_draw : FuncData} (FF__law_draw : Fun K "_law_draw" "_law_draw" (top 40) A.f__law_draw fd__law_draw) {fd__law_mixed : FuncData} (FF__law_mixed : Fun K "_law_mixed" "_law_mixed" (top 41) A.f__law_mixed fd__law_mixed) {fd__law_cells : FuncData} (FF__law_cells : Fun K "_law_cells" "_law_cells" (top 42) A.f__law_cells fd__law_cells) {fd__law_table : FuncData} (FF__law_table : Fun K "_law_table" "_law_table" (top 43) A.f__law_table fd__law_table) {fd__law_deep : FuncData} (FF__law_deep : Fun K "_law_deep" "_law_deep" (top 44) A.f__law_deep fd__law_deep) {fd__law_is_names : FuncData} (FF__law_is_names : Fun K "_law_is_names" "_law_is_names" (top 45) A.f__law_is_names fd__law_is_names) {fd__law_word : FuncData} (FF__law_word : Fun K "_law_word" "_law_word" (top 46) A.f__law_word fd__law_word) {fd__law_bent : FuncData} (FF__law_bent : Fun K "_law_bent" "_law_bent" (top 47) A.f__law_bent fd__law_bent) {fd_law : FuncData} (FF_law : Fun K "law" "law" (top 48) A.f_law fd_law) (hk : Keeps d_law) : FnOk P w K mg base (L2.CX P w) 8 A.f_law fd_law ["_law_script"] (spLaw K) := by
  have F_is_integer : FnD P w K mg base clW 1 1 A.f_is_integer d_is_integer := fnD_of FF_is_integer sc_is_integer rfl rfl (FF_is_integer.binds (ps := ["thing"]) fun _ _ _ _ _ _ us hl => match us, hl with | [_], _ => rfl) fun cdv A1 outer s H E hr => p_is_integer T  cdv A1 outer s H E hr
  have F_is_number : FnD P w K mg base clW 2 1 A.f_is_number d_is_number := fnD_of FF_is_number sc_is_number rfl rfl (FF_is_number.binds (ps := ["thing"]) fun _ _ _ _ _ _ us hl => match us, hl with | [_], _ => rfl) fun cdv A1 outer s H E hr => p_is_number T F_is_integer cdv A1 outer s H E hr
  have F_is_name : FnD P w K mg base clW 1 1 A.f_is_name d_is_name := fnD_of FF_is_name sc_is_name rfl rfl (FF_is_name.binds (ps := ["thing"]) fun _ _ _ _ _ _ us hl => match us, hl with | [_], _ => rfl) fun cdv A1 outer s H E hr => p_is_name T  cdv A1 outer s H E hr
  have F_are_names : FnD P w K mg base clW 2 3 A.f_are_names d_are_names := fnD_of FF_are_names sc_are_names rfl rfl (FF_are_names.binds (ps := ["thing", "least", "most"]) fun _ _ _ _ _ _ us hl => match us, hl with | [_, _, _], _ => rfl) fun cdv A1 outer s H E hr => p_are_names T F_is_name cdv A1 outer s H E hr
  have F_are_numbers : FnD P w K mg base clW 3 2 A.f_are_numbers d_are_numbers := fnD_of FF_are_numbers sc_are_numbers rfl rfl (FF_are_numbers.binds (ps := ["thing", "many"]) fun _ _ _ _ _ _ us hl => match us, hl with | [_, _], _ => rfl) fun cdv A1 outer s H E hr => p_are_numbers T F_is_number cdv A1 outer s H E hr
  have F_RawProgram___init__ : FnO P w K mg base clW 1 3 A.f_RawProgram___init__ d_RawProgram___init__ := fnO_of FF_RawProgram___init__ sc_RawProgram___init__ rfl rfl (FF_RawProgram___init__.binds (ps := ["self", "given", "told", "block"]) fun _ _ _ _ _ _ us hl => match us, hl with | [_, _, _, _], _ => rfl) fun cdv A1 outer s H E hr => p_RawProgram___init__ T  cdv A1 outer s H E hr
  have F_are_bounds : FnD P w K mg base clW 4 1 A.f_are_bounds d_are_bounds := fnD_of FF_are_bounds sc_are_bounds rfl rfl (FF_are_bounds.binds (ps := ["thing"]) fun _ _ _ _ _ _ us hl => match us, hl with | [_], _ => rfl) fun cdv A1 outer s H E hr => p_are_bounds T F_are_numbers cdv A1 outer s H E hr
  have F_are_measures : FnD P w K mg base clW 4 2 A.f_are_measures d_are_measures := fnD_of FF_are_measures sc_are_measures rfl rfl (FF_are_measures.binds (ps := ["thing", "many"]) fun _ _ _ _ _ _ us hl => match us, hl with | [_, _], _ => rfl) fun cdv A1 outer s H E hr => p_are_measures T F_are_numbers cdv A1 outer s H E hr
  have F_many_cells : FnD P w K mg base clW 1 2 A.f_many_cells d_many_cells := fnD_of FF_many_cells sc_many_cells rfl rfl (FF_many_cells.binds (ps := ["bounds", "measures"]) fun _ _ _ _ _ _ us hl => match us, hl with | [_, _], _ => rfl) fun cdv A1 outer s H E hr => p_many_cells T  cdv A1 outer s H E hr
  have F_cells_of : FnD P w K mg base clW 1 2 A.f_cells_of d_cells_of := fnD_of FF_cells_of sc_cells_of rfl rfl (FF_cells_of.binds (ps := ["bounds", "measures"]) fun _ _ _ _ _ _ us hl => match us, hl with | [_, _], _ => rfl) fun cdv A1 outer s H E hr => p_cells_of T  cdv A1 outer s H E hr
  have F_is_great : FnD P w K mg base clW 1 3 A.f_is_great d_is_great := fnD_of FF_is_great sc_is_great rfl rfl (FF_is_great.binds (ps := ["bounds", "cell", "k"]) fun _ _ _ _ _ _ us hl => match us, hl with | [_, _, _], _ => rfl) fun cdv A1 outer s H E hr => p_is_great T  cdv A1 outer s H E hr
  have F_is_form : FnD P w K mg base clW 4 3 A.f_is_form d_is_form := fnD_of FF_is_form sc_is_form rfl rfl (FF_is_form.binds (ps := ["thing", "bounds", "cell"]) fun _ _ _ _ _ _ us hl => match us, hl with | [_, _, _], _ => rfl) fun cdv A1 outer s H E hr => p_is_form T F_are_numbers F_is_great F_is_number cdv A1 outer s H E hr
  have F_is_row : FnD P w K mg base clW 5 3 A.f_is_row d_is_row := fnD_of FF_is_row sc_is_row rfl rfl (FF_is_row.binds (ps := ["thing", "bounds", "cell"]) fun _ _ _ _ _ _ us hl => match us, hl with | [_, _, _], _ => rfl) fun cdv A1 outer s H E hr => p_is_row T F_is_form cdv A1 outer s H E hr
  have F_Table_keep : FnO P w K mg base clW 1 3 A.f_Table_keep d_Table_keep := fnO_of FF_Table_keep sc_Table_keep rfl rfl (FF_Table_keep.binds (ps := ["self", "bounds", "measures", "rows"]) fun _ _ _ _ _ _ us hl => match us, hl with | [_, _, _, _], _ => rfl) fun cdv A1 outer s H E hr => p_Table_keep T  cdv A1 outer s H E hr
  have F_Table___init__ : FnO P w K mg base clW 6 3 A.f_Table___init__ d_Table___init__ := fnO_of FF_Table___init__ sc_Table___init__ rfl rfl (FF_Table___init__.binds (ps := ["self", "bounds", "measures", "rows"]) fun _ _ _ _ _ _ us hl => match us, hl with | [_, _, _, _], _ => rfl) fun cdv A1 outer s H E hr => p_Table___init__ T F_Table_keep F_are_bounds F_are_measures F_cells_of F_is_row F_many_cells cdv A1 outer s H E hr
  have F_many_results : FnD P w K mg base clW 1 1 A.f_many_results d_many_results := fnD_of FF_many_results sc_many_results rfl rfl (FF_many_results.binds (ps := ["table"]) fun _ _ _ _ _ _ us hl => match us, hl with | [_], _ => rfl) fun cdv A1 outer s H E hr => p_many_results T  cdv A1 outer s H E hr
  have F_name_by_number : FnD P w K mg base clW 1 1 A.f_name_by_number d_name_by_number := fnD_of FF_name_by_number sc_name_by_number rfl rfl (FF_name_by_number.binds (ps := ["number"]) fun _ _ _ _ _ _ us hl => match us, hl with | [_], _ => rfl) fun cdv A1 outer s H E hr => p_name_by_number T  cdv A1 outer s H E hr
  have F_Maker___init__ : FnO P w K mg base clW 1 1 A.f_Maker___init__ d_Maker___init__ := fnO_of FF_Maker___init__ sc_Maker___init__ rfl rfl (FF_Maker___init__.binds (ps := ["self", "taken"]) fun _ _ _ _ _ _ us hl => match us, hl with | [_, _], _ => rfl) fun cdv A1 outer s H E hr => p_Maker___init__ T  cdv A1 outer s H E hr
  have F_Maker_fresh : FnD P w K mg base clW 2 1 A.f_Maker_fresh d_Maker_fresh := fnD_of FF_Maker_fresh sc_Maker_fresh rfl rfl (FF_Maker_fresh.binds (ps := ["self"]) fun _ _ _ _ _ _ us hl => match us, hl with | [_], _ => rfl) fun cdv A1 outer s H E hr => p_Maker_fresh T F_name_by_number cdv A1 outer s H E hr
  have F_Maker_many_fresh : FnD P w K mg base clW 3 2 A.f_Maker_many_fresh d_Maker_many_fresh := fnD_of FF_Maker_many_fresh sc_Maker_many_fresh rfl rfl (FF_Maker_many_fresh.binds (ps := ["self", "many"]) fun _ _ _ _ _ _ us hl => match us, hl with | [_, _], _ => rfl) fun cdv A1 outer s H E hr => p_Maker_many_fresh T F_Maker_fresh cdv A1 outer s H E hr
  have F_Maker_put : FnD P w K mg base clW 1 2 A.f_Maker_put d_Maker_put := fnD_of FF_Maker_put sc_Maker_put rfl rfl (FF_Maker_put.binds (ps := ["self", "statement"]) fun _ _ _ _ _ _ us hl => match us, hl with | [_, _], _ => rfl) fun cdv A1 outer s H E hr => p_Maker_put T  cdv A1 outer s H E hr
  have F_Maker_one : FnD P w K mg base clW 3 1 A.f_Maker_one d_Maker_one := fnD_of FF_Maker_one sc_Maker_one rfl rfl (FF_Maker_one.binds (ps := ["self"]) fun _ _ _ _ _ _ us hl => match us, hl with | [_], _ => rfl) fun cdv A1 outer s H E hr => p_Maker_one T F_Maker_fresh F_Maker_put cdv A1 outer s H E hr
  have F_Maker_copied_if : FnD P w K mg base clW 2 4 A.f_Maker_copied_if d_Maker_copied_if := fnD_of FF_Maker_copied_if sc_Maker_copied_if rfl rfl (FF_Maker_copied_if.binds (ps := ["self", "flag", "name", "source"]) fun _ _ _ _ _ _ us hl => match us, hl with | [_, _, _, _], _ => rfl) fun cdv A1 outer s H E hr => p_Maker_copied_if T F_Maker_put cdv A1 outer s H E hr
  have F_Maker_reached : FnD P w K mg base clW 4 3 A.f_Maker_reached d_Maker_reached := fnD_of FF_Maker_reached sc_Maker_reached rfl rfl (FF_Maker_reached.binds (ps := ["self", "name", "bound"]) fun _ _ _ _ _ _ us hl => match us, hl with | [_, _, _], _ => rfl) fun cdv A1 outer s H E hr => p_Maker_reached T F_Maker_many_fresh F_Maker_one F_Maker_put cdv A1 outer s H E hr
  have F_Maker_divided : FnD P w K mg base clW 4 3 A.f_Maker_divided d_Maker_divided := fnD_of FF_Maker_divided sc_Maker_divided rfl rfl (FF_Maker_divided.binds (ps := ["self", "name", "measure"]) fun _ _ _ _ _ _ us hl => match us, hl with | [_, _, _], _ => rfl) fun cdv A1 outer s H E hr => p_Maker_divided T F_Maker_fresh F_Maker_many_fresh F_Maker_one F_Maker_put cdv A1 outer s H E hr
  have F_Maker_parted : FnD P w K mg base clW 5 4 A.f_Maker_parted d_Maker_parted := fnD_of FF_Maker_parted sc_Maker_parted rfl rfl (FF_Maker_parted.binds (ps := ["self", "name", "bound", "measure"]) fun _ _ _ _ _ _ us hl => match us, hl with | [_, _, _, _], _ => rfl) fun cdv A1 outer s H E hr => p_Maker_parted T F_Maker_copied_if F_Maker_divided F_Maker_fresh F_Maker_put F_Maker_reached cdv A1 outer s H E hr
  have F_Maker_cell_flag : FnD P w K mg base clW 4 2 A.f_Maker_cell_flag d_Maker_cell_flag := fnD_of FF_Maker_cell_flag sc_Maker_cell_flag rfl rfl (FF_Maker_cell_flag.binds (ps := ["self", "flags"]) fun _ _ _ _ _ _ us hl => match us, hl with | [_, _], _ => rfl) fun cdv A1 outer s H E hr => p_Maker_cell_flag T F_Maker_copied_if F_Maker_fresh F_Maker_one cdv A1 outer s H E hr
  have F_Maker_constants : FnD P w K mg base clW 3 2 A.f_Maker_constants d_Maker_constants := fnD_of FF_Maker_constants sc_Maker_constants rfl rfl (FF_Maker_constants.binds (ps := ["self", "most"]) fun _ _ _ _ _ _ us hl => match us, hl with | [_, _], _ => rfl) fun cdv A1 outer s H E hr => p_Maker_constants T F_Maker_fresh F_Maker_put cdv A1 outer s H E hr
  have F_Maker_add_steps : FnD P w K mg base clW 3 5 A.f_Maker_add_steps d_Maker_add_steps := fnD_of FF_Maker_add_steps sc_Maker_add_steps rfl rfl (FF_Maker_add_steps.binds (ps := ["self", "found", "flags", "step", "name"]) fun _ _ _ _ _ _ us hl => match us, hl with | [_, _, _, _, _], _ => rfl) fun cdv A1 outer s H E hr => p_Maker_add_steps T F_Maker_copied_if F_Maker_fresh F_Maker_put cdv A1 outer s H E hr
  have F_Maker_result : FnD P w K mg base clW 4 5 A.f_Maker_result d_Maker_result := fnD_of FF_Maker_result sc_Maker_result rfl rfl (FF_Maker_result.binds (ps := ["self", "cells", "forms", "constants", "times"]) fun _ _ _ _ _ _ us hl => match us, hl with | [_, _, _, _, _], _ => rfl) fun cdv A1 outer s H E hr => p_Maker_result T F_Maker_add_steps F_Maker_copied_if F_Maker_fresh cdv A1 outer s H E hr
  have F_program_for : FnD P w K mg base clW 6 3 A.f_program_for d_program_for := fnD_of FF_program_for sc_program_for rfl rfl (FF_program_for.binds (ps := ["table", "given", "told"]) fun _ _ _ _ _ _ us hl => match us, hl with | [_, _, _], _ => rfl) fun cdv A1 outer s H E hr => p_program_for T F_Maker___init__ F_Maker_cell_flag F_Maker_constants F_Maker_parted F_Maker_put F_Maker_result F_RawProgram___init__ F_are_names F_cells_of F_many_results cdv A1 outer s H E hr
  have F__law_pot : FnD P w K mg base clW 1 1 A.f__law_pot d__law_pot := fnD_of FF__law_pot sc__law_pot rfl rfl (FF__law_pot.binds (ps := ["_law_script"]) fun _ _ _ _ _ _ us hl => match us, hl with | [_], _ => rfl) fun cdv A1 outer s H E hr => p__law_pot T  cdv A1 outer s H E hr
  have F__law_draw : FnD P w K mg base clW 1 2 A.f__law_draw d__law_draw := fnD_of FF__law_draw sc__law_draw rfl rfl (FF__law_draw.binds (ps := ["_law_pot_here", "_law_many"]) fun _ _ _ _ _ _ us hl => match us, hl with | [_, _], _ => rfl) fun cdv A1 outer s H E hr => p__law_draw T  cdv A1 outer s H E hr
  have F__law_mixed : FnD P w K mg base clW 2 2 A.f__law_mixed d__law_mixed := fnD_of FF__law_mixed sc__law_mixed rfl rfl (FF__law_mixed.binds (ps := ["_law_pot_here", "_law_items"]) fun _ _ _ _ _ _ us hl => match us, hl with | [_, _], _ => rfl) fun cdv A1 outer s H E hr => p__law_mixed T F__law_draw cdv A1 outer s H E hr
  have F__law_cells : FnD P w K mg base clW 1 2 A.f__law_cells d__law_cells := fnD_of FF__law_cells sc__law_cells rfl rfl (FF__law_cells.binds (ps := ["_law_bounds", "_law_measures"]) fun _ _ _ _ _ _ us hl => match us, hl with | [_, _], _ => rfl) fun cdv A1 outer s H E hr => p__law_cells T  cdv A1 outer s H E hr
  have F__law_table : FnD P w K mg base clW 2 5 A.f__law_table d__law_table := fnD_of FF__law_table sc__law_table rfl rfl (FF__law_table.binds (ps := ["_law_pot_here", "_law_many", "_law_forms", "_law_most", "_law_steps"]) fun _ _ _ _ _ _ us hl => match us, hl with | [_, _, _, _, _], _ => rfl) fun cdv A1 outer s H E hr => p__law_table T F__law_cells F__law_draw cdv A1 outer s H E hr
  have F__law_deep : FnD P w K mg base clW 1 0 A.f__law_deep d__law_deep := fnD_of FF__law_deep sc__law_deep rfl rfl (FF__law_deep.binds (ps := []) fun _ _ _ _ _ _ us hl => match us, hl with | [], _ => rfl) fun cdv A1 outer s H E hr => p__law_deep T  cdv A1 outer s H E hr
  have F__law_is_names : FnD P w K mg base clW 1 2 A.f__law_is_names d__law_is_names := fnD_of FF__law_is_names sc__law_is_names rfl rfl (FF__law_is_names.binds (ps := ["_law_thing", "_law_many"]) fun _ _ _ _ _ _ us hl => match us, hl with | [_, _], _ => rfl) fun cdv A1 outer s H E hr => p__law_is_names T  cdv A1 outer s H E hr
  have F__law_word : FnD P w K mg base clW 7 3 A.f__law_word d__law_word := fnD_of FF__law_word sc__law_word rfl rfl (FF__law_word.binds (ps := ["_law_table_here", "_law_given", "_law_told"]) fun _ _ _ _ _ _ us hl => match us, hl with | [_, _, _], _ => rfl) fun cdv A1 outer s H E hr => p__law_word T F_program_for cdv A1 outer s H E hr
  have F__law_bent : FnD P w K mg base clW 2 3 A.f__law_bent d__law_bent := fnD_of FF__law_bent sc__law_bent rfl rfl (FF__law_bent.binds (ps := ["_law_pot_here", "_law_names", "_law_thing"]) fun _ _ _ _ _ _ us hl => match us, hl with | [_, _, _], _ => rfl) fun cdv A1 outer s H E hr => p__law_bent T F__law_deep F__law_draw cdv A1 outer s H E hr
  exact law_ok FF_law sc_law rfl (fun cdv A1 outer s H E hr => p_law T F_Table___init__ F__law_bent F__law_draw F__law_is_names F__law_mixed F__law_pot F__law_table F__law_word cdv A1 outer s H E hr) hk
theorem all_mk {l : PySem.W.OpenLaw} {w : World} {K : PySem.W.Frag} {h : Heap} {mg : Str → Option Value} {fa f_is_integer f_is_number f_is_name f_are_names f_are_numbers f_RawProgram___init__ f_are_bounds f_are_measures f_many_cells f_cells_of f_is_great f_is_form f_is_row f_Table_keep f_Table___init__ f_many_results f_name_by_number f_Maker___init__ f_Maker_fresh f_Maker_many_fresh f_Maker_put f_Maker_one f_Maker_copied_if f_Maker_reached f_Maker_divided f_Maker_parted f_Maker_cell_flag f_Maker_constants f_Maker_add_steps f_Maker_result f_program_for f__law_pot f__law_draw f__law_mixed f__law_cells f__law_table f__law_deep f__law_is_names f__law_word f__law_bent f_law c_BadProgram c_BadTable c_Maker c_NoNames c_Program c_RawProgram c_RoundError c_Table : Addr} {od_is_integer an_is_integer : Option Addr} {sl_is_integer : Array (Option Value)} {oc_is_integer kV_is_integer dc_is_integer pm_is_integer cd_is_integer ct_is_integer : Value} {od_is_number an_is_number : Option Addr} {sl_is_number : Array (Option Value)} {oc_is_number kV_is_number dc_is_number pm_is_number cd_is_number ct_is_number : Value} {od_is_name an_is_name : Option Addr} {sl_is_name : Array (Option Value)} {oc_is_name kV_is_name dc_is_name pm_is_name cd_is_name ct_is_name : Value} {od_are_names an_are_names : Option Addr} {sl_are_names : Array (Option Value)} {oc_are_names kV_are_names dc_are_names pm_are_names cd_are_names ct_are_names : Value} {od_are_numbers an_are_numbers : Option Addr} {sl_are_numbers : Array (Option Value)} {oc_are_numbers kV_are_numbers dc_are_numbers pm_are_numbers cd_are_numbers ct_are_numbers : Value} {od_RawProgram___init__ an_RawProgram___init__ : Option Addr} {sl_RawProgram___init__ : Array (Option Value)} {oc_RawProgram___init__ kV_RawProgram___init__ dc_RawProgram___init__ pm_RawProgram___init__ cd_RawProgram___init__ ct_RawProgram___init__ : Value} {od_are_bounds an_are_bounds : Option Addr} {sl_are_bounds : Array (Option Value)} {oc_are_bounds kV_are_bounds dc_are_bounds pm_are_bounds cd_are_bounds ct_are_bounds : Value} {od_are_measures an_are_measures : Option Addr} {sl_are_measures : Array (Option Value)} {oc_are_measures kV_are_measures dc_are_measures pm_are_measures cd_are_measures ct_are_measures : Value} {od_many_cells an_many_cells : Option Addr} {sl_many_cells : Array (Option Value)} {oc_many_cells kV_many_cells dc_many_cells pm_many_cells cd_many_cells ct_many_cells : Value} {od_cells_of an_cells_of : Option Addr} {sl_cells_of : Array (Option Value)} {oc_cells_of kV_cells_of dc_cells_of pm_cells_of cd_cells_of ct_cells_of : Value} {od_is_great an_is_great : Option Addr} {sl_is_great : Array (Option Value)} {oc_is_great kV_is_great dc_is_great pm_is_great cd_is_great ct_is_great : Value} {od_is_form an_is_form : Option Addr} {sl_is_form : Array (Option Value)} {oc_is_form kV_is_form dc_is_form pm_is_form cd_is_form ct_is_form : Value} {od_is_row an_is_row : Option Addr} {sl_is_row : Array (Option Value)} {oc_is_row kV_is_row dc_is_row pm_is_row cd_is_row ct_is_row : Value} {od_Table_keep an_Table_keep : Option Addr} {sl_Table_keep : Array (Option Value)} {oc_Table_keep kV_Table_keep dc_Table_keep pm_Table_keep cd_Table_keep ct_Table_keep : Value} {od_Table___init__ an_Table___init__ : Option Addr} {sl_Table___init__ : Array (Option Value)} {oc_Table___init__ kV_Table___init__ dc_Table___init__ pm_Table___init__ cd_Table___init__ ct_Table___init__ : Value} {od_many_results an_many_results : Option Addr} {sl_many_results : Array (Option Value)} {oc_many_results kV_many_results dc_many_results pm_many_results cd_many_results ct_many_results : Value} {od_name_by_number an_name_by_number : Option Addr} {sl_name_by_number : Array (Option Value)} {oc_name_by_number kV_name_by_number dc_name_by_number pm_name_by_number cd_name_by_number ct_name_by_number : Value} {od_Maker___init__ an_Maker___init__ : Option Addr} {sl_Maker___init__ : Array (Option Value)} {oc_Maker___init__ kV_Maker___init__ dc_Maker___init__ pm_Maker___init__ cd_Maker___init__ ct_Maker___init__ : Value} {od_Maker_fresh an_Maker_fresh : Option Addr} {sl_Maker_fresh : Array (Option Value)} {oc_Maker_fresh kV_Maker_fresh dc_Maker_fresh pm_Maker_fresh cd_Maker_fresh ct_Maker_fresh : Value} {od_Maker_many_fresh an_Maker_many_fresh : Option Addr} {sl_Maker_many_fresh : Array (Option Value)} {oc_Maker_many_fresh kV_Maker_many_fresh dc_Maker_many_fresh pm_Maker_many_fresh cd_Maker_many_fresh ct_Maker_many_fresh : Value} {od_Maker_put an_Maker_put : Option Addr} {sl_Maker_put : Array (Option Value)} {oc_Maker_put kV_Maker_put dc_Maker_put pm_Maker_put cd_Maker_put ct_Maker_put : Value} {od_Maker_one an_Maker_one : Option Addr} {sl_Maker_one : Array (Option Value)} {oc_Maker_one kV_Maker_one dc_Maker_one pm_Maker_one cd_Maker_one ct_Maker_one : Value} {od_Maker_copied_if an_Maker_copied_if : Option Addr} {sl_Maker_copied_if : Array (Option Value)} {oc_Maker_copied_if kV_Maker_copied_if dc_Maker_copied_if pm_Maker_copied_if cd_Maker_copied_if ct_Maker_copied_if : Value} {od_Maker_reached an_Maker_reached : Option Addr} {sl_Maker_reached : Array (Option Value)} {oc_Maker_reached kV_Maker_reached dc_Maker_reached pm_Maker_reached cd_Maker_reached ct_Maker_reached : Value} {od_Maker_divided an_Maker_divided : Option Addr} {sl_Maker_divided : Array (Option Value)} {oc_Maker_divided kV_Maker_divided dc_Maker_divided pm_Maker_divided cd_Maker_divided ct_Maker_divided : Value} {od_Maker_parted an_Maker_parted : Option Addr} {sl_Maker_parted : Array (Option Value)} {oc_Maker_parted kV_Maker_parted dc_Maker_parted pm_Maker_parted cd_Maker_parted ct_Maker_parted : Value} {od_Maker_cell_flag an_Maker_cell_flag : Option Addr} {sl_Maker_cell_flag : Array (Option Value)} {oc_Maker_cell_flag kV_Maker_cell_flag dc_Maker_cell_flag pm_Maker_cell_flag cd_Maker_cell_flag ct_Maker_cell_flag : Value} {od_Maker_constants an_Maker_constants : Option Addr} {sl_Maker_constants : Array (Option Value)} {oc_Maker_constants kV_Maker_constants dc_Maker_constants pm_Maker_constants cd_Maker_constants ct_Maker_constants : Value} {od_Maker_add_steps an_Maker_add_steps : Option Addr} {sl_Maker_add_steps : Array (Option Value)} {oc_Maker_add_steps kV_Maker_add_steps dc_Maker_add_steps pm_Maker_add_steps cd_Maker_add_steps ct_Maker_add_steps : Value} {od_Maker_result an_Maker_result : Option Addr} {sl_Maker_result : Array (Option Value)} {oc_Maker_result kV_Maker_result dc_Maker_result pm_Maker_result cd_Maker_result ct_Maker_result : Value} {od_program_for an_program_for : Option Addr} {sl_program_for : Array (Option Value)} {oc_program_for kV_program_for dc_program_for pm_program_for cd_program_for ct_program_for : Value} {od__law_pot an__law_pot : Option Addr} {sl__law_pot : Array (Option Value)} {oc__law_pot kV__law_pot dc__law_pot pm__law_pot cd__law_pot ct__law_pot : Value} {od__law_draw an__law_draw : Option Addr} {sl__law_draw : Array (Option Value)} {oc__law_draw kV__law_draw dc__law_draw pm__law_draw cd__law_draw ct__law_draw : Value} {od__law_mixed an__law_mixed : Option Addr} {sl__law_mixed : Array (Option Value)} {oc__law_mixed kV__law_mixed dc__law_mixed pm__law_mixed cd__law_mixed ct__law_mixed : Value} {od__law_cells an__law_cells : Option Addr} {sl__law_cells : Array (Option Value)} {oc__law_cells kV__law_cells dc__law_cells pm__law_cells cd__law_cells ct__law_cells : Value} {od__law_table an__law_table : Option Addr} {sl__law_table : Array (Option Value)} {oc__law_table kV__law_table dc__law_table pm__law_table cd__law_table ct__law_table : Value} {od__law_deep an__law_deep : Option Addr} {sl__law_deep : Array (Option Value)} {oc__law_deep kV__law_deep dc__law_deep pm__law_deep cd__law_deep ct__law_deep : Value} {od__law_is_names an__law_is_names : Option Addr} {sl__law_is_names : Array (Option Value)} {oc__law_is_names kV__law_is_names dc__law_is_names pm__law_is_names cd__law_is_names ct__law_is_names : Value} {od__law_word an__law_word : Option Addr} {sl__law_word : Array (Option Value)} {oc__law_word kV__law_word dc__law_word pm__law_word cd__law_word ct__law_word : Value} {od__law_bent an__law_bent : Option Addr} {sl__law_bent : Array (Option Value)} {oc__law_bent kV__law_bent dc__law_bent pm__law_bent cd__law_bent ct__law_bent : Value} {od_law an_law : Option Addr} {sl_law : Array (Option Value)} {oc_law kV_law dc_law pm_law cd_law ct_law : Value} {u_LETTERS u_MOST_CELLS u_MOST_FORMS u_MOST_NUMBERS u_MOST_STATEMENTS u_MOST_TOLD : Value} (hk : Keeps d_law) (X : K.In h) (G : h.Ns mainGlobals mg) (hfa : mg "law" = some (.ref fa))
    (ac_BadProgram : PySem.W.nsIn K mainGlobals "BadProgram" = some (some (.ref c_BadProgram)))
    (ac_BadTable : PySem.W.nsIn K mainGlobals "BadTable" = some (some (.ref c_BadTable)))
    (ac_Maker : PySem.W.nsIn K mainGlobals "Maker" = some (some (.ref c_Maker)))
    (ac_NoNames : PySem.W.nsIn K mainGlobals "NoNames" = some (some (.ref c_NoNames)))
    (ac_Program : PySem.W.nsIn K mainGlobals "Program" = some (some (.ref c_Program)))
    (ac_RawProgram : PySem.W.nsIn K mainGlobals "RawProgram" = some (some (.ref c_RawProgram)))
    (ac_RoundError : PySem.W.nsIn K mainGlobals "RoundError" = some (some (.ref c_RoundError)))
    (ac_Table : PySem.W.nsIn K mainGlobals "Table" = some (some (.ref c_Table)))
    (a_is_integer : PySem.W.nsIn K mainGlobals "is_integer" = some (some (.ref f_is_integer)))
    (l_is_integer : K.lookup f_is_integer = some ⟨oc_is_integer, od_is_integer, .func (PySem.W.fnOf "is_integer" "is_integer" (defArgs (top 6)) (defBody (top 6)) (defScope (top 6)) .none kV_is_integer dc_is_integer pm_is_integer an_is_integer cd_is_integer ct_is_integer), sl_is_integer⟩)
    (c_is_integer : PySem.W.codeIn K cd_is_integer "is_integer" = true)
    (k_is_integer : PySem.W.keepIn K (.ref f_is_integer) = true)
    (a_is_number : PySem.W.nsIn K mainGlobals "is_number" = some (some (.ref f_is_number)))
    (l_is_number : K.lookup f_is_number = some ⟨oc_is_number, od_is_number, .func (PySem.W.fnOf "is_number" "is_number" (defArgs (top 7)) (defBody (top 7)) (defScope (top 7)) .none kV_is_number dc_is_number pm_is_number an_is_number cd_is_number ct_is_number), sl_is_number⟩)
    (c_is_number : PySem.W.codeIn K cd_is_number "is_number" = true)
    (k_is_number : PySem.W.keepIn K (.ref f_is_number) = true)
    (a_is_name : PySem.W.nsIn K mainGlobals "is_name" = some (some (.ref f_is_name)))
    (l_is_name : K.lookup f_is_name = some ⟨oc_is_name, od_is_name, .func (PySem.W.fnOf "is_name" "is_name" (defArgs (top 8)) (defBody (top 8)) (defScope (top 8)) .none kV_is_name dc_is_name pm_is_name an_is_name cd_is_name ct_is_name), sl_is_name⟩)
    (c_is_name : PySem.W.codeIn K cd_is_name "is_name" = true)
    (k_is_name : PySem.W.keepIn K (.ref f_is_name) = true)
    (a_are_names : PySem.W.nsIn K mainGlobals "are_names" = some (some (.ref f_are_names)))
    (l_are_names : K.lookup f_are_names = some ⟨oc_are_names, od_are_names, .func (PySem.W.fnOf "are_names" "are_names" (defArgs (top 9)) (defBody (top 9)) (defScope (top 9)) .none kV_are_names dc_are_names pm_are_names an_are_names cd_are_names ct_are_names), sl_are_names⟩)
    (c_are_names : PySem.W.codeIn K cd_are_names "are_names" = true)
    (k_are_names : PySem.W.keepIn K (.ref f_are_names) = true)
    (a_are_numbers : PySem.W.nsIn K mainGlobals "are_numbers" = some (some (.ref f_are_numbers)))
    (l_are_numbers : K.lookup f_are_numbers = some ⟨oc_are_numbers, od_are_numbers, .func (PySem.W.fnOf "are_numbers" "are_numbers" (defArgs (top 10)) (defBody (top 10)) (defScope (top 10)) .none kV_are_numbers dc_are_numbers pm_are_numbers an_are_numbers cd_are_numbers ct_are_numbers), sl_are_numbers⟩)
    (c_are_numbers : PySem.W.codeIn K cd_are_numbers "are_numbers" = true)
    (k_are_numbers : PySem.W.keepIn K (.ref f_are_numbers) = true)
    (a_RawProgram___init__ : PySem.W.findIn K (.ref c_RawProgram) "__init__" = some (some (.ref f_RawProgram___init__)))
    (i_RawProgram___init__ : PySem.W.isFn K (.ref f_RawProgram___init__) = true)
    (l_RawProgram___init__ : K.lookup f_RawProgram___init__ = some ⟨oc_RawProgram___init__, od_RawProgram___init__, .func (PySem.W.fnOf "__init__" "RawProgram.__init__" (defArgs (inClass (top 18) 0)) (defBody (inClass (top 18) 0)) (defScope (inClass (top 18) 0)) .none kV_RawProgram___init__ dc_RawProgram___init__ pm_RawProgram___init__ an_RawProgram___init__ cd_RawProgram___init__ ct_RawProgram___init__), sl_RawProgram___init__⟩)
    (c_RawProgram___init__ : PySem.W.codeIn K cd_RawProgram___init__ "RawProgram.__init__" = true)
    (k_RawProgram___init__ : PySem.W.keepIn K (.ref f_RawProgram___init__) = true)
    (a_are_bounds : PySem.W.nsIn K mainGlobals "are_bounds" = some (some (.ref f_are_bounds)))
    (l_are_bounds : K.lookup f_are_bounds = some ⟨oc_are_bounds, od_are_bounds, .func (PySem.W.fnOf "are_bounds" "are_bounds" (defArgs (top 23)) (defBody (top 23)) (defScope (top 23)) .none kV_are_bounds dc_are_bounds pm_are_bounds an_are_bounds cd_are_bounds ct_are_bounds), sl_are_bounds⟩)
    (c_are_bounds : PySem.W.codeIn K cd_are_bounds "are_bounds" = true)
    (k_are_bounds : PySem.W.keepIn K (.ref f_are_bounds) = true)
    (a_are_measures : PySem.W.nsIn K mainGlobals "are_measures" = some (some (.ref f_are_measures)))
    (l_are_measures : K.lookup f_are_measures = some ⟨oc_are_measures, od_are_measures, .func (PySem.W.fnOf "are_measures" "are_measures" (defArgs (top 24)) (defBody (top 24)) (defScope (top 24)) .none kV_are_measures dc_are_measures pm_are_measures an_are_measures cd_are_measures ct_are_measures), sl_are_measures⟩)
    (c_are_measures : PySem.W.codeIn K cd_are_measures "are_measures" = true)
    (k_are_measures : PySem.W.keepIn K (.ref f_are_measures) = true)
    (a_many_cells : PySem.W.nsIn K mainGlobals "many_cells" = some (some (.ref f_many_cells)))
    (l_many_cells : K.lookup f_many_cells = some ⟨oc_many_cells, od_many_cells, .func (PySem.W.fnOf "many_cells" "many_cells" (defArgs (top 25)) (defBody (top 25)) (defScope (top 25)) .none kV_many_cells dc_many_cells pm_many_cells an_many_cells cd_many_cells ct_many_cells), sl_many_cells⟩)
    (c_many_cells : PySem.W.codeIn K cd_many_cells "many_cells" = true)
    (k_many_cells : PySem.W.keepIn K (.ref f_many_cells) = true)
    (a_cells_of : PySem.W.nsIn K mainGlobals "cells_of" = some (some (.ref f_cells_of)))
    (l_cells_of : K.lookup f_cells_of = some ⟨oc_cells_of, od_cells_of, .func (PySem.W.fnOf "cells_of" "cells_of" (defArgs (top 26)) (defBody (top 26)) (defScope (top 26)) .none kV_cells_of dc_cells_of pm_cells_of an_cells_of cd_cells_of ct_cells_of), sl_cells_of⟩)
    (c_cells_of : PySem.W.codeIn K cd_cells_of "cells_of" = true)
    (k_cells_of : PySem.W.keepIn K (.ref f_cells_of) = true)
    (a_is_great : PySem.W.nsIn K mainGlobals "is_great" = some (some (.ref f_is_great)))
    (l_is_great : K.lookup f_is_great = some ⟨oc_is_great, od_is_great, .func (PySem.W.fnOf "is_great" "is_great" (defArgs (top 27)) (defBody (top 27)) (defScope (top 27)) .none kV_is_great dc_is_great pm_is_great an_is_great cd_is_great ct_is_great), sl_is_great⟩)
    (c_is_great : PySem.W.codeIn K cd_is_great "is_great" = true)
    (k_is_great : PySem.W.keepIn K (.ref f_is_great) = true)
    (a_is_form : PySem.W.nsIn K mainGlobals "is_form" = some (some (.ref f_is_form)))
    (l_is_form : K.lookup f_is_form = some ⟨oc_is_form, od_is_form, .func (PySem.W.fnOf "is_form" "is_form" (defArgs (top 28)) (defBody (top 28)) (defScope (top 28)) .none kV_is_form dc_is_form pm_is_form an_is_form cd_is_form ct_is_form), sl_is_form⟩)
    (c_is_form : PySem.W.codeIn K cd_is_form "is_form" = true)
    (k_is_form : PySem.W.keepIn K (.ref f_is_form) = true)
    (a_is_row : PySem.W.nsIn K mainGlobals "is_row" = some (some (.ref f_is_row)))
    (l_is_row : K.lookup f_is_row = some ⟨oc_is_row, od_is_row, .func (PySem.W.fnOf "is_row" "is_row" (defArgs (top 29)) (defBody (top 29)) (defScope (top 29)) .none kV_is_row dc_is_row pm_is_row an_is_row cd_is_row ct_is_row), sl_is_row⟩)
    (c_is_row : PySem.W.codeIn K cd_is_row "is_row" = true)
    (k_is_row : PySem.W.keepIn K (.ref f_is_row) = true)
    (a_Table_keep : PySem.W.findIn K (.ref c_Table) "keep" = some (some (.ref f_Table_keep)))
    (i_Table_keep : PySem.W.isFn K (.ref f_Table_keep) = true)
    (l_Table_keep : K.lookup f_Table_keep = some ⟨oc_Table_keep, od_Table_keep, .func (PySem.W.fnOf "keep" "Table.keep" (defArgs (inClass (top 30) 1)) (defBody (inClass (top 30) 1)) (defScope (inClass (top 30) 1)) .none kV_Table_keep dc_Table_keep pm_Table_keep an_Table_keep cd_Table_keep ct_Table_keep), sl_Table_keep⟩)
    (c_Table_keep : PySem.W.codeIn K cd_Table_keep "Table.keep" = true)
    (k_Table_keep : PySem.W.keepIn K (.ref f_Table_keep) = true)
    (a_Table___init__ : PySem.W.findIn K (.ref c_Table) "__init__" = some (some (.ref f_Table___init__)))
    (i_Table___init__ : PySem.W.isFn K (.ref f_Table___init__) = true)
    (l_Table___init__ : K.lookup f_Table___init__ = some ⟨oc_Table___init__, od_Table___init__, .func (PySem.W.fnOf "__init__" "Table.__init__" (defArgs (inClass (top 30) 0)) (defBody (inClass (top 30) 0)) (defScope (inClass (top 30) 0)) .none kV_Table___init__ dc_Table___init__ pm_Table___init__ an_Table___init__ cd_Table___init__ ct_Table___init__), sl_Table___init__⟩)
    (c_Table___init__ : PySem.W.codeIn K cd_Table___init__ "Table.__init__" = true)
    (k_Table___init__ : PySem.W.keepIn K (.ref f_Table___init__) = true)
    (a_many_results : PySem.W.nsIn K mainGlobals "many_results" = some (some (.ref f_many_results)))
    (l_many_results : K.lookup f_many_results = some ⟨oc_many_results, od_many_results, .func (PySem.W.fnOf "many_results" "many_results" (defArgs (top 31)) (defBody (top 31)) (defScope (top 31)) .none kV_many_results dc_many_results pm_many_results an_many_results cd_many_results ct_many_results), sl_many_results⟩)
    (c_many_results : PySem.W.codeIn K cd_many_results "many_results" = true)
    (k_many_results : PySem.W.keepIn K (.ref f_many_results) = true)
    (a_name_by_number : PySem.W.nsIn K mainGlobals "name_by_number" = some (some (.ref f_name_by_number)))
    (l_name_by_number : K.lookup f_name_by_number = some ⟨oc_name_by_number, od_name_by_number, .func (PySem.W.fnOf "name_by_number" "name_by_number" (defArgs (top 35)) (defBody (top 35)) (defScope (top 35)) .none kV_name_by_number dc_name_by_number pm_name_by_number an_name_by_number cd_name_by_number ct_name_by_number), sl_name_by_number⟩)
    (c_name_by_number : PySem.W.codeIn K cd_name_by_number "name_by_number" = true)
    (k_name_by_number : PySem.W.keepIn K (.ref f_name_by_number) = true)
    (a_Maker___init__ : PySem.W.findIn K (.ref c_Maker) "__init__" = some (some (.ref f_Maker___init__)))
    (i_Maker___init__ : PySem.W.isFn K (.ref f_Maker___init__) = true)
    (l_Maker___init__ : K.lookup f_Maker___init__ = some ⟨oc_Maker___init__, od_Maker___init__, .func (PySem.W.fnOf "__init__" "Maker.__init__" (defArgs (inClass (top 36) 0)) (defBody (inClass (top 36) 0)) (defScope (inClass (top 36) 0)) .none kV_Maker___init__ dc_Maker___init__ pm_Maker___init__ an_Maker___init__ cd_Maker___init__ ct_Maker___init__), sl_Maker___init__⟩)
    (c_Maker___init__ : PySem.W.codeIn K cd_Maker___init__ "Maker.__init__" = true)
    (k_Maker___init__ : PySem.W.keepIn K (.ref f_Maker___init__) = true)
    (a_Maker_fresh : PySem.W.findIn K (.ref c_Maker) "fresh" = some (some (.ref f_Maker_fresh)))
    (i_Maker_fresh : PySem.W.isFn K (.ref f_Maker_fresh) = true)
    (l_Maker_fresh : K.lookup f_Maker_fresh = some ⟨oc_Maker_fresh, od_Maker_fresh, .func (PySem.W.fnOf "fresh" "Maker.fresh" (defArgs (inClass (top 36) 1)) (defBody (inClass (top 36) 1)) (defScope (inClass (top 36) 1)) .none kV_Maker_fresh dc_Maker_fresh pm_Maker_fresh an_Maker_fresh cd_Maker_fresh ct_Maker_fresh), sl_Maker_fresh⟩)
    (c_Maker_fresh : PySem.W.codeIn K cd_Maker_fresh "Maker.fresh" = true)
    (k_Maker_fresh : PySem.W.keepIn K (.ref f_Maker_fresh) = true)
    (a_Maker_many_fresh : PySem.W.findIn K (.ref c_Maker) "many_fresh" = some (some (.ref f_Maker_many_fresh)))
    (i_Maker_many_fresh : PySem.W.isFn K (.ref f_Maker_many_fresh) = true)
    (l_Maker_many_fresh : K.lookup f_Maker_many_fresh = some ⟨oc_Maker_many_fresh, od_Maker_many_fresh, .func (PySem.W.fnOf "many_fresh" "Maker.many_fresh" (defArgs (inClass (top 36) 2)) (defBody (inClass (top 36) 2)) (defScope (inClass (top 36) 2)) .none kV_Maker_many_fresh dc_Maker_many_fresh pm_Maker_many_fresh an_Maker_many_fresh cd_Maker_many_fresh ct_Maker_many_fresh), sl_Maker_many_fresh⟩)
    (c_Maker_many_fresh : PySem.W.codeIn K cd_Maker_many_fresh "Maker.many_fresh" = true)
    (k_Maker_many_fresh : PySem.W.keepIn K (.ref f_Maker_many_fresh) = true)
    (a_Maker_put : PySem.W.findIn K (.ref c_Maker) "put" = some (some (.ref f_Maker_put)))
    (i_Maker_put : PySem.W.isFn K (.ref f_Maker_put) = true)
    (l_Maker_put : K.lookup f_Maker_put = some ⟨oc_Maker_put, od_Maker_put, .func (PySem.W.fnOf "put" "Maker.put" (defArgs (inClass (top 36) 3)) (defBody (inClass (top 36) 3)) (defScope (inClass (top 36) 3)) .none kV_Maker_put dc_Maker_put pm_Maker_put an_Maker_put cd_Maker_put ct_Maker_put), sl_Maker_put⟩)
    (c_Maker_put : PySem.W.codeIn K cd_Maker_put "Maker.put" = true)
    (k_Maker_put : PySem.W.keepIn K (.ref f_Maker_put) = true)
    (a_Maker_one : PySem.W.findIn K (.ref c_Maker) "one" = some (some (.ref f_Maker_one)))
    (i_Maker_one : PySem.W.isFn K (.ref f_Maker_one) = true)
    (l_Maker_one : K.lookup f_Maker_one = some ⟨oc_Maker_one, od_Maker_one, .func (PySem.W.fnOf "one" "Maker.one" (defArgs (inClass (top 36) 4)) (defBody (inClass (top 36) 4)) (defScope (inClass (top 36) 4)) .none kV_Maker_one dc_Maker_one pm_Maker_one an_Maker_one cd_Maker_one ct_Maker_one), sl_Maker_one⟩)
    (c_Maker_one : PySem.W.codeIn K cd_Maker_one "Maker.one" = true)
    (k_Maker_one : PySem.W.keepIn K (.ref f_Maker_one) = true)
    (a_Maker_copied_if : PySem.W.findIn K (.ref c_Maker) "copied_if" = some (some (.ref f_Maker_copied_if)))
    (i_Maker_copied_if : PySem.W.isFn K (.ref f_Maker_copied_if) = true)
    (l_Maker_copied_if : K.lookup f_Maker_copied_if = some ⟨oc_Maker_copied_if, od_Maker_copied_if, .func (PySem.W.fnOf "copied_if" "Maker.copied_if" (defArgs (inClass (top 36) 5)) (defBody (inClass (top 36) 5)) (defScope (inClass (top 36) 5)) .none kV_Maker_copied_if dc_Maker_copied_if pm_Maker_copied_if an_Maker_copied_if cd_Maker_copied_if ct_Maker_copied_if), sl_Maker_copied_if⟩)
    (c_Maker_copied_if : PySem.W.codeIn K cd_Maker_copied_if "Maker.copied_if" = true)
    (k_Maker_copied_if : PySem.W.keepIn K (.ref f_Maker_copied_if) = true)
    (a_Maker_reached : PySem.W.findIn K (.ref c_Maker) "reached" = some (some (.ref f_Maker_reached)))
    (i_Maker_reached : PySem.W.isFn K (.ref f_Maker_reached) = true)
    (l_Maker_reached : K.lookup f_Maker_reached = some ⟨oc_Maker_reached, od_Maker_reached, .func (PySem.W.fnOf "reached" "Maker.reached" (defArgs (inClass (top 36) 6)) (defBody (inClass (top 36) 6)) (defScope (inClass (top 36) 6)) .none kV_Maker_reached dc_Maker_reached pm_Maker_reached an_Maker_reached cd_Maker_reached ct_Maker_reached), sl_Maker_reached⟩)
    (c_Maker_reached : PySem.W.codeIn K cd_Maker_reached "Maker.reached" = true)
    (k_Maker_reached : PySem.W.keepIn K (.ref f_Maker_reached) = true)
    (a_Maker_divided : PySem.W.findIn K (.ref c_Maker) "divided" = some (some (.ref f_Maker_divided)))
    (i_Maker_divided : PySem.W.isFn K (.ref f_Maker_divided) = true)
    (l_Maker_divided : K.lookup f_Maker_divided = some ⟨oc_Maker_divided, od_Maker_divided, .func (PySem.W.fnOf "divided" "Maker.divided" (defArgs (inClass (top 36) 7)) (defBody (inClass (top 36) 7)) (defScope (inClass (top 36) 7)) .none kV_Maker_divided dc_Maker_divided pm_Maker_divided an_Maker_divided cd_Maker_divided ct_Maker_divided), sl_Maker_divided⟩)
    (c_Maker_divided : PySem.W.codeIn K cd_Maker_divided "Maker.divided" = true)
    (k_Maker_divided : PySem.W.keepIn K (.ref f_Maker_divided) = true)
    (a_Maker_parted : PySem.W.findIn K (.ref c_Maker) "parted" = some (some (.ref f_Maker_parted)))
    (i_Maker_parted : PySem.W.isFn K (.ref f_Maker_parted) = true)
    (l_Maker_parted : K.lookup f_Maker_parted = some ⟨oc_Maker_parted, od_Maker_parted, .func (PySem.W.fnOf "parted" "Maker.parted" (defArgs (inClass (top 36) 8)) (defBody (inClass (top 36) 8)) (defScope (inClass (top 36) 8)) .none kV_Maker_parted dc_Maker_parted pm_Maker_parted an_Maker_parted cd_Maker_parted ct_Maker_parted), sl_Maker_parted⟩)
    (c_Maker_parted : PySem.W.codeIn K cd_Maker_parted "Maker.parted" = true)
    (k_Maker_parted : PySem.W.keepIn K (.ref f_Maker_parted) = true)
    (a_Maker_cell_flag : PySem.W.findIn K (.ref c_Maker) "cell_flag" = some (some (.ref f_Maker_cell_flag)))
    (i_Maker_cell_flag : PySem.W.isFn K (.ref f_Maker_cell_flag) = true)
    (l_Maker_cell_flag : K.lookup f_Maker_cell_flag = some ⟨oc_Maker_cell_flag, od_Maker_cell_flag, .func (PySem.W.fnOf "cell_flag" "Maker.cell_flag" (defArgs (inClass (top 36) 9)) (defBody (inClass (top 36) 9)) (defScope (inClass (top 36) 9)) .none kV_Maker_cell_flag dc_Maker_cell_flag pm_Maker_cell_flag an_Maker_cell_flag cd_Maker_cell_flag ct_Maker_cell_flag), sl_Maker_cell_flag⟩)
    (c_Maker_cell_flag : PySem.W.codeIn K cd_Maker_cell_flag "Maker.cell_flag" = true)
    (k_Maker_cell_flag : PySem.W.keepIn K (.ref f_Maker_cell_flag) = true)
    (a_Maker_constants : PySem.W.findIn K (.ref c_Maker) "constants" = some (some (.ref f_Maker_constants)))
    (i_Maker_constants : PySem.W.isFn K (.ref f_Maker_constants) = true)
    (l_Maker_constants : K.lookup f_Maker_constants = some ⟨oc_Maker_constants, od_Maker_constants, .func (PySem.W.fnOf "constants" "Maker.constants" (defArgs (inClass (top 36) 10)) (defBody (inClass (top 36) 10)) (defScope (inClass (top 36) 10)) .none kV_Maker_constants dc_Maker_constants pm_Maker_constants an_Maker_constants cd_Maker_constants ct_Maker_constants), sl_Maker_constants⟩)
    (c_Maker_constants : PySem.W.codeIn K cd_Maker_constants "Maker.constants" = true)
    (k_Maker_constants : PySem.W.keepIn K (.ref f_Maker_constants) = true)
    (a_Maker_add_steps : PySem.W.findIn K (.ref c_Maker) "add_steps" = some (some (.ref f_Maker_add_steps)))
    (i_Maker_add_steps : PySem.W.isFn K (.ref f_Maker_add_steps) = true)
    (l_Maker_add_steps : K.lookup f_Maker_add_steps = some ⟨oc_Maker_add_steps, od_Maker_add_steps, .func (PySem.W.fnOf "add_steps" "Maker.add_steps" (defArgs (inClass (top 36) 12)) (defBody (inClass (top 36) 12)) (defScope (inClass (top 36) 12)) .none kV_Maker_add_steps dc_Maker_add_steps pm_Maker_add_steps an_Maker_add_steps cd_Maker_add_steps ct_Maker_add_steps), sl_Maker_add_steps⟩)
    (c_Maker_add_steps : PySem.W.codeIn K cd_Maker_add_steps "Maker.add_steps" = true)
    (k_Maker_add_steps : PySem.W.keepIn K (.ref f_Maker_add_steps) = true)
    (a_Maker_result : PySem.W.findIn K (.ref c_Maker) "result" = some (some (.ref f_Maker_result)))
    (i_Maker_result : PySem.W.isFn K (.ref f_Maker_result) = true)
    (l_Maker_result : K.lookup f_Maker_result = some ⟨oc_Maker_result, od_Maker_result, .func (PySem.W.fnOf "result" "Maker.result" (defArgs (inClass (top 36) 11)) (defBody (inClass (top 36) 11)) (defScope (inClass (top 36) 11)) .none kV_Maker_result dc_Maker_result pm_Maker_result an_Maker_result cd_Maker_result ct_Maker_result), sl_Maker_result⟩)
    (c_Maker_result : PySem.W.codeIn K cd_Maker_result "Maker.result" = true)
    (k_Maker_result : PySem.W.keepIn K (.ref f_Maker_result) = true)
    (a_program_for : PySem.W.nsIn K mainGlobals "program_for" = some (some (.ref f_program_for)))
    (l_program_for : K.lookup f_program_for = some ⟨oc_program_for, od_program_for, .func (PySem.W.fnOf "program_for" "program_for" (defArgs (top 37)) (defBody (top 37)) (defScope (top 37)) .none kV_program_for dc_program_for pm_program_for an_program_for cd_program_for ct_program_for), sl_program_for⟩)
    (c_program_for : PySem.W.codeIn K cd_program_for "program_for" = true)
    (k_program_for : PySem.W.keepIn K (.ref f_program_for) = true)
    (a__law_pot : PySem.W.nsIn K mainGlobals "_law_pot" = some (some (.ref f__law_pot)))
    (l__law_pot : K.lookup f__law_pot = some ⟨oc__law_pot, od__law_pot, .func (PySem.W.fnOf "_law_pot" "_law_pot" (defArgs (top 39)) (defBody (top 39)) (defScope (top 39)) .none kV__law_pot dc__law_pot pm__law_pot an__law_pot cd__law_pot ct__law_pot), sl__law_pot⟩)
    (c__law_pot : PySem.W.codeIn K cd__law_pot "_law_pot" = true)
    (k__law_pot : PySem.W.keepIn K (.ref f__law_pot) = true)
    (a__law_draw : PySem.W.nsIn K mainGlobals "_law_draw" = some (some (.ref f__law_draw)))
    (l__law_draw : K.lookup f__law_draw = some ⟨oc__law_draw, od__law_draw, .func (PySem.W.fnOf "_law_draw" "_law_draw" (defArgs (top 40)) (defBody (top 40)) (defScope (top 40)) .none kV__law_draw dc__law_draw pm__law_draw an__law_draw cd__law_draw ct__law_draw), sl__law_draw⟩)
    (c__law_draw : PySem.W.codeIn K cd__law_draw "_law_draw" = true)
    (k__law_draw : PySem.W.keepIn K (.ref f__law_draw) = true)
    (a__law_mixed : PySem.W.nsIn K mainGlobals "_law_mixed" = some (some (.ref f__law_mixed)))
    (l__law_mixed : K.lookup f__law_mixed = some ⟨oc__law_mixed, od__law_mixed, .func (PySem.W.fnOf "_law_mixed" "_law_mixed" (defArgs (top 41)) (defBody (top 41)) (defScope (top 41)) .none kV__law_mixed dc__law_mixed pm__law_mixed an__law_mixed cd__law_mixed ct__law_mixed), sl__law_mixed⟩)
    (c__law_mixed : PySem.W.codeIn K cd__law_mixed "_law_mixed" = true)
    (k__law_mixed : PySem.W.keepIn K (.ref f__law_mixed) = true)
    (a__law_cells : PySem.W.nsIn K mainGlobals "_law_cells" = some (some (.ref f__law_cells)))
    (l__law_cells : K.lookup f__law_cells = some ⟨oc__law_cells, od__law_cells, .func (PySem.W.fnOf "_law_cells" "_law_cells" (defArgs (top 42)) (defBody (top 42)) (defScope (top 42)) .none kV__law_cells dc__law_cells pm__law_cells an__law_cells cd__law_cells ct__law_cells), sl__law_cells⟩)
    (c__law_cells : PySem.W.codeIn K cd__law_cells "_law_cells" = true)
    (k__law_cells : PySem.W.keepIn K (.ref f__law_cells) = true)
    (a__law_table : PySem.W.nsIn K mainGlobals "_law_table" = some (some (.ref f__law_table)))
    (l__law_table : K.lookup f__law_table = some ⟨oc__law_table, od__law_table, .func (PySem.W.fnOf "_law_table" "_law_table" (defArgs (top 43)) (defBody (top 43)) (defScope (top 43)) .none kV__law_table dc__law_table pm__law_table an__law_table cd__law_table ct__law_table), sl__law_table⟩)
    (c__law_table : PySem.W.codeIn K cd__law_table "_law_table" = true)
    (k__law_table : PySem.W.keepIn K (.ref f__law_table) = true)
    (a__law_deep : PySem.W.nsIn K mainGlobals "_law_deep" = some (some (.ref f__law_deep)))
    (l__law_deep : K.lookup f__law_deep = some ⟨oc__law_deep, od__law_deep, .func (PySem.W.fnOf "_law_deep" "_law_deep" (defArgs (top 44)) (defBody (top 44)) (defScope (top 44)) .none kV__law_deep dc__law_deep pm__law_deep an__law_deep cd__law_deep ct__law_deep), sl__law_deep⟩)
    (c__law_deep : PySem.W.codeIn K cd__law_deep "_law_deep" = true)
    (k__law_deep : PySem.W.keepIn K (.ref f__law_deep) = true)
    (a__law_is_names : PySem.W.nsIn K mainGlobals "_law_is_names" = some (some (.ref f__law_is_names)))
    (l__law_is_names : K.lookup f__law_is_names = some ⟨oc__law_is_names, od__law_is_names, .func (PySem.W.fnOf "_law_is_names" "_law_is_names" (defArgs (top 45)) (defBody (top 45)) (defScope (top 45)) .none kV__law_is_names dc__law_is_names pm__law_is_names an__law_is_names cd__law_is_names ct__law_is_names), sl__law_is_names⟩)
    (c__law_is_names : PySem.W.codeIn K cd__law_is_names "_law_is_names" = true)
    (k__law_is_names : PySem.W.keepIn K (.ref f__law_is_names) = true)
    (a__law_word : PySem.W.nsIn K mainGlobals "_law_word" = some (some (.ref f__law_word)))
    (l__law_word : K.lookup f__law_word = some ⟨oc__law_word, od__law_word, .func (PySem.W.fnOf "_law_word" "_law_word" (defArgs (top 46)) (defBody (top 46)) (defScope (top 46)) .none kV__law_word dc__law_word pm__law_word an__law_word cd__law_word ct__law_word), sl__law_word⟩)
    (c__law_word : PySem.W.codeIn K cd__law_word "_law_word" = true)
    (k__law_word : PySem.W.keepIn K (.ref f__law_word) = true)
    (a__law_bent : PySem.W.nsIn K mainGlobals "_law_bent" = some (some (.ref f__law_bent)))
    (l__law_bent : K.lookup f__law_bent = some ⟨oc__law_bent, od__law_bent, .func (PySem.W.fnOf "_law_bent" "_law_bent" (defArgs (top 47)) (defBody (top 47)) (defScope (top 47)) .none kV__law_bent dc__law_bent pm__law_bent an__law_bent cd__law_bent ct__law_bent), sl__law_bent⟩)
    (c__law_bent : PySem.W.codeIn K cd__law_bent "_law_bent" = true)
    (k__law_bent : PySem.W.keepIn K (.ref f__law_bent) = true)
    (a_law : PySem.W.nsIn K mainGlobals "law" = some (some (.ref f_law)))
    (l_law : K.lookup f_law = some ⟨oc_law, od_law, .func (PySem.W.fnOf "law" "law" (defArgs (top 48)) (defBody (top 48)) (defScope (top 48)) .none kV_law dc_law pm_law an_law cd_law ct_law), sl_law⟩)
    (c_law : PySem.W.codeIn K cd_law "law" = true)
    (k_law : PySem.W.keepIn K (.ref f_law) = true)
    (cf_Program : ClsF K c_Program)
    (cf_RawProgram : ClsF K c_RawProgram)
    (cf_Table : ClsF K c_Table)
    (cf_Maker : ClsF K c_Maker)
    (xf_BadProgram : ExcF K c_BadProgram)
    (xf_BadTable : ExcF K c_BadTable)
    (xf_NoNames : ExcF K c_NoNames)
    (xf_RoundError : ExcF K c_RoundError)
    (xi_NoNames : PySem.W.excIn K c_NoNames [.type "ValueError", .type "Exception", .type "BaseException", .type "object"] "ValueError.__new__" = true)
    (xi_RoundError : PySem.W.excIn K c_RoundError [.type "ValueError", .type "Exception", .type "BaseException", .type "object"] "ValueError.__new__" = true)
    (sb_Program_Program : PySem.W.subIn K (.ref c_Program) (.ref c_Program) = some true)
    (sb_Program_RawProgram : PySem.W.subIn K (.ref c_Program) (.ref c_RawProgram) = some false)
    (sb_Program_Table : PySem.W.subIn K (.ref c_Program) (.ref c_Table) = some false)
    (sb_Program_Maker : PySem.W.subIn K (.ref c_Program) (.ref c_Maker) = some false)
    (sb_RawProgram_Program : PySem.W.subIn K (.ref c_RawProgram) (.ref c_Program) = some true)
    (sb_RawProgram_RawProgram : PySem.W.subIn K (.ref c_RawProgram) (.ref c_RawProgram) = some true)
    (sb_RawProgram_Table : PySem.W.subIn K (.ref c_RawProgram) (.ref c_Table) = some false)
    (sb_RawProgram_Maker : PySem.W.subIn K (.ref c_RawProgram) (.ref c_Maker) = some false)
    (sb_Table_Program : PySem.W.subIn K (.ref c_Table) (.ref c_Program) = some false)
    (sb_Table_RawProgram : PySem.W.subIn K (.ref c_Table) (.ref c_RawProgram) = some false)
    (sb_Table_Table : PySem.W.subIn K (.ref c_Table) (.ref c_Table) = some true)
    (sb_Table_Maker : PySem.W.subIn K (.ref c_Table) (.ref c_Maker) = some false)
    (sb_Maker_Program : PySem.W.subIn K (.ref c_Maker) (.ref c_Program) = some false)
    (sb_Maker_RawProgram : PySem.W.subIn K (.ref c_Maker) (.ref c_RawProgram) = some false)
    (sb_Maker_Table : PySem.W.subIn K (.ref c_Maker) (.ref c_Table) = some false)
    (sb_Maker_Maker : PySem.W.subIn K (.ref c_Maker) (.ref c_Maker) = some true)
    (sx_BadProgram_BadProgram : PySem.W.subIn K (.ref c_BadProgram) (.ref c_BadProgram) = some true)
    (sx_BadProgram_BadTable : PySem.W.subIn K (.ref c_BadProgram) (.ref c_BadTable) = some false)
    (sx_BadProgram_NoNames : PySem.W.subIn K (.ref c_BadProgram) (.ref c_NoNames) = some false)
    (sx_BadProgram_RoundError : PySem.W.subIn K (.ref c_BadProgram) (.ref c_RoundError) = some true)
    (sx_BadTable_BadProgram : PySem.W.subIn K (.ref c_BadTable) (.ref c_BadProgram) = some false)
    (sx_BadTable_BadTable : PySem.W.subIn K (.ref c_BadTable) (.ref c_BadTable) = some true)
    (sx_BadTable_NoNames : PySem.W.subIn K (.ref c_BadTable) (.ref c_NoNames) = some false)
    (sx_BadTable_RoundError : PySem.W.subIn K (.ref c_BadTable) (.ref c_RoundError) = some true)
    (sx_NoNames_BadProgram : PySem.W.subIn K (.ref c_NoNames) (.ref c_BadProgram) = some false)
    (sx_NoNames_BadTable : PySem.W.subIn K (.ref c_NoNames) (.ref c_BadTable) = some false)
    (sx_NoNames_NoNames : PySem.W.subIn K (.ref c_NoNames) (.ref c_NoNames) = some true)
    (sx_NoNames_RoundError : PySem.W.subIn K (.ref c_NoNames) (.ref c_RoundError) = some true)
    (sx_RoundError_BadProgram : PySem.W.subIn K (.ref c_RoundError) (.ref c_BadProgram) = some false)
    (sx_RoundError_BadTable : PySem.W.subIn K (.ref c_RoundError) (.ref c_BadTable) = some false)
    (sx_RoundError_NoNames : PySem.W.subIn K (.ref c_RoundError) (.ref c_NoNames) = some false)
    (sx_RoundError_RoundError : PySem.W.subIn K (.ref c_RoundError) (.ref c_RoundError) = some true)
    (na_Program_block : PySem.W.findIn K (.ref c_Program) "block" = some none)
    (na_Program_bounds : PySem.W.findIn K (.ref c_Program) "bounds" = some none)
    (na_Program_given : PySem.W.findIn K (.ref c_Program) "given" = some none)
    (na_Program_measures : PySem.W.findIn K (.ref c_Program) "measures" = some none)
    (na_Program_rows : PySem.W.findIn K (.ref c_Program) "rows" = some none)
    (na_Program_taken : PySem.W.findIn K (.ref c_Program) "taken" = some none)
    (na_Program_told : PySem.W.findIn K (.ref c_Program) "told" = some none)
    (na_Program_used : PySem.W.findIn K (.ref c_Program) "used" = some none)
    (na_RawProgram_block : PySem.W.findIn K (.ref c_RawProgram) "block" = some none)
    (na_RawProgram_bounds : PySem.W.findIn K (.ref c_RawProgram) "bounds" = some none)
    (na_RawProgram_given : PySem.W.findIn K (.ref c_RawProgram) "given" = some none)
    (na_RawProgram_measures : PySem.W.findIn K (.ref c_RawProgram) "measures" = some none)
    (na_RawProgram_rows : PySem.W.findIn K (.ref c_RawProgram) "rows" = some none)
    (na_RawProgram_taken : PySem.W.findIn K (.ref c_RawProgram) "taken" = some none)
    (na_RawProgram_told : PySem.W.findIn K (.ref c_RawProgram) "told" = some none)
    (na_RawProgram_used : PySem.W.findIn K (.ref c_RawProgram) "used" = some none)
    (na_Table_block : PySem.W.findIn K (.ref c_Table) "block" = some none)
    (na_Table_bounds : PySem.W.findIn K (.ref c_Table) "bounds" = some none)
    (na_Table_given : PySem.W.findIn K (.ref c_Table) "given" = some none)
    (na_Table_measures : PySem.W.findIn K (.ref c_Table) "measures" = some none)
    (na_Table_rows : PySem.W.findIn K (.ref c_Table) "rows" = some none)
    (na_Table_taken : PySem.W.findIn K (.ref c_Table) "taken" = some none)
    (na_Table_told : PySem.W.findIn K (.ref c_Table) "told" = some none)
    (na_Table_used : PySem.W.findIn K (.ref c_Table) "used" = some none)
    (na_Maker_block : PySem.W.findIn K (.ref c_Maker) "block" = some none)
    (na_Maker_bounds : PySem.W.findIn K (.ref c_Maker) "bounds" = some none)
    (na_Maker_given : PySem.W.findIn K (.ref c_Maker) "given" = some none)
    (na_Maker_measures : PySem.W.findIn K (.ref c_Maker) "measures" = some none)
    (na_Maker_rows : PySem.W.findIn K (.ref c_Maker) "rows" = some none)
    (na_Maker_taken : PySem.W.findIn K (.ref c_Maker) "taken" = some none)
    (na_Maker_told : PySem.W.findIn K (.ref c_Maker) "told" = some none)
    (na_Maker_used : PySem.W.findIn K (.ref c_Maker) "used" = some none)
    (z_ValueError : PySem.W.nsIn K mainGlobals "ValueError" = some none)
    (z_abs : PySem.W.nsIn K mainGlobals "abs" = some none)
    (z_all : PySem.W.nsIn K mainGlobals "all" = some none)
    (z_bool : PySem.W.nsIn K mainGlobals "bool" = some none)
    (z_enumerate : PySem.W.nsIn K mainGlobals "enumerate" = some none)
    (z_int : PySem.W.nsIn K mainGlobals "int" = some none)
    (z_isinstance : PySem.W.nsIn K mainGlobals "isinstance" = some none)
    (z_len : PySem.W.nsIn K mainGlobals "len" = some none)
    (z_list : PySem.W.nsIn K mainGlobals "list" = some none)
    (z_max : PySem.W.nsIn K mainGlobals "max" = some none)
    (z_range : PySem.W.nsIn K mainGlobals "range" = some none)
    (z_set : PySem.W.nsIn K mainGlobals "set" = some none)
    (z_sorted : PySem.W.nsIn K mainGlobals "sorted" = some none)
    (z_str : PySem.W.nsIn K mainGlobals "str" = some none)
    (z_sum : PySem.W.nsIn K mainGlobals "sum" = some none)
    (z_tuple : PySem.W.nsIn K mainGlobals "tuple" = some none)
    (z_zip : PySem.W.nsIn K mainGlobals "zip" = some none)
    (hn : PySem.W.specialIn K (.builtin "object.__class__") "__get__" = some (some (.builtin "getset_descriptor.__get__")))
    (ht : PySem.W.takesIn K (.builtin "object.__class__") = some true)
    (q_LETTERS : PySem.W.nsIn K mainGlobals "LETTERS" = some (some u_LETTERS))
    (r_LETTERS : RelV (.str "abcdefghijklmnopqrstuvwxyz") u_LETTERS)
    (q_MOST_CELLS : PySem.W.nsIn K mainGlobals "MOST_CELLS" = some (some u_MOST_CELLS))
    (r_MOST_CELLS : RelV (.int 1000) u_MOST_CELLS)
    (q_MOST_FORMS : PySem.W.nsIn K mainGlobals "MOST_FORMS" = some (some u_MOST_FORMS))
    (r_MOST_FORMS : RelV (.int 12) u_MOST_FORMS)
    (q_MOST_NUMBERS : PySem.W.nsIn K mainGlobals "MOST_NUMBERS" = some (some u_MOST_NUMBERS))
    (r_MOST_NUMBERS : RelV (.int 2) u_MOST_NUMBERS)
    (q_MOST_STATEMENTS : PySem.W.nsIn K mainGlobals "MOST_STATEMENTS" = some (some u_MOST_STATEMENTS))
    (r_MOST_STATEMENTS : RelV (.int 5000) u_MOST_STATEMENTS)
    (q_MOST_TOLD : PySem.W.nsIn K mainGlobals "MOST_TOLD" = some (some u_MOST_TOLD))
    (r_MOST_TOLD : RelV (.int 4) u_MOST_TOLD)
    : ∃ fd : FuncData, (∀ (s : Shared) (v : Value), BindsTo s fd ⟨[v], []⟩ [("_law_script", v)]) ∧ ∀ base : Heap, K.In base → base.Ns mainGlobals mg → FnOk l.prog w K mg base (L2.CX l.prog w) 8 fa fd ["_law_script"] (spLaw K) := by
  have e := hfa.symm.trans (PySem.W.mg_of X G a_law)
  cases e
  have tc : CTabOk K mg ctab := ctab_of (mg := mg) [("Program", ["Program"], c_Program), ("RawProgram", ["RawProgram", "Program"], c_RawProgram), ("Table", ["Table"], c_Table), ("Maker", ["Maker"], c_Maker)] (List.forall_mem_cons.mpr ⟨⟨PySem.W.mg_of X G ac_Program, cf_Program.fact hn ht⟩, (List.forall_mem_cons.mpr ⟨⟨PySem.W.mg_of X G ac_RawProgram, cf_RawProgram.fact hn ht⟩, (List.forall_mem_cons.mpr ⟨⟨PySem.W.mg_of X G ac_Table, cf_Table.fact hn ht⟩, (List.forall_mem_cons.mpr ⟨⟨PySem.W.mg_of X G ac_Maker, cf_Maker.fact hn ht⟩, (fun _ h => nomatch h)⟩)⟩)⟩)⟩) (List.forall_mem_cons.mpr ⟨(List.forall_mem_cons.mpr ⟨((kit_sub cf_Program.ic cf_Program.ty sb_Program_Program sb_Program_Program).trans (congrArg some (show true = (["Program"] : List Str).contains "Program" from by decide +kernel))), (List.forall_mem_cons.mpr ⟨((kit_sub cf_RawProgram.ic cf_RawProgram.ty sb_RawProgram_RawProgram sb_Program_RawProgram).trans (congrArg some (show false = (["Program"] : List Str).contains "RawProgram" from by decide +kernel))), (List.forall_mem_cons.mpr ⟨((kit_sub cf_Table.ic cf_Table.ty sb_Table_Table sb_Program_Table).trans (congrArg some (show false = (["Program"] : List Str).contains "Table" from by decide +kernel))), (List.forall_mem_cons.mpr ⟨((kit_sub cf_Maker.ic cf_Maker.ty sb_Maker_Maker sb_Program_Maker).trans (congrArg some (show false = (["Program"] : List Str).contains "Maker" from by decide +kernel))), (fun _ h => nomatch h)⟩)⟩)⟩)⟩), (List.forall_mem_cons.mpr ⟨(List.forall_mem_cons.mpr ⟨((kit_sub cf_Program.ic cf_Program.ty sb_Program_Program sb_RawProgram_Program).trans (congrArg some (show true = (["RawProgram", "Program"] : List Str).contains "Program" from by decide +kernel))), (List.forall_mem_cons.mpr ⟨((kit_sub cf_RawProgram.ic cf_RawProgram.ty sb_RawProgram_RawProgram sb_RawProgram_RawProgram).trans (congrArg some (show true = (["RawProgram", "Program"] : List Str).contains "RawProgram" from by decide +kernel))), (List.forall_mem_cons.mpr ⟨((kit_sub cf_Table.ic cf_Table.ty sb_Table_Table sb_RawProgram_Table).trans (congrArg some (show false = (["RawProgram", "Program"] : List Str).contains "Table" from by decide +kernel))), (List.forall_mem_cons.mpr ⟨((kit_sub cf_Maker.ic cf_Maker.ty sb_Maker_Maker sb_RawProgram_Maker).trans (congrArg some (show false = (["RawProgram", "Program"] : List Str).contains "Maker" from by decide +kernel))), (fun _ h => nomatch h)⟩)⟩)⟩)⟩), (List.forall_mem_cons.mpr ⟨(List.forall_mem_cons.mpr ⟨((kit_sub cf_Program.ic cf_Program.ty sb_Program_Program sb_Table_Program).trans (congrArg some (show false = (["Table"] : List Str).contains "Program" from by decide +kernel))), (List.forall_mem_cons.mpr ⟨((kit_sub cf_RawProgram.ic cf_RawProgram.ty sb_RawProgram_RawProgram sb_Table_RawProgram).trans (congrArg some (show false = (["Table"] : List Str).contains "RawProgram" from by decide +kernel))), (List.forall_mem_cons.mpr ⟨((kit_sub cf_Table.ic cf_Table.ty sb_Table_Table sb_Table_Table).trans (congrArg some (show true = (["Table"] : List Str).contains "Table" from by decide +kernel))), (List.forall_mem_cons.mpr ⟨((kit_sub cf_Maker.ic cf_Maker.ty sb_Maker_Maker sb_Table_Maker).trans (congrArg some (show false = (["Table"] : List Str).contains "Maker" from by decide +kernel))), (fun _ h => nomatch h)⟩)⟩)⟩)⟩), (List.forall_mem_cons.mpr ⟨(List.forall_mem_cons.mpr ⟨((kit_sub cf_Program.ic cf_Program.ty sb_Program_Program sb_Maker_Program).trans (congrArg some (show false = (["Maker"] : List Str).contains "Program" from by decide +kernel))), (List.forall_mem_cons.mpr ⟨((kit_sub cf_RawProgram.ic cf_RawProgram.ty sb_RawProgram_RawProgram sb_Maker_RawProgram).trans (congrArg some (show false = (["Maker"] : List Str).contains "RawProgram" from by decide +kernel))), (List.forall_mem_cons.mpr ⟨((kit_sub cf_Table.ic cf_Table.ty sb_Table_Table sb_Maker_Table).trans (congrArg some (show false = (["Maker"] : List Str).contains "Table" from by decide +kernel))), (List.forall_mem_cons.mpr ⟨((kit_sub cf_Maker.ic cf_Maker.ty sb_Maker_Maker sb_Maker_Maker).trans (congrArg some (show true = (["Maker"] : List Str).contains "Maker" from by decide +kernel))), (fun _ h => nomatch h)⟩)⟩)⟩)⟩), (fun _ h => nomatch h)⟩)⟩)⟩)⟩)
  have te : ETabOk K mg etab := etab_of (mg := mg) [("RoundError", ["RoundError", "ValueError"], c_RoundError), ("BadProgram", ["BadProgram", "RoundError", "ValueError"], c_BadProgram), ("BadTable", ["BadTable", "RoundError", "ValueError"], c_BadTable), ("NoNames", ["NoNames", "RoundError", "ValueError"], c_NoNames)] (List.forall_mem_cons.mpr ⟨⟨PySem.W.mg_of X G ac_RoundError, xf_RoundError.excC hn ht, xf_RoundError.ve⟩, (List.forall_mem_cons.mpr ⟨⟨PySem.W.mg_of X G ac_BadProgram, xf_BadProgram.excC hn ht, xf_BadProgram.ve⟩, (List.forall_mem_cons.mpr ⟨⟨PySem.W.mg_of X G ac_BadTable, xf_BadTable.excC hn ht, xf_BadTable.ve⟩, (List.forall_mem_cons.mpr ⟨⟨PySem.W.mg_of X G ac_NoNames, xf_NoNames.excC hn ht, xf_NoNames.ve⟩, (fun _ h => nomatch h)⟩)⟩)⟩)⟩) (List.forall_mem_cons.mpr ⟨(List.forall_mem_cons.mpr ⟨(And.imp (fun z => z.trans (congrArg some (show true = (["RoundError", "ValueError"] : List Str).contains "RoundError" from by decide +kernel))) (fun z => z.trans (congrArg some (show true = (["RoundError", "ValueError"] : List Str).contains "RoundError" from by decide +kernel))) (ex_sub xf_RoundError sx_RoundError_RoundError sx_RoundError_RoundError)), (List.forall_mem_cons.mpr ⟨(And.imp (fun z => z.trans (congrArg some (show false = (["RoundError", "ValueError"] : List Str).contains "BadProgram" from by decide +kernel))) (fun z => z.trans (congrArg some (show false = (["RoundError", "ValueError"] : List Str).contains "BadProgram" from by decide +kernel))) (ex_sub xf_BadProgram sx_BadProgram_BadProgram sx_RoundError_BadProgram)), (List.forall_mem_cons.mpr ⟨(And.imp (fun z => z.trans (congrArg some (show false = (["RoundError", "ValueError"] : List Str).contains "BadTable" from by decide +kernel))) (fun z => z.trans (congrArg some (show false = (["RoundError", "ValueError"] : List Str).contains "BadTable" from by decide +kernel))) (ex_sub xf_BadTable sx_BadTable_BadTable sx_RoundError_BadTable)), (List.forall_mem_cons.mpr ⟨(And.imp (fun z => z.trans (congrArg some (show false = (["RoundError", "ValueError"] : List Str).contains "NoNames" from by decide +kernel))) (fun z => z.trans (congrArg some (show false = (["RoundError", "ValueError"] : List Str).contains "NoNames" from by decide +kernel))) (ex_sub xf_NoNames sx_NoNames_NoNames sx_RoundError_NoNames)), (fun _ h => nomatch h)⟩)⟩)⟩)⟩), (List.forall_mem_cons.mpr ⟨(List.forall_mem_cons.mpr ⟨(And.imp (fun z => z.trans (congrArg some (show true = (["BadProgram", "RoundError", "ValueError"] : List Str).contains "RoundError" from by decide +kernel))) (fun z => z.trans (congrArg some (show true = (["BadProgram", "RoundError", "ValueError"] : List Str).contains "RoundError" from by decide +kernel))) (ex_sub xf_RoundError sx_RoundError_RoundError sx_BadProgram_RoundError)), (List.forall_mem_cons.mpr ⟨(And.imp (fun z => z.trans (congrArg some (show true = (["BadProgram", "RoundError", "ValueError"] : List Str).contains "BadProgram" from by decide +kernel))) (fun z => z.trans (congrArg some (show true = (["BadProgram", "RoundError", "ValueError"] : List Str).contains "BadProgram" from by decide +kernel))) (ex_sub xf_BadProgram sx_BadProgram_BadProgram sx_BadProgram_BadProgram)), (List.forall_mem_cons.mpr ⟨(And.imp (fun z => z.trans (congrArg some (show false = (["BadProgram", "RoundError", "ValueError"] : List Str).contains "BadTable" from by decide +kernel))) (fun z => z.trans (congrArg some (show false = (["BadProgram", "RoundError", "ValueError"] : List Str).contains "BadTable" from by decide +kernel))) (ex_sub xf_BadTable sx_BadTable_BadTable sx_BadProgram_BadTable)), (List.forall_mem_cons.mpr ⟨(And.imp (fun z => z.trans (congrArg some (show false = (["BadProgram", "RoundError", "ValueError"] : List Str).contains "NoNames" from by decide +kernel))) (fun z => z.trans (congrArg some (show false = (["BadProgram", "RoundError", "ValueError"] : List Str).contains "NoNames" from by decide +kernel))) (ex_sub xf_NoNames sx_NoNames_NoNames sx_BadProgram_NoNames)), (fun _ h => nomatch h)⟩)⟩)⟩)⟩), (List.forall_mem_cons.mpr ⟨(List.forall_mem_cons.mpr ⟨(And.imp (fun z => z.trans (congrArg some (show true = (["BadTable", "RoundError", "ValueError"] : List Str).contains "RoundError" from by decide +kernel))) (fun z => z.trans (congrArg some (show true = (["BadTable", "RoundError", "ValueError"] : List Str).contains "RoundError" from by decide +kernel))) (ex_sub xf_RoundError sx_RoundError_RoundError sx_BadTable_RoundError)), (List.forall_mem_cons.mpr ⟨(And.imp (fun z => z.trans (congrArg some (show false = (["BadTable", "RoundError", "ValueError"] : List Str).contains "BadProgram" from by decide +kernel))) (fun z => z.trans (congrArg some (show false = (["BadTable", "RoundError", "ValueError"] : List Str).contains "BadProgram" from by decide +kernel))) (ex_sub xf_BadProgram sx_BadProgram_BadProgram sx_BadTable_BadProgram)), (List.forall_mem_cons.mpr ⟨(And.imp (fun z => z.trans (congrArg some (show true = (["BadTable", "RoundError", "ValueError"] : List Str).contains "BadTable" from by decide +kernel))) (fun z => z.trans (congrArg some (show true = (["BadTable", "RoundError", "ValueError"] : List Str).contains "BadTable" from by decide +kernel))) (ex_sub xf_BadTable sx_BadTable_BadTable sx_BadTable_BadTable)), (List.forall_mem_cons.mpr ⟨(And.imp (fun z => z.trans (congrArg some (show false = (["BadTable", "RoundError", "ValueError"] : List Str).contains "NoNames" from by decide +kernel))) (fun z => z.trans (congrArg some (show false = (["BadTable", "RoundError", "ValueError"] : List Str).contains "NoNames" from by decide +kernel))) (ex_sub xf_NoNames sx_NoNames_NoNames sx_BadTable_NoNames)), (fun _ h => nomatch h)⟩)⟩)⟩)⟩), (List.forall_mem_cons.mpr ⟨(List.forall_mem_cons.mpr ⟨(And.imp (fun z => z.trans (congrArg some (show true = (["NoNames", "RoundError", "ValueError"] : List Str).contains "RoundError" from by decide +kernel))) (fun z => z.trans (congrArg some (show true = (["NoNames", "RoundError", "ValueError"] : List Str).contains "RoundError" from by decide +kernel))) (ex_sub xf_RoundError sx_RoundError_RoundError sx_NoNames_RoundError)), (List.forall_mem_cons.mpr ⟨(And.imp (fun z => z.trans (congrArg some (show false = (["NoNames", "RoundError", "ValueError"] : List Str).contains "BadProgram" from by decide +kernel))) (fun z => z.trans (congrArg some (show false = (["NoNames", "RoundError", "ValueError"] : List Str).contains "BadProgram" from by decide +kernel))) (ex_sub xf_BadProgram sx_BadProgram_BadProgram sx_NoNames_BadProgram)), (List.forall_mem_cons.mpr ⟨(And.imp (fun z => z.trans (congrArg some (show false = (["NoNames", "RoundError", "ValueError"] : List Str).contains "BadTable" from by decide +kernel))) (fun z => z.trans (congrArg some (show false = (["NoNames", "RoundError", "ValueError"] : List Str).contains "BadTable" from by decide +kernel))) (ex_sub xf_BadTable sx_BadTable_BadTable sx_NoNames_BadTable)), (List.forall_mem_cons.mpr ⟨(And.imp (fun z => z.trans (congrArg some (show true = (["NoNames", "RoundError", "ValueError"] : List Str).contains "NoNames" from by decide +kernel))) (fun z => z.trans (congrArg some (show true = (["NoNames", "RoundError", "ValueError"] : List Str).contains "NoNames" from by decide +kernel))) (ex_sub xf_NoNames sx_NoNames_NoNames sx_NoNames_NoNames)), (fun _ h => nomatch h)⟩)⟩)⟩)⟩), (fun _ h => nomatch h)⟩)⟩)⟩)⟩)
  have T : Tx K mg (Ad.mk f_is_integer f_is_number f_is_name f_are_names f_are_numbers f_RawProgram___init__ f_are_bounds f_are_measures f_many_cells f_cells_of f_is_great f_is_form f_is_row f_Table_keep f_Table___init__ f_many_results f_name_by_number f_Maker___init__ f_Maker_fresh f_Maker_many_fresh f_Maker_put f_Maker_one f_Maker_copied_if f_Maker_reached f_Maker_divided f_Maker_parted f_Maker_cell_flag f_Maker_constants f_Maker_add_steps f_Maker_result f_program_for f__law_pot f__law_draw f__law_mixed f__law_cells f__law_table f__law_deep f__law_is_names f__law_word f__law_bent fa c_BadProgram c_BadTable c_Maker c_NoNames c_Program c_RawProgram c_RoundError c_Table) := {
    g_BadProgram := PySem.W.mg_of X G ac_BadProgram
    g_BadTable := PySem.W.mg_of X G ac_BadTable
    g_Maker := PySem.W.mg_of X G ac_Maker
    g_NoNames := PySem.W.mg_of X G ac_NoNames
    g_Program := PySem.W.mg_of X G ac_Program
    g_RawProgram := PySem.W.mg_of X G ac_RawProgram
    g_RoundError := PySem.W.mg_of X G ac_RoundError
    g_Table := PySem.W.mg_of X G ac_Table
    g__law_bent := PySem.W.mg_of X G a__law_bent
    g__law_cells := PySem.W.mg_of X G a__law_cells
    g__law_deep := PySem.W.mg_of X G a__law_deep
    g__law_draw := PySem.W.mg_of X G a__law_draw
    g__law_is_names := PySem.W.mg_of X G a__law_is_names
    g__law_mixed := PySem.W.mg_of X G a__law_mixed
    g__law_pot := PySem.W.mg_of X G a__law_pot
    g__law_table := PySem.W.mg_of X G a__law_table
    g__law_word := PySem.W.mg_of X G a__law_word
    g_are_bounds := PySem.W.mg_of X G a_are_bounds
    g_are_measures := PySem.W.mg_of X G a_are_measures
    g_are_names := PySem.W.mg_of X G a_are_names
    g_are_numbers := PySem.W.mg_of X G a_are_numbers
    g_cells_of := PySem.W.mg_of X G a_cells_of
    g_is_form := PySem.W.mg_of X G a_is_form
    g_is_great := PySem.W.mg_of X G a_is_great
    g_is_integer := PySem.W.mg_of X G a_is_integer
    g_is_name := PySem.W.mg_of X G a_is_name
    g_is_number := PySem.W.mg_of X G a_is_number
    g_is_row := PySem.W.mg_of X G a_is_row
    g_many_cells := PySem.W.mg_of X G a_many_cells
    g_many_results := PySem.W.mg_of X G a_many_results
    g_name_by_number := PySem.W.mg_of X G a_name_by_number
    g_program_for := PySem.W.mg_of X G a_program_for
    g_LETTERS := ⟨_, PySem.W.mg_of X G q_LETTERS, r_LETTERS⟩
    g_MOST_CELLS := ⟨_, PySem.W.mg_of X G q_MOST_CELLS, r_MOST_CELLS⟩
    g_MOST_FORMS := ⟨_, PySem.W.mg_of X G q_MOST_FORMS, r_MOST_FORMS⟩
    g_MOST_NUMBERS := ⟨_, PySem.W.mg_of X G q_MOST_NUMBERS, r_MOST_NUMBERS⟩
    g_MOST_STATEMENTS := ⟨_, PySem.W.mg_of X G q_MOST_STATEMENTS, r_MOST_STATEMENTS⟩
    g_MOST_TOLD := ⟨_, PySem.W.mg_of X G q_MOST_TOLD, r_MOST_TOLD⟩
    n_ValueError := PySem.W.mg_none_of X G z_ValueError
    n_abs := PySem.W.mg_none_of X G z_abs
    n_all := PySem.W.mg_none_of X G z_all
    n_bool := PySem.W.mg_none_of X G z_bool
    n_enumerate := PySem.W.mg_none_of X G z_enumerate
    n_int := PySem.W.mg_none_of X G z_int
    n_isinstance := PySem.W.mg_none_of X G z_isinstance
    n_len := PySem.W.mg_none_of X G z_len
    n_list := PySem.W.mg_none_of X G z_list
    n_max := PySem.W.mg_none_of X G z_max
    n_range := PySem.W.mg_none_of X G z_range
    n_set := PySem.W.mg_none_of X G z_set
    n_sorted := PySem.W.mg_none_of X G z_sorted
    n_str := PySem.W.mg_none_of X G z_str
    n_sum := PySem.W.mg_none_of X G z_sum
    n_tuple := PySem.W.mg_none_of X G z_tuple
    n_zip := PySem.W.mg_none_of X G z_zip
    f_block := fld_of [("Program", c_Program), ("RawProgram", c_RawProgram), ("Table", c_Table), ("Maker", c_Maker)] (fun c hc => hc) (List.forall_mem_cons.mpr ⟨⟨PySem.W.mg_of X G ac_Program, cf_Program.cls, na_Program_block⟩, (List.forall_mem_cons.mpr ⟨⟨PySem.W.mg_of X G ac_RawProgram, cf_RawProgram.cls, na_RawProgram_block⟩, (List.forall_mem_cons.mpr ⟨⟨PySem.W.mg_of X G ac_Table, cf_Table.cls, na_Table_block⟩, (List.forall_mem_cons.mpr ⟨⟨PySem.W.mg_of X G ac_Maker, cf_Maker.cls, na_Maker_block⟩, (fun _ h => nomatch h)⟩)⟩)⟩)⟩)
    f_bounds := fld_of [("Program", c_Program), ("RawProgram", c_RawProgram), ("Table", c_Table), ("Maker", c_Maker)] (fun c hc => hc) (List.forall_mem_cons.mpr ⟨⟨PySem.W.mg_of X G ac_Program, cf_Program.cls, na_Program_bounds⟩, (List.forall_mem_cons.mpr ⟨⟨PySem.W.mg_of X G ac_RawProgram, cf_RawProgram.cls, na_RawProgram_bounds⟩, (List.forall_mem_cons.mpr ⟨⟨PySem.W.mg_of X G ac_Table, cf_Table.cls, na_Table_bounds⟩, (List.forall_mem_cons.mpr ⟨⟨PySem.W.mg_of X G ac_Maker, cf_Maker.cls, na_Maker_bounds⟩, (fun _ h => nomatch h)⟩)⟩)⟩)⟩)
    f_given := fld_of [("Program", c_Program), ("RawProgram", c_RawProgram), ("Table", c_Table), ("Maker", c_Maker)] (fun c hc => hc) (List.forall_mem_cons.mpr ⟨⟨PySem.W.mg_of X G ac_Program, cf_Program.cls, na_Program_given⟩, (List.forall_mem_cons.mpr ⟨⟨PySem.W.mg_of X G ac_RawProgram, cf_RawProgram.cls, na_RawProgram_given⟩, (List.forall_mem_cons.mpr ⟨⟨PySem.W.mg_of X G ac_Table, cf_Table.cls, na_Table_given⟩, (List.forall_mem_cons.mpr ⟨⟨PySem.W.mg_of X G ac_Maker, cf_Maker.cls, na_Maker_given⟩, (fun _ h => nomatch h)⟩)⟩)⟩)⟩)
    f_measures := fld_of [("Program", c_Program), ("RawProgram", c_RawProgram), ("Table", c_Table), ("Maker", c_Maker)] (fun c hc => hc) (List.forall_mem_cons.mpr ⟨⟨PySem.W.mg_of X G ac_Program, cf_Program.cls, na_Program_measures⟩, (List.forall_mem_cons.mpr ⟨⟨PySem.W.mg_of X G ac_RawProgram, cf_RawProgram.cls, na_RawProgram_measures⟩, (List.forall_mem_cons.mpr ⟨⟨PySem.W.mg_of X G ac_Table, cf_Table.cls, na_Table_measures⟩, (List.forall_mem_cons.mpr ⟨⟨PySem.W.mg_of X G ac_Maker, cf_Maker.cls, na_Maker_measures⟩, (fun _ h => nomatch h)⟩)⟩)⟩)⟩)
    f_rows := fld_of [("Program", c_Program), ("RawProgram", c_RawProgram), ("Table", c_Table), ("Maker", c_Maker)] (fun c hc => hc) (List.forall_mem_cons.mpr ⟨⟨PySem.W.mg_of X G ac_Program, cf_Program.cls, na_Program_rows⟩, (List.forall_mem_cons.mpr ⟨⟨PySem.W.mg_of X G ac_RawProgram, cf_RawProgram.cls, na_RawProgram_rows⟩, (List.forall_mem_cons.mpr ⟨⟨PySem.W.mg_of X G ac_Table, cf_Table.cls, na_Table_rows⟩, (List.forall_mem_cons.mpr ⟨⟨PySem.W.mg_of X G ac_Maker, cf_Maker.cls, na_Maker_rows⟩, (fun _ h => nomatch h)⟩)⟩)⟩)⟩)
    f_taken := fld_of [("Program", c_Program), ("RawProgram", c_RawProgram), ("Table", c_Table), ("Maker", c_Maker)] (fun c hc => hc) (List.forall_mem_cons.mpr ⟨⟨PySem.W.mg_of X G ac_Program, cf_Program.cls, na_Program_taken⟩, (List.forall_mem_cons.mpr ⟨⟨PySem.W.mg_of X G ac_RawProgram, cf_RawProgram.cls, na_RawProgram_taken⟩, (List.forall_mem_cons.mpr ⟨⟨PySem.W.mg_of X G ac_Table, cf_Table.cls, na_Table_taken⟩, (List.forall_mem_cons.mpr ⟨⟨PySem.W.mg_of X G ac_Maker, cf_Maker.cls, na_Maker_taken⟩, (fun _ h => nomatch h)⟩)⟩)⟩)⟩)
    f_told := fld_of [("Program", c_Program), ("RawProgram", c_RawProgram), ("Table", c_Table), ("Maker", c_Maker)] (fun c hc => hc) (List.forall_mem_cons.mpr ⟨⟨PySem.W.mg_of X G ac_Program, cf_Program.cls, na_Program_told⟩, (List.forall_mem_cons.mpr ⟨⟨PySem.W.mg_of X G ac_RawProgram, cf_RawProgram.cls, na_RawProgram_told⟩, (List.forall_mem_cons.mpr ⟨⟨PySem.W.mg_of X G ac_Table, cf_Table.cls, na_Table_told⟩, (List.forall_mem_cons.mpr ⟨⟨PySem.W.mg_of X G ac_Maker, cf_Maker.cls, na_Maker_told⟩, (fun _ h => nomatch h)⟩)⟩)⟩)⟩)
    f_used := fld_of [("Program", c_Program), ("RawProgram", c_RawProgram), ("Table", c_Table), ("Maker", c_Maker)] (fun c hc => hc) (List.forall_mem_cons.mpr ⟨⟨PySem.W.mg_of X G ac_Program, cf_Program.cls, na_Program_used⟩, (List.forall_mem_cons.mpr ⟨⟨PySem.W.mg_of X G ac_RawProgram, cf_RawProgram.cls, na_RawProgram_used⟩, (List.forall_mem_cons.mpr ⟨⟨PySem.W.mg_of X G ac_Table, cf_Table.cls, na_Table_used⟩, (List.forall_mem_cons.mpr ⟨⟨PySem.W.mg_of X G ac_Maker, cf_Maker.cls, na_Maker_used⟩, (fun _ h => nomatch h)⟩)⟩)⟩)⟩)
    tc := tc
    te := te
    mk_RawProgram := ⟨cf_RawProgram.mks, a_RawProgram___init__, i_RawProgram___init__, cf_RawProgram.kp⟩
    mk_Table := ⟨cf_Table.mks, a_Table___init__, i_Table___init__, cf_Table.kp⟩
    mk_Maker := ⟨cf_Maker.mks, a_Maker___init__, i_Maker___init__, cf_Maker.kp⟩
    xi_NoNames := xi_NoNames
    xk_NoNames := xf_NoNames.xk
    xs_NoNames := xf_NoNames.xs
    xt_NoNames := xf_NoNames.xt
    xi_RoundError := xi_RoundError
    xk_RoundError := xf_RoundError.xk
    xs_RoundError := xf_RoundError.xs
    xt_RoundError := xf_RoundError.xt
    me_Maker_fresh := ⟨cf_Maker.cls, ⟨a_Maker_fresh, i_Maker_fresh, k_Maker_fresh⟩⟩
    me_Maker_put := ⟨cf_Maker.cls, ⟨a_Maker_put, i_Maker_put, k_Maker_put⟩⟩
    me_Maker_many_fresh := ⟨cf_Maker.cls, ⟨a_Maker_many_fresh, i_Maker_many_fresh, k_Maker_many_fresh⟩⟩
    me_Maker_one := ⟨cf_Maker.cls, ⟨a_Maker_one, i_Maker_one, k_Maker_one⟩⟩
    me_Maker_copied_if := ⟨cf_Maker.cls, ⟨a_Maker_copied_if, i_Maker_copied_if, k_Maker_copied_if⟩⟩
    me_Maker_reached := ⟨cf_Maker.cls, ⟨a_Maker_reached, i_Maker_reached, k_Maker_reached⟩⟩
    me_Maker_divided := ⟨cf_Maker.cls, ⟨a_Maker_divided, i_Maker_divided, k_Maker_divided⟩⟩
    me_Maker_add_steps := ⟨cf_Maker.cls, ⟨a_Maker_add_steps, i_Maker_add_steps, k_Maker_add_steps⟩⟩
    me_Maker_cell_flag := ⟨cf_Maker.cls, ⟨a_Maker_cell_flag, i_Maker_cell_flag, k_Maker_cell_flag⟩⟩
    me_Maker_result := ⟨cf_Maker.cls, ⟨a_Maker_result, i_Maker_result, k_Maker_result⟩⟩
    me_Maker_parted := ⟨cf_Maker.cls, ⟨a_Maker_parted, i_Maker_parted, k_Maker_parted⟩⟩
    me_Maker_constants := ⟨cf_Maker.cls, ⟨a_Maker_constants, i_Maker_constants, k_Maker_constants⟩⟩
    me_Table_keep := ⟨cf_Table.cls, ⟨a_Table_keep, i_Table_keep, k_Table_keep⟩⟩ }
  exact ⟨_, fun s v => .of_eq rfl, fun base _ _ => chain T (fun_mk (st := (top 6)) l_is_integer c_is_integer k_is_integer) (fun_mk (st := (top 7)) l_is_number c_is_number k_is_number) (fun_mk (st := (top 8)) l_is_name c_is_name k_is_name) (fun_mk (st := (top 9)) l_are_names c_are_names k_are_names) (fun_mk (st := (top 10)) l_are_numbers c_are_numbers k_are_numbers) (fun_mk (st := (inClass (top 18) 0)) l_RawProgram___init__ c_RawProgram___init__ k_RawProgram___init__) (fun_mk (st := (top 23)) l_are_bounds c_are_bounds k_are_bounds) (fun_mk (st := (top 24)) l_are_measures c_are_measures k_are_measures) (fun_mk (st := (top 25)) l_many_cells c_many_cells k_many_cells) (fun_mk (st := (top 26)) l_cells_of c_cells_of k_cells_of) (fun_mk (st := (top 27)) l_is_great c_is_great k_is_great) (fun_mk (st := (top 28)) l_is_form c_is_form k_is_form) (fun_mk (st := (top 29)) l_is_row c_is_row k_is_row) (fun_mk (st := (inClass (top 30) 1)) l_Table_keep c_Table_keep k_Table_keep) (fun_mk (st := (inClass (top 30) 0)) l_Table___init__ c_Table___init__ k_Table___init__) (fun_mk (st := (top 31)) l_many_results c_many_results k_many_results) (fun_mk (st := (top 35)) l_name_by_number c_name_by_number k_name_by_number) (fun_mk (st := (inClass (top 36) 0)) l_Maker___init__ c_Maker___init__ k_Maker___init__) (fun_mk (st := (inClass (top 36) 1)) l_Maker_fresh c_Maker_fresh k_Maker_fresh) (fun_mk (st := (inClass (top 36) 2)) l_Maker_many_fresh c_Maker_many_fresh k_Maker_many_fresh) (fun_mk (st := (inClass (top 36) 3)) l_Maker_put c_Maker_put k_Maker_put) (fun_mk (st := (inClass (top 36) 4)) l_Maker_one c_Maker_one k_Maker_one) (fun_mk (st := (inClass (top 36) 5)) l_Maker_copied_if c_Maker_copied_if k_Maker_copied_if) (fun_mk (st := (inClass (top 36) 6)) l_Maker_reached c_Maker_reached k_Maker_reached) (fun_mk (st := (inClass (top 36) 7)) l_Maker_divided c_Maker_divided k_Maker_divided) (fun_mk (st := (inClass (top 36) 8)) l_Maker_parted c_Maker_parted k_Maker_parted) (fun_mk (st := (inClass (top 36) 9)) l_Maker_cell_flag c_Maker_cell_flag k_Maker_cell_flag) (fun_mk (st := (inClass (top 36) 10)) l_Maker_constants c_Maker_constants k_Maker_constants) (fun_mk (st := (inClass (top 36) 12)) l_Maker_add_steps c_Maker_add_steps k_Maker_add_steps) (fun_mk (st := (inClass (top 36) 11)) l_Maker_result c_Maker_result k_Maker_result) (fun_mk (st := (top 37)) l_program_for c_program_for k_program_for) (fun_mk (st := (top 39)) l__law_pot c__law_pot k__law_pot) (fun_mk (st := (top 40)) l__law_draw c__law_draw k__law_draw) (fun_mk (st := (top 41)) l__law_mixed c__law_mixed k__law_mixed) (fun_mk (st := (top 42)) l__law_cells c__law_cells k__law_cells) (fun_mk (st := (top 43)) l__law_table c__law_table k__law_table) (fun_mk (st := (top 44)) l__law_deep c__law_deep k__law_deep) (fun_mk (st := (top 45)) l__law_is_names c__law_is_names k__law_is_names) (fun_mk (st := (top 46)) l__law_word c__law_word k__law_word) (fun_mk (st := (top 47)) l__law_bent c__law_bent k__law_bent) (fun_mk (st := (top 48)) l_law c_law k_law) hk⟩
end
theorem walk {l : PySem.W.OpenLaw} {q : Program} {loose : List Str} {XP : (Str → Option Value) → Heap → Prop} {YP : World → Heap → Prop} {d : DefRec} {K : Params → PySem.W.Frag} (hn : l.most = some 63) (hdf : d.params.defaults = [])
    (hY : ∀ (w : World) (h : Heap), YP w h → (K w.params).In h)
    (F : ∀ (w : World) (mg : Str → Option Value) (fa : Addr) (h : Heap), (K w.params).In h → h.Ns mainGlobals mg → mg d.name = some (.ref fa) →
      ∃ fd : FuncData, (∀ (s : Shared) (u : Value), BindsTo s fd ⟨[u], []⟩ [("_law_script", u)]) ∧ ∀ base : Heap, (K w.params).In base → base.Ns mainGlobals mg → FnOk l.prog w (K w.params) mg base (L2.CX l.prog w) 8 fa fd ["_law_script"] (spLaw (K w.params))) :
    PySem.W.WalkO q loose XP YP l.row.toRowW d [] (fun f vs => PySem.call f vs) :=
  L2.walk_of (n := 63) (k := 8) (x := "_law_script") (CX := fun w => L2.CX l.prog w) (sp := fun w => spLaw (K w.params)) hn (by decide) hdf ⟨rfl, by decide, by decide⟩ hY F (fun _ _ a ns hl _ hS => ⟨a, ns, rfl, hS, hl, fun _ => rfl⟩) fun _ _ _ _ _ ⟨_, _, _, _, _, _, _, _, _, _, _, _, z⟩ => z
end LW
end

section
open PySem PySem.W PyProof.Rows
set_option maxRecDepth 100000 in
set_option maxHeartbeats 0 in
theorem PySem.Challenge.cw_flatrounds_k87_making_refused_holds : PySem.Challenge.rw_flatrounds_k87_making_refused.Holds := by
  w_on; o_law; k_head; (case hw => w_witness2)
  k_fill
  refine LW.walk (l := PySem.Challenge.rw_flatrounds_k87_making_refused) rfl rfl (fun w h Y => PySem.W.kIn_of Y) ?F
  case F =>
    intro w mg fa h KX G hmg
    refine' LW.all_mk LW.keeps KX G hmg ?ac_BadProgram ?ac_BadTable ?ac_Maker ?ac_NoNames ?ac_Program ?ac_RawProgram ?ac_RoundError ?ac_Table ?a_is_integer ?l_is_integer ?c_is_integer ?k_is_integer ?a_is_number ?l_is_number ?c_is_number ?k_is_number ?a_is_name ?l_is_name ?c_is_name ?k_is_name ?a_are_names ?l_are_names ?c_are_names ?k_are_names ?a_are_numbers ?l_are_numbers ?c_are_numbers ?k_are_numbers ?a_RawProgram___init__ ?i_RawProgram___init__ ?l_RawProgram___init__ ?c_RawProgram___init__ ?k_RawProgram___init__ ?a_are_bounds ?l_are_bounds ?c_are_bounds ?k_are_bounds ?a_are_measures ?l_are_measures ?c_are_measures ?k_are_measures ?a_many_cells ?l_many_cells ?c_many_cells ?k_many_cells ?a_cells_of ?l_cells_of ?c_cells_of ?k_cells_of ?a_is_great ?l_is_great ?c_is_great ?k_is_great ?a_is_form ?l_is_form ?c_is_form ?k_is_form ?a_is_row ?l_is_row ?c_is_row ?k_is_row ?a_Table_keep ?i_Table_keep ?l_Table_keep ?c_Table_keep ?k_Table_keep ?a_Table___init__ ?i_Table___init__ ?l_Table___init__ ?c_Table___init__ ?k_Table___init__ ?a_many_results ?l_many_results ?c_many_results ?k_many_results ?a_name_by_number ?l_name_by_number ?c_name_by_number ?k_name_by_number ?a_Maker___init__ ?i_Maker___init__ ?l_Maker___init__ ?c_Maker___init__ ?k_Maker___init__ ?a_Maker_fresh ?i_Maker_fresh ?l_Maker_fresh ?c_Maker_fresh ?k_Maker_fresh ?a_Maker_many_fresh ?i_Maker_many_fresh ?l_Maker_many_fresh ?c_Maker_many_fresh ?k_Maker_many_fresh ?a_Maker_put ?i_Maker_put ?l_Maker_put ?c_Maker_put ?k_Maker_put ?a_Maker_one ?i_Maker_one ?l_Maker_one ?c_Maker_one ?k_Maker_one ?a_Maker_copied_if ?i_Maker_copied_if ?l_Maker_copied_if ?c_Maker_copied_if ?k_Maker_copied_if ?a_Maker_reached ?i_Maker_reached ?l_Maker_reached ?c_Maker_reached ?k_Maker_reached ?a_Maker_divided ?i_Maker_divided ?l_Maker_divided ?c_Maker_divided ?k_Maker_divided ?a_Maker_parted ?i_Maker_parted ?l_Maker_parted ?c_Maker_parted ?k_Maker_parted ?a_Maker_cell_flag ?i_Maker_cell_flag ?l_Maker_cell_flag ?c_Maker_cell_flag ?k_Maker_cell_flag ?a_Maker_constants ?i_Maker_constants ?l_Maker_constants ?c_Maker_constants ?k_Maker_constants ?a_Maker_add_steps ?i_Maker_add_steps ?l_Maker_add_steps ?c_Maker_add_steps ?k_Maker_add_steps ?a_Maker_result ?i_Maker_result ?l_Maker_result ?c_Maker_result ?k_Maker_result ?a_program_for ?l_program_for ?c_program_for ?k_program_for ?a__law_pot ?l__law_pot ?c__law_pot ?k__law_pot ?a__law_draw ?l__law_draw ?c__law_draw ?k__law_draw ?a__law_mixed ?l__law_mixed ?c__law_mixed ?k__law_mixed ?a__law_cells ?l__law_cells ?c__law_cells ?k__law_cells ?a__law_table ?l__law_table ?c__law_table ?k__law_table ?a__law_deep ?l__law_deep ?c__law_deep ?k__law_deep ?a__law_is_names ?l__law_is_names ?c__law_is_names ?k__law_is_names ?a__law_word ?l__law_word ?c__law_word ?k__law_word ?a__law_bent ?l__law_bent ?c__law_bent ?k__law_bent ?a_law ?l_law ?c_law ?k_law ?cf_Program ?cf_RawProgram ?cf_Table ?cf_Maker ?xf_BadProgram ?xf_BadTable ?xf_NoNames ?xf_RoundError ?xi_NoNames ?xi_RoundError ?sb_Program_Program ?sb_Program_RawProgram ?sb_Program_Table ?sb_Program_Maker ?sb_RawProgram_Program ?sb_RawProgram_RawProgram ?sb_RawProgram_Table ?sb_RawProgram_Maker ?sb_Table_Program ?sb_Table_RawProgram ?sb_Table_Table ?sb_Table_Maker ?sb_Maker_Program ?sb_Maker_RawProgram ?sb_Maker_Table ?sb_Maker_Maker ?sx_BadProgram_BadProgram ?sx_BadProgram_BadTable ?sx_BadProgram_NoNames ?sx_BadProgram_RoundError ?sx_BadTable_BadProgram ?sx_BadTable_BadTable ?sx_BadTable_NoNames ?sx_BadTable_RoundError ?sx_NoNames_BadProgram ?sx_NoNames_BadTable ?sx_NoNames_NoNames ?sx_NoNames_RoundError ?sx_RoundError_BadProgram ?sx_RoundError_BadTable ?sx_RoundError_NoNames ?sx_RoundError_RoundError ?na_Program_block ?na_Program_bounds ?na_Program_given ?na_Program_measures ?na_Program_rows ?na_Program_taken ?na_Program_told ?na_Program_used ?na_RawProgram_block ?na_RawProgram_bounds ?na_RawProgram_given ?na_RawProgram_measures ?na_RawProgram_rows ?na_RawProgram_taken ?na_RawProgram_told ?na_RawProgram_used ?na_Table_block ?na_Table_bounds ?na_Table_given ?na_Table_measures ?na_Table_rows ?na_Table_taken ?na_Table_told ?na_Table_used ?na_Maker_block ?na_Maker_bounds ?na_Maker_given ?na_Maker_measures ?na_Maker_rows ?na_Maker_taken ?na_Maker_told ?na_Maker_used ?z_ValueError ?z_abs ?z_all ?z_bool ?z_enumerate ?z_int ?z_isinstance ?z_len ?z_list ?z_max ?z_range ?z_set ?z_sorted ?z_str ?z_sum ?z_tuple ?z_zip ?hn ?ht ?q_LETTERS ?r_LETTERS ?q_MOST_CELLS ?r_MOST_CELLS ?q_MOST_FORMS ?r_MOST_FORMS ?q_MOST_NUMBERS ?r_MOST_NUMBERS ?q_MOST_STATEMENTS ?r_MOST_STATEMENTS ?q_MOST_TOLD ?r_MOST_TOLD
    (case ac_BadProgram => k_is)
    (case ac_BadTable => k_is)
    (case ac_Maker => k_is)
    (case ac_NoNames => k_is)
    (case ac_Program => k_is)
    (case ac_RawProgram => k_is)
    (case ac_RoundError => k_is)
    (case ac_Table => k_is)
    (case a_is_integer => k_is)
    (case l_is_integer => k_is)
    (case c_is_integer => k_is)
    (case k_is_integer => k_is)
    (case a_is_number => k_is)
    (case l_is_number => k_is)
    (case c_is_number => k_is)
    (case k_is_number => k_is)
    (case a_is_name => k_is)
    (case l_is_name => k_is)
    (case c_is_name => k_is)
    (case k_is_name => k_is)
    (case a_are_names => k_is)
    (case l_are_names => k_is)
    (case c_are_names => k_is)
    (case k_are_names => k_is)
    (case a_are_numbers => k_is)
    (case l_are_numbers => k_is)
    (case c_are_numbers => k_is)
    (case k_are_numbers => k_is)
    (case a_RawProgram___init__ => k_is)
    (case i_RawProgram___init__ => k_is)
    (case l_RawProgram___init__ => k_is)
    (case c_RawProgram___init__ => k_is)
    (case k_RawProgram___init__ => k_is)
    (case a_are_bounds => k_is)
    (case l_are_bounds => k_is)
    (case c_are_bounds => k_is)
    (case k_are_bounds => k_is)
    (case a_are_measures => k_is)
    (case l_are_measures => k_is)
    (case c_are_measures => k_is)
    (case k_are_measures => k_is)
    (case a_many_cells => k_is)
    (case l_many_cells => k_is)
    (case c_many_cells => k_is)
    (case k_many_cells => k_is)
    (case a_cells_of => k_is)
    (case l_cells_of => k_is)
    (case c_cells_of => k_is)
    (case k_cells_of => k_is)
    (case a_is_great => k_is)
    (case l_is_great => k_is)
    (case c_is_great => k_is)
    (case k_is_great => k_is)
    (case a_is_form => k_is)
    (case l_is_form => k_is)
    (case c_is_form => k_is)
    (case k_is_form => k_is)
    (case a_is_row => k_is)
    (case l_is_row => k_is)
    (case c_is_row => k_is)
    (case k_is_row => k_is)
    (case a_Table_keep => k_is)
    (case i_Table_keep => k_is)
    (case l_Table_keep => k_is)
    (case c_Table_keep => k_is)
    (case k_Table_keep => k_is)
    (case a_Table___init__ => k_is)
    (case i_Table___init__ => k_is)
    (case l_Table___init__ => k_is)
    (case c_Table___init__ => k_is)
    (case k_Table___init__ => k_is)
    (case a_many_results => k_is)
    (case l_many_results => k_is)
    (case c_many_results => k_is)
    (case k_many_results => k_is)
    (case a_name_by_number => k_is)
    (case l_name_by_number => k_is)
    (case c_name_by_number => k_is)
    (case k_name_by_number => k_is)
    (case a_Maker___init__ => k_is)
    (case i_Maker___init__ => k_is)
    (case l_Maker___init__ => k_is)
    (case c_Maker___init__ => k_is)
    (case k_Maker___init__ => k_is)
    (case a_Maker_fresh => k_is)
    (case i_Maker_fresh => k_is)
    (case l_Maker_fresh => k_is)
    (case c_Maker_fresh => k_is)
    (case k_Maker_fresh => k_is)
    (case a_Maker_many_fresh => k_is)
    (case i_Maker_many_fresh => k_is)
    (case l_Maker_many_fresh => k_is)
    (case c_Maker_many_fresh => k_is)
    (case k_Maker_many_fresh => k_is)
    (case a_Maker_put => k_is)
    (case i_Maker_put => k_is)
    (case l_Maker_put => k_is)
    (case c_Maker_put => k_is)
    (case k_Maker_put => k_is)
    (case a_Maker_one => k_is)
    (case i_Maker_one => k_is)
    (case l_Maker_one => k_is)
    (case c_Maker_one => k_is)
    (case k_Maker_one => k_is)
    (case a_Maker_copied_if => k_is)
    (case i_Maker_copied_if => k_is)
    (case l_Maker_copied_if => k_is)
    (case c_Maker_copied_if => k_is)
    (case k_Maker_copied_if => k_is)
    (case a_Maker_reached => k_is)
    (case i_Maker_reached => k_is)
    (case l_Maker_reached => k_is)
    (case c_Maker_reached => k_is)
    (case k_Maker_reached => k_is)
    (case a_Maker_divided => k_is)
    (case i_Maker_divided => k_is)
    (case l_Maker_divided => k_is)
    (case c_Maker_divided => k_is)
    (case k_Maker_divided => k_is)
    (case a_Maker_parted => k_is)
    (case i_Maker_parted => k_is)
    (case l_Maker_parted => k_is)
    (case c_Maker_parted => k_is)
    (case k_Maker_parted => k_is)
    (case a_Maker_cell_flag => k_is)
    (case i_Maker_cell_flag => k_is)
    (case l_Maker_cell_flag => k_is)
    (case c_Maker_cell_flag => k_is)
    (case k_Maker_cell_flag => k_is)
    (case a_Maker_constants => k_is)
    (case i_Maker_constants => k_is)
    (case l_Maker_constants => k_is)
    (case c_Maker_constants => k_is)
    (case k_Maker_constants => k_is)
    (case a_Maker_add_steps => k_is)
    (case i_Maker_add_steps => k_is)
    (case l_Maker_add_steps => k_is)
    (case c_Maker_add_steps => k_is)
    (case k_Maker_add_steps => k_is)
    (case a_Maker_result => k_is)
    (case i_Maker_result => k_is)
    (case l_Maker_result => k_is)
    (case c_Maker_result => k_is)
    (case k_Maker_result => k_is)
    (case a_program_for => k_is)
    (case l_program_for => k_is)
    (case c_program_for => k_is)
    (case k_program_for => k_is)
    (case a__law_pot => k_is)
    (case l__law_pot => k_is)
    (case c__law_pot => k_is)
    (case k__law_pot => k_is)
    (case a__law_draw => k_is)
    (case l__law_draw => k_is)
    (case c__law_draw => k_is)
    (case k__law_draw => k_is)
    (case a__law_mixed => k_is)
    (case l__law_mixed => k_is)
    (case c__law_mixed => k_is)
    (case k__law_mixed => k_is)
    (case a__law_cells => k_is)
    (case l__law_cells => k_is)
    (case c__law_cells => k_is)
    (case k__law_cells => k_is)
    (case a__law_table => k_is)
    (case l__law_table => k_is)
    (case c__law_table => k_is)
    (case k__law_table => k_is)
    (case a__law_deep => k_is)
    (case l__law_deep => k_is)
    (case c__law_deep => k_is)
    (case k__law_deep => k_is)
    (case a__law_is_names => k_is)
    (case l__law_is_names => k_is)
    (case c__law_is_names => k_is)
    (case k__law_is_names => k_is)
    (case a__law_word => k_is)
    (case l__law_word => k_is)
    (case c__law_word => k_is)
    (case k__law_word => k_is)
    (case a__law_bent => k_is)
    (case l__law_bent => k_is)
    (case c__law_bent => k_is)
    (case k__law_bent => k_is)
    (case a_law => k_is)
    (case l_law => k_is)
    (case c_law => k_is)
    (case k_law => k_is)
    (case cf_Program => (constructor <;> k_is))
    (case cf_RawProgram => (constructor <;> k_is))
    (case cf_Table => (constructor <;> k_is))
    (case cf_Maker => (constructor <;> k_is))
    (case xf_BadProgram => (constructor <;> k_is))
    (case xf_BadTable => (constructor <;> k_is))
    (case xf_NoNames => (constructor <;> k_is))
    (case xf_RoundError => (constructor <;> k_is))
    (case xi_NoNames => k_exc)
    (case xi_RoundError => k_exc)
    (case sb_Program_Program => k_is)
    (case sb_Program_RawProgram => k_is)
    (case sb_Program_Table => k_is)
    (case sb_Program_Maker => k_is)
    (case sb_RawProgram_Program => k_is)
    (case sb_RawProgram_RawProgram => k_is)
    (case sb_RawProgram_Table => k_is)
    (case sb_RawProgram_Maker => k_is)
    (case sb_Table_Program => k_is)
    (case sb_Table_RawProgram => k_is)
    (case sb_Table_Table => k_is)
    (case sb_Table_Maker => k_is)
    (case sb_Maker_Program => k_is)
    (case sb_Maker_RawProgram => k_is)
    (case sb_Maker_Table => k_is)
    (case sb_Maker_Maker => k_is)
    (case sx_BadProgram_BadProgram => k_is)
    (case sx_BadProgram_BadTable => k_is)
    (case sx_BadProgram_NoNames => k_is)
    (case sx_BadProgram_RoundError => k_is)
    (case sx_BadTable_BadProgram => k_is)
    (case sx_BadTable_BadTable => k_is)
    (case sx_BadTable_NoNames => k_is)
    (case sx_BadTable_RoundError => k_is)
    (case sx_NoNames_BadProgram => k_is)
    (case sx_NoNames_BadTable => k_is)
    (case sx_NoNames_NoNames => k_is)
    (case sx_NoNames_RoundError => k_is)
    (case sx_RoundError_BadProgram => k_is)
    (case sx_RoundError_BadTable => k_is)
    (case sx_RoundError_NoNames => k_is)
    (case sx_RoundError_RoundError => k_is)
    (case na_Program_block => k_is)
    (case na_Program_bounds => k_is)
    (case na_Program_given => k_is)
    (case na_Program_measures => k_is)
    (case na_Program_rows => k_is)
    (case na_Program_taken => k_is)
    (case na_Program_told => k_is)
    (case na_Program_used => k_is)
    (case na_RawProgram_block => k_is)
    (case na_RawProgram_bounds => k_is)
    (case na_RawProgram_given => k_is)
    (case na_RawProgram_measures => k_is)
    (case na_RawProgram_rows => k_is)
    (case na_RawProgram_taken => k_is)
    (case na_RawProgram_told => k_is)
    (case na_RawProgram_used => k_is)
    (case na_Table_block => k_is)
    (case na_Table_bounds => k_is)
    (case na_Table_given => k_is)
    (case na_Table_measures => k_is)
    (case na_Table_rows => k_is)
    (case na_Table_taken => k_is)
    (case na_Table_told => k_is)
    (case na_Table_used => k_is)
    (case na_Maker_block => k_is)
    (case na_Maker_bounds => k_is)
    (case na_Maker_given => k_is)
    (case na_Maker_measures => k_is)
    (case na_Maker_rows => k_is)
    (case na_Maker_taken => k_is)
    (case na_Maker_told => k_is)
    (case na_Maker_used => k_is)
    (case z_ValueError => k_is)
    (case z_abs => k_is)
    (case z_all => k_is)
    (case z_bool => k_is)
    (case z_enumerate => k_is)
    (case z_int => k_is)
    (case z_isinstance => k_is)
    (case z_len => k_is)
    (case z_list => k_is)
    (case z_max => k_is)
    (case z_range => k_is)
    (case z_set => k_is)
    (case z_sorted => k_is)
    (case z_str => k_is)
    (case z_sum => k_is)
    (case z_tuple => k_is)
    (case z_zip => k_is)
    (case hn => k_is)
    (case ht => k_is)
    (case q_LETTERS => k_is)
    (case r_LETTERS => exact ⟨_, rfl⟩)
    (case q_MOST_CELLS => k_is)
    (case r_MOST_CELLS => exact ⟨_, rfl⟩)
    (case q_MOST_FORMS => k_is)
    (case r_MOST_FORMS => exact ⟨_, rfl⟩)
    (case q_MOST_NUMBERS => k_is)
    (case r_MOST_NUMBERS => exact ⟨_, rfl⟩)
    (case q_MOST_STATEMENTS => k_is)
    (case r_MOST_STATEMENTS => exact ⟨_, rfl⟩)
    (case q_MOST_TOLD => k_is)
    (case r_MOST_TOLD => exact ⟨_, rfl⟩)
end
